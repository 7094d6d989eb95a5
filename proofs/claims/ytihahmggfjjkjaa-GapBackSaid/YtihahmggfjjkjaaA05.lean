/- If days are told the other way round all is the same of the same days -/
import Derived.OrdersIn
import Derived.ProofKit
import Derived.HandedShaped
import Derived.OpenShut
import Derived.Test.YtihahmggfjjkjaaA02
import Derived.Test.YtihahmggfjjkjaaA03
import Derived.Test.YtihahmggfjjkjaaA04
set_option linter.unusedVariables false
set_option linter.unusedSimpArgs false
namespace Go.Proofs.Ytihahmggfjjkjaa
open Go.AM Go.IntWalk Go.PL
set_option maxRecDepth 100000
set_option maxHeartbeats 4000000
set_option linter.unusedSimpArgs false
variable {H : AH} {R : AV → AH → Prop}
def cmpE (a b : Int) : Int := if a < b then -1 else if b < a then 1 else 0
theorem isNaN_run (a : Int) (k : R (.bool false) H) : CallQ prog (.func 92 [] []) [I a] H R := by
  have h : (!decide (a = a)) = false := by rw [decide_eq_true rfl]; rfl
  refine CallQ_enter (fn:=c92) rfl (Nat.le_of_ble_eq_true rfl) ?_;simp(maxSteps:=9999999)(disch:=first|omega|(simp only[AN];omega))only[c92,envFrom,h,↓KP,EN,↓reduceIte,reduceCtorEq,Nat.reduceEqDiff,Nat.reduceAdd,Nat.reduceLeDiff,Nat.reduceMul]
  exact k
theorem cmp_run (a b : Int) (k : R (I (cmpE a b)) H) : CallQ prog (.func 91 [] []) [I a, I b] H R := by
  unfold cmpE at k
  refine CallQ_enter (fn:=c91) rfl (Nat.le_of_ble_eq_true rfl) ?_;simp(maxSteps:=9999999)(disch:=first|omega|(simp only[AN];omega))only[c91,envFrom,↓KP,EN,↓reduceIte,reduceCtorEq,Nat.reduceEqDiff,Nat.reduceAdd,Nat.reduceLeDiff,Nat.reduceMul]
  first|refine C_call ?_|refine C_calld ?_
  refine isNaN_run a ?_
  simp(maxSteps:=9999999)(disch:=first|omega|(simp only[AN];omega))only[↓KP,EN,↓reduceIte,reduceCtorEq,Nat.reduceEqDiff,Nat.reduceAdd,Nat.reduceLeDiff,Nat.reduceMul]
  first|refine C_call ?_|refine C_calld ?_
  refine isNaN_run b ?_
  by_cases h1 : a < b
  · rw [if_pos h1] at k
    simp(maxSteps:=9999999)(disch:=first|omega|(simp only[AN];omega))only[h1,↓KP,EN,↓reduceIte,reduceCtorEq,Nat.reduceEqDiff,Nat.reduceAdd,Nat.reduceLeDiff,Nat.reduceMul]
    exact k
  · by_cases h2 : b < a
    · rw [if_neg h1, if_pos h2] at k
      simp(maxSteps:=9999999)(disch:=first|omega|(simp only[AN];omega))only[h1,h2,↓KP,EN,↓reduceIte,reduceCtorEq,Nat.reduceEqDiff,Nat.reduceAdd,Nat.reduceLeDiff,Nat.reduceMul]
      exact k
    · rw [if_neg h1, if_neg h2] at k
      simp(maxSteps:=9999999)(disch:=first|omega|(simp only[AN];omega))only[h1,h2,↓KP,EN,↓reduceIte,reduceCtorEq,Nat.reduceEqDiff,Nat.reduceAdd,Nat.reduceLeDiff,Nat.reduceMul]
      exact k
def compE : List Int → List Int → Int
  | [], [] => 0
  | [], _ :: _ => -1
  | _ :: _, [] => 1
  | a :: l, b :: m => if cmpE a b = 0 then compE l m else cmpE a b
theorem compE_drop {a b : List Int} (i : Nat) (ha : i < a.length) (hb : i < b.length) : compE (a.drop i) (b.drop i) = if cmpE a[i] b[i] = 0 then compE (a.drop (i + 1)) (b.drop (i + 1)) else cmpE a[i] b[i] := by
  rw [List.drop_eq_getElem_cons ha, List.drop_eq_getElem_cons hb, compE]
theorem Compare_run (v w : AV) (a b : List Int) (hv : IsInts (Old H) H v a) (hw : IsInts (Old H) H w b) (ha : a.length < 1000000000) (hb : b.length < 1000000000) (k : R (I (compE a b)) H) : CallQ prog (.func 76 [] []) [v, w] H R := by
  refine CallQ_enter (fn:=c76) rfl (Nat.le_of_ble_eq_true rfl) ?_;simp(maxSteps:=9999999)(disch:=first|omega|(simp only[AN];omega))only[c76,envFrom,hv.len,↓KP,EN,↓reduceIte,reduceCtorEq,Nat.reduceEqDiff,Nat.reduceAdd,Nat.reduceLeDiff,Nat.reduceMul]
  refine K_loop (fun mz ez H1 => ∃ (i : Nat) (tail : Env), ez = (0, v) :: (1, w) :: (4, I 0) :: (9, v) :: (10, I a.length) :: (11, I i) :: tail ∧ (H1 = H) ∧ (i ≤ a.length) ∧ (i ≤ b.length) ∧ (compE (a.drop i) (b.drop i) = compE a b) ∧ mz = a.length - i) _ ⟨0, _, rfl, ?_, ?_, ?_, ?_, rfl⟩ ?_
  iterate 4 (focus (first|(with_reducible rfl)|omega|(with_reducible(repeat first|exact Grew.refl _|assumption|apply Grew.alloc|refine Grew.set ?_ _ (by first|omega|(simp only[AN];omega)));done)|(simp(maxSteps:=9999999)(disch:=first|omega|(simp only[AN];omega))only[↓KP,EN,↓reduceIte,reduceCtorEq,Nat.reduceEqDiff,Nat.reduceAdd,Nat.reduceLeDiff,Nat.reduceMul]<;>first|omega|rfl)|(simp;done)|rfl))
  rintro mz ez H1 ⟨i, tail, rfl, hH, hia, hib, hl, hmz⟩; subst mz
  subst H1
  simp(maxSteps:=9999999)(disch:=first|omega|(simp only[AN];omega))only[↓KP,EN,↓reduceIte,reduceCtorEq,Nat.reduceEqDiff,Nat.reduceAdd,Nat.reduceLeDiff,Nat.reduceMul]
  refine C_decide (fun hc => ?_) (fun hc => ?_)
  · have hi' : i < a.length := by omega
    have e1 : IntKind.i64.wrap ((i : Int) + 1) = ((i + 1 : Nat) : Int) := i64_in _ (by omega)
    obtain ⟨p_b, p_i, p_ro, p_vs, p_lt, p⟩ := hv.rdInt rfl hi'
    by_cases h2 : i < b.length
    · have h2' : ¬ (b.length : Int) ≤ i := by omega
      obtain ⟨q_b, q_i, q_ro, q_vs, q_lt, q⟩ := hw.rdInt rfl h2
      rw [compE_drop i hi' h2] at hl
      simp(maxSteps:=9999999)(disch:=first|omega|(simp only[AN];omega))only[p,hw.len,h2',q,↓KP,EN,↓reduceIte,reduceCtorEq,Nat.reduceEqDiff,Nat.reduceAdd,Nat.reduceLeDiff,Nat.reduceMul]
      first|refine C_call ?_|refine C_calld ?_
      refine cmp_run a[i] b[i] ?_
      by_cases he : cmpE a[i] b[i] = 0
      · rw [if_pos he] at hl
        simp(maxSteps:=9999999)(disch:=first|omega|(simp only[AN];omega))only[he,e1,↓KP,EN,↓reduceIte,reduceCtorEq,Nat.reduceEqDiff,Nat.reduceAdd,Nat.reduceLeDiff,Nat.reduceMul]
        refine ⟨_, ?_, i + 1, _, rfl, ?_, ?_, ?_, ?_, rfl⟩ <;> (first|omega|(with_reducible assumption)|(with_reducible(repeat first|exact Grew.refl _|assumption|apply Grew.alloc|refine Grew.set ?_ _ (by first|omega|(simp only[AN];omega)));done)|(simp(maxSteps:=9999999)(disch:=first|omega|(simp only[AN];omega))only[↓KP,EN,↓reduceIte,reduceCtorEq,Nat.reduceEqDiff,Nat.reduceAdd,Nat.reduceLeDiff,Nat.reduceMul]<;>first|omega|rfl))
      · rw [if_neg he] at hl
        rw [← hl] at k
        simp(maxSteps:=9999999)(disch:=first|omega|(simp only[AN];omega))only[he,↓KP,EN,↓reduceIte,reduceCtorEq,Nat.reduceEqDiff,Nat.reduceAdd,Nat.reduceLeDiff,Nat.reduceMul]
        exact k
    · have h2' : (b.length : Int) ≤ i := by omega
      have hx : compE a b = 1 := by
        rw [← hl, List.drop_of_length_le (l := b) (by omega), List.drop_eq_getElem_cons hi', compE]
      rw [hx] at k
      simp(maxSteps:=9999999)(disch:=first|omega|(simp only[AN];omega))only[p,hw.len,h2',↓KP,EN,↓reduceIte,reduceCtorEq,Nat.reduceEqDiff,Nat.reduceAdd,Nat.reduceLeDiff,Nat.reduceMul]
      exact k
  · have hie : i = a.length := by omega
    by_cases h2 : i < b.length
    · have h2' : (a.length : Int) < b.length := by omega
      have hx : compE a b = -1 := by
        rw [← hl, List.drop_of_length_le (l := a) (by omega), List.drop_eq_getElem_cons h2, compE]
      rw [hx] at k
      simp(maxSteps:=9999999)(disch:=first|omega|(simp only[AN];omega))only[hv.len,hw.len,h2',↓KP,EN,↓reduceIte,reduceCtorEq,Nat.reduceEqDiff,Nat.reduceAdd,Nat.reduceLeDiff,Nat.reduceMul]
      exact k
    · have h2' : ¬ (a.length : Int) < b.length := by omega
      have hx : compE a b = 0 := by
        rw [← hl, List.drop_of_length_le (l := a) (by omega), List.drop_of_length_le (l := b) (by omega), compE]
      rw [hx] at k
      simp(maxSteps:=9999999)(disch:=first|omega|(simp only[AN];omega))only[hv.len,hw.len,h2',↓KP,EN,↓reduceIte,reduceCtorEq,Nat.reduceEqDiff,Nat.reduceAdd,Nat.reduceLeDiff,Nat.reduceMul]
      exact k
def bitsTo (j n : Nat) : List Int := (List.range n).filterMap fun (i : Nat) => if j.testBit i then some (i : Int) else none
theorem bitsTo_succ {j n : Nat} : bitsTo j (n + 1) = bitsTo j n ++ (if j.testBit n then [(n : Int)] else []) := by
  unfold bitsTo
  rw [List.range_succ, List.filterMap_append]
  congr 1
  cases h : j.testBit n <;> simp [h]
theorem bitsTo_length {j n : Nat} : (bitsTo j n).length ≤ n := by
  unfold bitsTo
  have := List.length_filterMap_le (fun (i : Nat) => if j.testBit i then some (i : Int) else none) (List.range n)
  simpa using this
theorem bitsTo_mem {j n k : Nat} (hk : k < n) : (k : Int) ∈ bitsTo j n ↔ j.testBit k = true := by
  unfold bitsTo
  rw [List.mem_filterMap]
  constructor
  · rintro ⟨i, _, h⟩
    by_cases hb : j.testBit i
    · rw [if_pos hb] at h
      have : (i : Int) = k := by simpa using h
      obtain rfl : i = k := by omega
      exact hb
    · rw [if_neg hb] at h; cases h
  · intro h
    exact ⟨k, by simpa using hk, by rw [if_pos h]⟩
def gtE (l b : List Int) : Bool := decide ((b.length : Int) < l.length) || (decide ((l.length : Int) = b.length) && decide (0 < compE l b))
def wStep (s : Series) (n : Nat) (a : Bool × List Int) (j : Nat) : Bool × List Int :=
  if a.1 = true ∧ gtE (bitsTo j n) a.2 = true then a else if 0 < (truthsB s j).length then (true, bitsTo j n) else a
def wTo (s : Series) (n m : Nat) : Bool × List Int := (List.range m).foldl (wStep s n) (false, [])
theorem wTo_succ {s : Series} {n m : Nat} : wTo s n (m + 1) = wStep s n (wTo s n m) m := by rw [wTo, List.range_succ, List.foldl_append]; rfl
def pWrong (s : Series) : List Int × Int := if errE s ≠ 0 then ([], errE s) else if (wTo s s.filled.length (2 ^ s.filled.length)).1 = true then ((wTo s s.filled.length (2 ^ s.filled.length)).2, 0) else ([], 8)
theorem cand_rank : ∀ n, n ≤ 4 → (∀ i, i < (candTo n (n + 1)).length → ∀ j, j < (candTo n (n + 1)).length → gtE ((candTo n (n + 1)).getD i []) ((candTo n (n + 1)).getD j []) = decide (j < i)) ∧ (∀ j, j < 2 ^ n → bitsTo j n ∈ candTo n (n + 1)) ∧ (∀ c ∈ candTo n (n + 1), ∃ j, j < 2 ^ n ∧ bitsTo j n = c) := by
  decide +kernel
theorem fold_first {C : List (List Int)} {good : List Int → Bool} (hr : ∀ i, i < C.length → ∀ j, j < C.length → gtE (C.getD i []) (C.getD j []) = decide (j < i)) :
    ∀ (D : List (List Int)), (∀ d ∈ D, d ∈ C) → ∀ a : Bool × List Int, (a.1 = true → a.2 ∈ C) →
      ∃ r : Bool × List Int, r = D.foldl (fun a l => if a.1 = true ∧ gtE l a.2 = true then a else if good l = true then (true, l) else a) a ∧
        (r.1 = true → (r.2 ∈ C ∧ (r = a ∨ good r.2 = true)) ∧ (a.1 = true → r.2 = a.2 ∨ gtE a.2 r.2 = true) ∧ ∀ d ∈ D, good d = true → d = r.2 ∨ gtE d r.2 = true) ∧ (r.1 = false → r = a ∧ ∀ d ∈ D, good d = false)
  | [], _, a, ha => ⟨a, rfl, fun h => ⟨⟨ha h, .inl rfl⟩, fun _ => .inl rfl, fun d hd => by cases hd⟩, fun _ => ⟨rfl, fun d hd => by cases hd⟩⟩
  | l :: D, hD, a, ha => by
    have idx : ∀ {x}, x ∈ C → ∃ i, i < C.length ∧ x = C.getD i [] := fun {x} hx => by
      obtain ⟨i, hi, rfl⟩ := List.getElem_of_mem hx
      exact ⟨i, hi, by simp [hi]⟩
    have trans : ∀ {x y z}, x ∈ C → y ∈ C → z ∈ C → (x = y ∨ gtE x y = true) → (y = z ∨ gtE y z = true) → (x = z ∨ gtE x z = true) := fun {x y z} hx hy hz h1 h2 => by
      rcases h1 with rfl | h1
      · exact h2
      · rcases h2 with rfl | h2
        · exact .inr h1
        · obtain ⟨i, hi, rfl⟩ := idx hx
          obtain ⟨j, hj, rfl⟩ := idx hy
          obtain ⟨k, hk, rfl⟩ := idx hz
          rw [hr _ hi _ hj, decide_eq_true_eq] at h1
          rw [hr _ hj _ hk, decide_eq_true_eq] at h2
          exact .inr (by rw [hr _ hi _ hk, decide_eq_true_eq]; omega)
    have tot : ∀ {x y}, x ∈ C → y ∈ C → gtE x y = false → (y = x ∨ gtE y x = true) := fun {x y} hx hy h1 => by
      obtain ⟨i, hi, rfl⟩ := idx hx
      obtain ⟨j, hj, rfl⟩ := idx hy
      rw [hr _ hi _ hj, decide_eq_false_iff_not] at h1
      by_cases hij : i = j
      · subst hij; exact .inl rfl
      · exact .inr (by rw [hr _ hj _ hi, decide_eq_true_eq]; omega)
    have hl : l ∈ C := hD l (by simp)
    by_cases h1 : a.1 = true ∧ gtE l a.2 = true
    · obtain ⟨r, hr1, hr2, hr3⟩ := fold_first hr D (fun d hd => hD d (by simp [hd])) a ha
      refine ⟨r, by rw [List.foldl_cons, if_pos h1]; exact hr1, fun h => ⟨(hr2 h).1, (hr2 h).2.1, fun d hd hg => ?_⟩, fun h => ?_⟩
      · rcases List.mem_cons.1 hd with rfl | hd
        · exact trans hl (ha h1.1) (hr2 h).1.1 (.inr h1.2) (((hr2 h).2.1 h1.1).imp Eq.symm id)
        · exact (hr2 h).2.2 d hd hg
      · have := (hr3 h).1
        rw [this, h1.1] at h; cases h
    · by_cases h2 : good l = true
      · obtain ⟨r, hr1, hr2, hr3⟩ := fold_first hr D (fun d hd => hD d (by simp [hd])) (true, l) (fun _ => hl)
        refine ⟨r, by rw [List.foldl_cons, if_neg h1, if_pos h2]; exact hr1, fun h => ⟨⟨(hr2 h).1.1, ?_⟩, fun ha1 => ?_, fun d hd hg => ?_⟩, fun h => ?_⟩
        · rcases (hr2 h).1.2 with e | e
          · rw [e]; exact .inr h2
          · exact .inr e
        · have hx : gtE l a.2 = false := by
            cases hg : gtE l a.2 with
            | false => rfl
            | true => exact absurd ⟨ha1, hg⟩ h1
          rcases trans (ha ha1) hl (hr2 h).1.1 (tot hl (ha ha1) hx) (((hr2 h).2.1 rfl).imp Eq.symm id) with e | e
          · exact .inl e.symm
          · exact .inr e
        · rcases List.mem_cons.1 hd with rfl | hd
          · rcases (hr2 h).2.1 rfl with e | e
            · exact .inl e.symm
            · exact .inr e
          · exact (hr2 h).2.2 d hd hg
        · have := (hr3 h).1
          rw [this] at h; cases h
      · obtain ⟨r, hr1, hr2, hr3⟩ := fold_first hr D (fun d hd => hD d (by simp [hd])) a ha
        refine ⟨r, by rw [List.foldl_cons, if_neg h1, if_neg h2]; exact hr1, fun h => ⟨(hr2 h).1, (hr2 h).2.1, fun d hd hg => ?_⟩, fun h => ⟨(hr3 h).1, fun d hd => ?_⟩⟩
        · rcases List.mem_cons.1 hd with rfl | hd
          · exact absurd hg h2
          · exact (hr2 h).2.2 d hd hg
        · rcases List.mem_cons.1 hd with rfl | hd
          · simpa using h2
          · exact (hr3 h).2 d hd
theorem pWrong_eq {s : Series} : pWrong s = wrongE s := by
  unfold pWrong wrongE
  by_cases he : errE s = 0
  · have hfine := fine_of he
    have hfl := hfine.fl
    have hne : ¬ errE s ≠ 0 := fun h => h he
    rw [if_neg hne, if_neg hne]
    obtain ⟨q1, q2, q3⟩ := cand_rank s.filled.length hfl
    have hgood : ∀ j, decide (0 < (truthsB s j).length) = goodE s (bitsTo j s.filled.length) := fun j => by
      rw [goodE, truthsB_eq hfine (bl := bitsTo j s.filled.length) fun k hk => by rw [Bool.eq_iff_iff, decide_eq_true_eq]; exact (bitsTo_mem hk).symm]
      exact decide_eq_decide.2 List.length_pos_iff
    have hw : wTo s s.filled.length (2 ^ s.filled.length) = ((List.range (2 ^ s.filled.length)).map fun j => bitsTo j s.filled.length).foldl (fun a l => if a.1 = true ∧ gtE l a.2 = true then a else if goodE s l = true then (true, l) else a) (false, []) := by
      rw [List.foldl_map, wTo]
      congr 1
      funext a j
      rw [wStep, ← hgood j]
      simp only [decide_eq_true_eq]
    obtain ⟨r, hr1, hr2, hr3⟩ := fold_first (good := goodE s) q1 ((List.range (2 ^ s.filled.length)).map fun j => bitsTo j s.filled.length) (fun d hd => by
      obtain ⟨j, hj, rfl⟩ := List.mem_map.1 hd
      exact q2 j (by simpa using hj)) (false, []) (fun h => by cases h)
    rw [hw, ← hr1]
    have hmem : ∀ c ∈ candTo s.filled.length (s.filled.length + 1), c ∈ (List.range (2 ^ s.filled.length)).map fun j => bitsTo j s.filled.length := fun c hc => by
      obtain ⟨j, hj, rfl⟩ := q3 c hc
      exact List.mem_map.2 ⟨j, by simpa using hj, rfl⟩
    generalize candTo s.filled.length (s.filled.length + 1) = C at *
    cases hr : r.1 with
    | false =>
      have hno : C.find? (goodE s) = none := List.find?_eq_none.2 fun c hc => by rw [(hr3 hr).2 c (hmem c hc)]; simp
      rw [hno]; rfl
    | true =>
      obtain ⟨⟨h1, h2⟩, _, h4⟩ := hr2 hr
      have h2' : goodE s r.2 = true := by
        rcases h2 with e | e
        · rw [e] at hr; cases hr
        · exact e
      rw [if_pos rfl]
      cases hf : C.find? (goodE s) with
      | none => exact absurd h2' (List.find?_eq_none.1 hf _ h1)
      | some c =>
        obtain ⟨hg, la, lb, e1, e2⟩ := List.find?_eq_some_iff_append.1 hf
        have hcm : c ∈ C := by rw [e1]; simp
        rcases h4 c (hmem c hcm) hg with e | e
        · rw [e]
        · exfalso
          obtain ⟨i, hi, hri⟩ := List.getElem_of_mem h1
          have hrl : la.length < C.length := by rw [e1]; simp
          have hcl : C.getD la.length [] = c := by simp [e1]
          have hrc : C.getD i [] = r.2 := by simp [hi, hri]
          rw [← hcl, ← hrc, q1 _ hrl _ hi, decide_eq_true_eq] at e
          have : C[i] ∈ la := by
            have : C[i]? = la[i]? := by rw [e1, List.getElem?_append_left e]
            rw [List.getElem?_eq_getElem hi, List.getElem?_eq_getElem e, Option.some.injEq] at this
            rw [this]; exact List.getElem_mem e
          have := e2 _ this
          rw [hri, h2'] at this
          simp at this
  · rw [if_pos he, if_pos he]
end Go.Proofs.Ytihahmggfjjkjaa
namespace Go.Proofs.Ytihahmggfjjkjaa
open Go.AM Go.IntWalk Go.PL
set_option maxRecDepth 100000
set_option maxHeartbeats 4000000
set_option linter.unusedSimpArgs false
variable {H : AH} {R : AV → AH → Prop}
theorem pow_le16 {n : Nat} (h : n ≤ 4) : 2 ^ n ≤ 16 := Nat.le_trans (Nat.pow_le_pow_right (by omega) h) (Nat.le_refl _)
theorem wTo_len {s : Series} {n : Nat} : ∀ m, (wTo s n m).2.length ≤ n
  | 0 => Nat.zero_le _
  | m + 1 => by
    have ih := wTo_len (s := s) (n := n) m
    rw [wTo_succ, wStep]
    split
    · exact ih
    · split
      · exact bitsTo_length
      · exact ih
theorem Wrong_run (vl vg vf : AV) (s : Series) (hh : IsSer (Old H) H vl vg vf s) (hs : Sized s)
    (k : ∀ H' v, Grew H H' → IsInts (Old H') H' v (wrongE s).1 → R (.tuple [v, I (wrongE s).2]) H') : CallQ prog (.func 32 [] []) [serArg vl vg vf s] H R := by
  rw [← pWrong_eq, pWrong] at k
  refine CallQ_enter (fn:=c32) rfl (Nat.le_of_ble_eq_true rfl) ?_;simp(maxSteps:=9999999)(disch:=first|omega|(simp only[AN];omega))only[c32,envFrom,hh.l.isCell,hh.g.isCell,hh.f.isCell,↓KP,EN,↓reduceIte,reduceCtorEq,Nat.reduceEqDiff,Nat.reduceAdd,Nat.reduceLeDiff,Nat.reduceMul]
  first|refine C_call ?_|refine C_calld ?_
  refine Check_run vl vg vf s (hh.grow GW) hs fun H1 hg1 => ?_
  have hg1n:=hg1.next;try simp only[AN]at hg1n
  have hg1' : Grew H H1 := Grew.trans GW hg1
  have hbox1 : H1.get H.next = some (.cells false [vl, I s.lo, I s.hi, vg, .bool s.unseen, vf]) := by simp(maxSteps:=9999999)(disch:=first|omega|(simp only[AN];omega))only[hg1.get,↓KP,EN,↓reduceIte,reduceCtorEq,Nat.reduceEqDiff,Nat.reduceAdd,Nat.reduceLeDiff,Nat.reduceMul]
  by_cases he : (checkE s).2.2 = 0
  · have he' : errE s = 0 := he
    have hfine := fine_of he'
    have hfl := hfine.fl
    rw [if_neg (fun h => h he')] at k
    have hsh := shl_one (s.filled.length : Int) (by omega)
    rw [Int.toNat_natCast] at hsh
    have hq := pow_le16 hfl
    simp(maxSteps:=9999999)(disch:=first|omega|(simp only[AN];omega))only[he,hbox1,hh.f.len,hsh,↓KP,EN,↓reduceIte,reduceCtorEq,Nat.reduceEqDiff,Nat.reduceAdd,Nat.reduceLeDiff,Nat.reduceMul]
    generalize hN : s.filled.length = n at *
    generalize 2 ^ n = q at *
    refine K_loop (fun mz ez H2 => ∃ (j : Nat) (vb : AV) (a : Bool × List Int) (tail : Env), ez = (0, serArg vl vg vf s) :: (1, .ptr H.next 0) :: (2, vb) :: (3, I 0) :: tail ∧ (tail.get 4 = some (.bool a.1)) ∧ (tail.get 20 = some (I q)) ∧ (tail.get 21 = some (I j)) ∧ (Grew H1 H2) ∧ (j ≤ q) ∧ (a = wTo s n j) ∧ (IsInts (Old H2) H2 vb a.2) ∧ mz = q - j) _ ⟨0, .nilslice, (false, []), _, rfl, ?_, ?_, ?_, ?_, ?_, (by rfl), (by exact .inl ⟨rfl, rfl⟩), rfl⟩ ?_
    iterate 5 (focus (first|(with_reducible rfl)|omega|(with_reducible(repeat first|exact Grew.refl _|assumption|apply Grew.alloc|refine Grew.set ?_ _ (by first|omega|(simp only[AN];omega)));done)|(simp(maxSteps:=9999999)(disch:=first|omega|(simp only[AN];omega))only[↓KP,EN,↓reduceIte,reduceCtorEq,Nat.reduceEqDiff,Nat.reduceAdd,Nat.reduceLeDiff,Nat.reduceMul]<;>first|omega|rfl)|(simp;done)|rfl))
    rintro mz ez H2 ⟨j, vb, a, tail, rfl, f4, f20, f21, hG, hj, ha, hvb, hmz⟩; subst mz; have hGn := hG.next
    have hst : wTo s n (j + 1) = wStep s n (wTo s n j) j := wTo_succ
    rw [← ha, wStep] at hst
    have hal : a.2.length ≤ n := by rw [ha]; exact wTo_len _
    simp(maxSteps:=9999999)(disch:=first|omega|(simp only[AN];omega))only[f20,f21,↓KP,EN,↓reduceIte,reduceCtorEq,Nat.reduceEqDiff,Nat.reduceAdd,Nat.reduceLeDiff,Nat.reduceMul]
    refine C_decide (fun hc => ?_) (fun hc => ?_)
    · have hj' : j < q := by omega
      have e1 : IntKind.i64.wrap ((j : Int) + 1) = ((j + 1 : Nat) : Int) := i64_in _ (by omega)
      simp(maxSteps:=9999999)(disch:=first|omega|(simp only[AN];omega))only[f20,f21,hG.get,hbox1,hh.f.len,hN,↓KP,EN,↓reduceIte,reduceCtorEq,Nat.reduceEqDiff,Nat.reduceAdd,Nat.reduceLeDiff,Nat.reduceMul]
      refine K_loop (fun mz ez H3 => ∃ (i : Nat) (vq : AV) (tail : Env), ez = (0, serArg vl vg vf s) :: (1, .ptr H.next 0) :: (2, vb) :: (3, I 0) :: tail ∧ (tail.get 4 = some (.bool a.1)) ∧ (tail.get 20 = some (I q)) ∧ (tail.get 21 = some (I j)) ∧ (tail.get 5 = some (I j)) ∧ (tail.get 6 = some vq) ∧ (tail.get 26 = some (I n)) ∧ (tail.get 27 = some (I i)) ∧ (Grew H2 H3) ∧ (i ≤ n) ∧ (Mine 1 EInt (fun _ => False) H2.next H3 vq (bitsTo j i)) ∧ mz = n - i) _ ⟨0, .nilslice, _, rfl, (by simp(maxSteps:=9999999)(disch:=first|omega|(simp only[AN];omega))only[f4,↓KP,EN,↓reduceIte,reduceCtorEq,Nat.reduceEqDiff,Nat.reduceAdd,Nat.reduceLeDiff,Nat.reduceMul]), (by simp(maxSteps:=9999999)(disch:=first|omega|(simp only[AN];omega))only[f20,↓KP,EN,↓reduceIte,reduceCtorEq,Nat.reduceEqDiff,Nat.reduceAdd,Nat.reduceLeDiff,Nat.reduceMul]), (by simp(maxSteps:=9999999)(disch:=first|omega|(simp only[AN];omega))only[f21,↓KP,EN,↓reduceIte,reduceCtorEq,Nat.reduceEqDiff,Nat.reduceAdd,Nat.reduceLeDiff,Nat.reduceMul]), ?_, ?_, ?_, ?_, ?_, ?_, (by exact Mine.nil), rfl⟩ ?_
      iterate 6 (focus (first|(with_reducible rfl)|omega|(with_reducible(repeat first|exact Grew.refl _|assumption|apply Grew.alloc|refine Grew.set ?_ _ (by first|omega|(simp only[AN];omega)));done)|(simp(maxSteps:=9999999)(disch:=first|omega|(simp only[AN];omega))only[↓KP,EN,↓reduceIte,reduceCtorEq,Nat.reduceEqDiff,Nat.reduceAdd,Nat.reduceLeDiff,Nat.reduceMul]<;>first|omega|rfl)|(simp;done)|rfl))
      rintro mz ez H3 ⟨i, vq, tail, rfl, g4, g20, g21, g5, g6, g26, g27, hG3, hi, hvq, hmz⟩; subst mz; have hG3n := hG3.next
      simp(maxSteps:=9999999)(disch:=first|omega|(simp only[AN];omega))only[g26,g27,↓KP,EN,↓reduceIte,reduceCtorEq,Nat.reduceEqDiff,Nat.reduceAdd,Nat.reduceLeDiff,Nat.reduceMul]
      refine C_decide (fun hc2 => ?_) (fun hc2 => ?_)
      · have hi' : i < n := by omega
        have e2 : IntKind.i64.wrap ((i : Int) + 1) = ((i + 1 : Nat) : Int) := i64_in _ (by omega)
        have hbs := bitsTo_succ (j := j) (n := i)
        have hbl := bitsTo_length (j := j) (n := i)
        have s1 := shr_nat j i (by omega)
        have s2 := and_one (j / 2 ^ i) (Nat.lt_of_le_of_lt (Nat.div_le_self _ _) (by omega))
        have s3 := bit_is j i
        cases hb : j.testBit i with
        | true =>
          rw [hb] at s3
          rw [hb, if_pos rfl] at hbs
          have s4 : ((j / 2 ^ i % 2 : Nat) : Int) = 1 := of_decide_eq_true s3
          obtain ⟨vb', H5, b1, b2, b3, b4⟩ := hvq.push (bytes := 8) (cs := [I (i : Int)]) (a := (i : Int)) (F := fun _ => False) EInt.stays (by omega) rfl (fun _ h => h.elim) rfl rfl (by omega)
          simp(maxSteps:=9999999)(disch:=first|omega|(simp only[AN];omega))only[g5,g6,g27,s1,s2,eq_true s4,b1,e2,↓KP,EN,↓reduceIte,reduceCtorEq,Nat.reduceEqDiff,Nat.reduceAdd,Nat.reduceLeDiff,Nat.reduceMul]
          refine ⟨_, ?_, i + 1, vb', _, rfl, ?_, ?_, ?_, ?_, ?_, ?_, ?_, (by exact ⟨by omega, fun b hb => by simp(maxSteps:=9999999)(disch:=first|omega|(simp only[AN];omega))only[b4,hG3.get,↓KP,EN,↓reduceIte,reduceCtorEq,Nat.reduceEqDiff,Nat.reduceAdd,Nat.reduceLeDiff,Nat.reduceMul]⟩), ?_, (by rw [hbs]; exact b2), rfl⟩ <;> (first|omega|(with_reducible assumption)|(with_reducible(repeat first|exact Grew.refl _|assumption|apply Grew.alloc|refine Grew.set ?_ _ (by first|omega|(simp only[AN];omega)));done)|(simp(maxSteps:=9999999)(disch:=first|omega|(simp only[AN];omega))only[g4,g20,g21,g5,g26,↓KP,EN,↓reduceIte,reduceCtorEq,Nat.reduceEqDiff,Nat.reduceAdd,Nat.reduceLeDiff,Nat.reduceMul]<;>first|omega|rfl))
        | false =>
          rw [hb] at s3
          rw [hb, if_neg (by simp), List.append_nil] at hbs
          have s4 : ¬ ((j / 2 ^ i % 2 : Nat) : Int) = 1 := of_decide_eq_false s3
          simp(maxSteps:=9999999)(disch:=first|omega|(simp only[AN];omega))only[g5,g6,g27,s1,s2,s4,e2,↓KP,EN,↓reduceIte,reduceCtorEq,Nat.reduceEqDiff,Nat.reduceAdd,Nat.reduceLeDiff,Nat.reduceMul]
          refine ⟨_, ?_, i + 1, vq, _, rfl, ?_, ?_, ?_, ?_, ?_, ?_, ?_, ?_, ?_, (by rw [hbs]; exact hvq), rfl⟩ <;> (first|omega|(with_reducible assumption)|(with_reducible(repeat first|exact Grew.refl _|assumption|apply Grew.alloc|refine Grew.set ?_ _ (by first|omega|(simp only[AN];omega))|refine Grew.trans ?_ hG3);done)|(simp(maxSteps:=9999999)(disch:=first|omega|(simp only[AN];omega))only[g4,g20,g21,g5,g6,g26,hG3.get,↓KP,EN,↓reduceIte,reduceCtorEq,Nat.reduceEqDiff,Nat.reduceAdd,Nat.reduceLeDiff,Nat.reduceMul]<;>first|omega|rfl))
      · have hin : i = n := by omega
        subst hin
        have hbl := bitsTo_length (j := j) (n := i)
        have hvqs := hvq.sl EInt.stays
        have hvb3 := hvb.grow EInt.stays hG3
        have hgH3 : Grew H H3 := hg1'.trans (hG.trans hG3)
        have hgx : gtE (bitsTo j i) a.2 = (decide ((a.2.length : Int) < (bitsTo j i).length) || (decide (((bitsTo j i).length : Int) = a.2.length) && decide (0 < compE (bitsTo j i) a.2))) := rfl
        generalize bitsTo j i = L at *
        cases ha1 : a.1 with
        | false =>
          rw [ha1] at g4 hst
          simp(maxSteps:=9999999)(disch:=first|omega|(simp only[AN];omega))only[g4,↓KP,EN,↓reduceIte,reduceCtorEq,Nat.reduceEqDiff,Nat.reduceAdd,Nat.reduceLeDiff,Nat.reduceMul]
          simp(maxSteps:=9999999)(disch:=first|omega|(simp only[AN];omega))only[g5,hG3.get,hG.get,hbox1,↓KP,EN,↓reduceIte,reduceCtorEq,Nat.reduceEqDiff,Nat.reduceAdd,Nat.reduceLeDiff,Nat.reduceMul]
          first|refine C_call ?_|refine C_calld ?_
          refine look_run vl vg vf s j (hh.grow hgH3) fun H4 p m hg4 hm4 hheld => ?_
          have hg4n := hg4.next
          simp(maxSteps:=9999999)(disch:=first|omega|(simp only[AN];omega))only[↓KP,EN,↓reduceIte,reduceCtorEq,Nat.reduceEqDiff,Nat.reduceAdd,Nat.reduceLeDiff,Nat.reduceMul]
          first|refine C_call ?_|refine C_calld ?_
          refine some_run hfine (by omega) hheld fun H5 hg5 hh5 => ?_
          have hg5' : Grew H3 H5 := ⟨by have := hg5.next; omega, fun b hb' => by rw [hg5.get b (by omega) (by omega), hg4.get b hb']⟩
          have hg5n := hg5'.next
          by_cases ht : 0 < (truthsB s j).length
          · rw [if_neg (by simp), if_pos ht] at hst
            simp(maxSteps:=9999999)(disch:=first|omega|(simp only[AN];omega))only[ht,↓KP,EN,↓reduceIte,reduceCtorEq,Nat.reduceEqDiff,Nat.reduceAdd,Nat.reduceLeDiff,Nat.reduceMul]
            simp(maxSteps:=9999999)(disch:=first|omega|(simp only[AN];omega))only[g4,g6,g20,g21,e1,↓KP,EN,↓reduceIte,reduceCtorEq,Nat.reduceEqDiff,Nat.reduceAdd,Nat.reduceLeDiff,Nat.reduceMul]
            refine ⟨_, ?_, j + 1, vq, (true, L), _, rfl, ?_, ?_, ?_, ?_, ?_, (by exact hst.symm), (by exact hvqs.grow EInt.stays hg5'), rfl⟩ <;> (first|omega|(with_reducible assumption)|(with_reducible(repeat first|exact Grew.refl _|assumption|apply Grew.alloc|refine Grew.set ?_ _ (by first|omega|(simp only[AN];omega))|refine Grew.trans ?_ hg5'|refine Grew.trans ?_ hG3|refine Grew.trans ?_ hG);done)|(simp(maxSteps:=9999999)(disch:=first|omega|(simp only[AN];omega))only[g4,g6,g20,g21,e1,hg5'.get,hG3.get,hG.get,↓KP,EN,↓reduceIte,reduceCtorEq,Nat.reduceEqDiff,Nat.reduceAdd,Nat.reduceLeDiff,Nat.reduceMul]<;>first|omega|rfl))
          · rw [if_neg (by simp), if_neg ht] at hst
            simp(maxSteps:=9999999)(disch:=first|omega|(simp only[AN];omega))only[ht,↓KP,EN,↓reduceIte,reduceCtorEq,Nat.reduceEqDiff,Nat.reduceAdd,Nat.reduceLeDiff,Nat.reduceMul]
            simp(maxSteps:=9999999)(disch:=first|omega|(simp only[AN];omega))only[g4,g6,g20,g21,e1,↓KP,EN,↓reduceIte,reduceCtorEq,Nat.reduceEqDiff,Nat.reduceAdd,Nat.reduceLeDiff,Nat.reduceMul]
            refine ⟨_, ?_, j + 1, vb, a, _, rfl, (by rw [ha1]; simp(maxSteps:=9999999)(disch:=first|omega|(simp only[AN];omega))only[g4,↓KP,EN,↓reduceIte,reduceCtorEq,Nat.reduceEqDiff,Nat.reduceAdd,Nat.reduceLeDiff,Nat.reduceMul]), ?_, ?_, ?_, ?_, (by exact hst.symm), (by exact hvb3.grow EInt.stays hg5'), rfl⟩ <;> (first|omega|(with_reducible assumption)|(with_reducible(repeat first|exact Grew.refl _|assumption|apply Grew.alloc|refine Grew.set ?_ _ (by first|omega|(simp only[AN];omega))|refine Grew.trans ?_ hg5'|refine Grew.trans ?_ hG3|refine Grew.trans ?_ hG);done)|(simp(maxSteps:=9999999)(disch:=first|omega|(simp only[AN];omega))only[g4,g6,g20,g21,e1,hg5'.get,hG3.get,hG.get,↓KP,EN,↓reduceIte,reduceCtorEq,Nat.reduceEqDiff,Nat.reduceAdd,Nat.reduceLeDiff,Nat.reduceMul]<;>first|omega|rfl))
        | true =>
          rw [ha1] at g4 hst
          by_cases c1 : (a.2.length : Int) < L.length
          · rw [decide_eq_true c1, Bool.true_or] at hgx
            rw [if_pos ⟨rfl, hgx⟩] at hst
            simp(maxSteps:=9999999)(disch:=first|omega|(simp only[AN];omega))only[g4,g6,hvq.len,hvb.len,c1,↓KP,EN,↓reduceIte,reduceCtorEq,Nat.reduceEqDiff,Nat.reduceAdd,Nat.reduceLeDiff,Nat.reduceMul]
            simp(maxSteps:=9999999)(disch:=first|omega|(simp only[AN];omega))only[g4,g6,g20,g21,e1,↓KP,EN,↓reduceIte,reduceCtorEq,Nat.reduceEqDiff,Nat.reduceAdd,Nat.reduceLeDiff,Nat.reduceMul]
            refine ⟨_, ?_, j + 1, vb, a, _, rfl, (by rw [ha1]; simp(maxSteps:=9999999)(disch:=first|omega|(simp only[AN];omega))only[g4,↓KP,EN,↓reduceIte,reduceCtorEq,Nat.reduceEqDiff,Nat.reduceAdd,Nat.reduceLeDiff,Nat.reduceMul]), ?_, ?_, ?_, ?_, (by exact hst.symm), (by exact hvb3), rfl⟩ <;> (first|omega|(with_reducible assumption)|(with_reducible(repeat first|exact Grew.refl _|assumption|apply Grew.alloc|refine Grew.set ?_ _ (by first|omega|(simp only[AN];omega))|refine Grew.trans ?_ hG3|refine Grew.trans ?_ hG);done)|(simp(maxSteps:=9999999)(disch:=first|omega|(simp only[AN];omega))only[g4,g6,g20,g21,e1,hG3.get,hG.get,↓KP,EN,↓reduceIte,reduceCtorEq,Nat.reduceEqDiff,Nat.reduceAdd,Nat.reduceLeDiff,Nat.reduceMul]<;>first|omega|rfl))
          · by_cases c2 : (L.length : Int) = a.2.length
            · simp(maxSteps:=9999999)(disch:=first|omega|(simp only[AN];omega))only[g4,g6,hvq.len,hvb.len,c1,eq_true c2,↓KP,EN,↓reduceIte,reduceCtorEq,Nat.reduceEqDiff,Nat.reduceAdd,Nat.reduceLeDiff,Nat.reduceMul]
              first|refine C_call ?_|refine C_calld ?_
              refine Compare_run vq vb L a.2 hvqs hvb3 (by omega) (by omega) ?_
              by_cases c3 : 0 < compE L a.2
              · rw [decide_eq_true c2, decide_eq_true c3, Bool.true_and, Bool.or_true] at hgx
                rw [if_pos ⟨rfl, hgx⟩] at hst
                simp(maxSteps:=9999999)(disch:=first|omega|(simp only[AN];omega))only[c3,↓KP,EN,↓reduceIte,reduceCtorEq,Nat.reduceEqDiff,Nat.reduceAdd,Nat.reduceLeDiff,Nat.reduceMul]
                simp(maxSteps:=9999999)(disch:=first|omega|(simp only[AN];omega))only[g4,g6,g20,g21,e1,↓KP,EN,↓reduceIte,reduceCtorEq,Nat.reduceEqDiff,Nat.reduceAdd,Nat.reduceLeDiff,Nat.reduceMul]
                refine ⟨_, ?_, j + 1, vb, a, _, rfl, (by rw [ha1]; simp(maxSteps:=9999999)(disch:=first|omega|(simp only[AN];omega))only[g4,↓KP,EN,↓reduceIte,reduceCtorEq,Nat.reduceEqDiff,Nat.reduceAdd,Nat.reduceLeDiff,Nat.reduceMul]), ?_, ?_, ?_, ?_, (by exact hst.symm), (by exact hvb3), rfl⟩ <;> (first|omega|(with_reducible assumption)|(with_reducible(repeat first|exact Grew.refl _|assumption|apply Grew.alloc|refine Grew.set ?_ _ (by first|omega|(simp only[AN];omega))|refine Grew.trans ?_ hG3|refine Grew.trans ?_ hG);done)|(simp(maxSteps:=9999999)(disch:=first|omega|(simp only[AN];omega))only[g4,g6,g20,g21,e1,hG3.get,hG.get,↓KP,EN,↓reduceIte,reduceCtorEq,Nat.reduceEqDiff,Nat.reduceAdd,Nat.reduceLeDiff,Nat.reduceMul]<;>first|omega|rfl))
              · rw [decide_eq_false c1, decide_eq_false c3, Bool.and_false, Bool.or_false] at hgx
                simp(maxSteps:=9999999)(disch:=first|omega|(simp only[AN];omega))only[c3,↓KP,EN,↓reduceIte,reduceCtorEq,Nat.reduceEqDiff,Nat.reduceAdd,Nat.reduceLeDiff,Nat.reduceMul]
                simp(maxSteps:=9999999)(disch:=first|omega|(simp only[AN];omega))only[g5,hG3.get,hG.get,hbox1,↓KP,EN,↓reduceIte,reduceCtorEq,Nat.reduceEqDiff,Nat.reduceAdd,Nat.reduceLeDiff,Nat.reduceMul]
                first|refine C_call ?_|refine C_calld ?_
                refine look_run vl vg vf s j (hh.grow hgH3) fun H4 p m hg4 hm4 hheld => ?_
                have hg4n := hg4.next
                simp(maxSteps:=9999999)(disch:=first|omega|(simp only[AN];omega))only[↓KP,EN,↓reduceIte,reduceCtorEq,Nat.reduceEqDiff,Nat.reduceAdd,Nat.reduceLeDiff,Nat.reduceMul]
                first|refine C_call ?_|refine C_calld ?_
                refine some_run hfine (by omega) hheld fun H5 hg5 hh5 => ?_
                have hg5' : Grew H3 H5 := ⟨by have := hg5.next; omega, fun b hb' => by rw [hg5.get b (by omega) (by omega), hg4.get b hb']⟩
                have hg5n := hg5'.next
                by_cases ht : 0 < (truthsB s j).length
                · rw [if_neg (by rw [hgx]; simp), if_pos ht] at hst
                  simp(maxSteps:=9999999)(disch:=first|omega|(simp only[AN];omega))only[ht,↓KP,EN,↓reduceIte,reduceCtorEq,Nat.reduceEqDiff,Nat.reduceAdd,Nat.reduceLeDiff,Nat.reduceMul]
                  simp(maxSteps:=9999999)(disch:=first|omega|(simp only[AN];omega))only[g4,g6,g20,g21,e1,↓KP,EN,↓reduceIte,reduceCtorEq,Nat.reduceEqDiff,Nat.reduceAdd,Nat.reduceLeDiff,Nat.reduceMul]
                  refine ⟨_, ?_, j + 1, vq, (true, L), _, rfl, ?_, ?_, ?_, ?_, ?_, (by exact hst.symm), (by exact hvqs.grow EInt.stays hg5'), rfl⟩ <;> (first|omega|(with_reducible assumption)|(with_reducible(repeat first|exact Grew.refl _|assumption|apply Grew.alloc|refine Grew.set ?_ _ (by first|omega|(simp only[AN];omega))|refine Grew.trans ?_ hg5'|refine Grew.trans ?_ hG3|refine Grew.trans ?_ hG);done)|(simp(maxSteps:=9999999)(disch:=first|omega|(simp only[AN];omega))only[g4,g6,g20,g21,e1,hg5'.get,hG3.get,hG.get,↓KP,EN,↓reduceIte,reduceCtorEq,Nat.reduceEqDiff,Nat.reduceAdd,Nat.reduceLeDiff,Nat.reduceMul]<;>first|omega|rfl))
                · rw [if_neg (by rw [hgx]; simp), if_neg ht] at hst
                  simp(maxSteps:=9999999)(disch:=first|omega|(simp only[AN];omega))only[ht,↓KP,EN,↓reduceIte,reduceCtorEq,Nat.reduceEqDiff,Nat.reduceAdd,Nat.reduceLeDiff,Nat.reduceMul]
                  simp(maxSteps:=9999999)(disch:=first|omega|(simp only[AN];omega))only[g4,g6,g20,g21,e1,↓KP,EN,↓reduceIte,reduceCtorEq,Nat.reduceEqDiff,Nat.reduceAdd,Nat.reduceLeDiff,Nat.reduceMul]
                  refine ⟨_, ?_, j + 1, vb, a, _, rfl, (by rw [ha1]; simp(maxSteps:=9999999)(disch:=first|omega|(simp only[AN];omega))only[g4,↓KP,EN,↓reduceIte,reduceCtorEq,Nat.reduceEqDiff,Nat.reduceAdd,Nat.reduceLeDiff,Nat.reduceMul]), ?_, ?_, ?_, ?_, (by exact hst.symm), (by exact hvb3.grow EInt.stays hg5'), rfl⟩ <;> (first|omega|(with_reducible assumption)|(with_reducible(repeat first|exact Grew.refl _|assumption|apply Grew.alloc|refine Grew.set ?_ _ (by first|omega|(simp only[AN];omega))|refine Grew.trans ?_ hg5'|refine Grew.trans ?_ hG3|refine Grew.trans ?_ hG);done)|(simp(maxSteps:=9999999)(disch:=first|omega|(simp only[AN];omega))only[g4,g6,g20,g21,e1,hg5'.get,hG3.get,hG.get,↓KP,EN,↓reduceIte,reduceCtorEq,Nat.reduceEqDiff,Nat.reduceAdd,Nat.reduceLeDiff,Nat.reduceMul]<;>first|omega|rfl))
            · rw [decide_eq_false c1, decide_eq_false c2, Bool.false_and, Bool.or_false] at hgx
              simp(maxSteps:=9999999)(disch:=first|omega|(simp only[AN];omega))only[g4,g6,hvq.len,hvb.len,c1,c2,↓KP,EN,↓reduceIte,reduceCtorEq,Nat.reduceEqDiff,Nat.reduceAdd,Nat.reduceLeDiff,Nat.reduceMul]
              simp(maxSteps:=9999999)(disch:=first|omega|(simp only[AN];omega))only[g5,hG3.get,hG.get,hbox1,↓KP,EN,↓reduceIte,reduceCtorEq,Nat.reduceEqDiff,Nat.reduceAdd,Nat.reduceLeDiff,Nat.reduceMul]
              first|refine C_call ?_|refine C_calld ?_
              refine look_run vl vg vf s j (hh.grow hgH3) fun H4 p m hg4 hm4 hheld => ?_
              have hg4n := hg4.next
              simp(maxSteps:=9999999)(disch:=first|omega|(simp only[AN];omega))only[↓KP,EN,↓reduceIte,reduceCtorEq,Nat.reduceEqDiff,Nat.reduceAdd,Nat.reduceLeDiff,Nat.reduceMul]
              first|refine C_call ?_|refine C_calld ?_
              refine some_run hfine (by omega) hheld fun H5 hg5 hh5 => ?_
              have hg5' : Grew H3 H5 := ⟨by have := hg5.next; omega, fun b hb' => by rw [hg5.get b (by omega) (by omega), hg4.get b hb']⟩
              have hg5n := hg5'.next
              by_cases ht : 0 < (truthsB s j).length
              · rw [if_neg (by rw [hgx]; simp), if_pos ht] at hst
                simp(maxSteps:=9999999)(disch:=first|omega|(simp only[AN];omega))only[ht,↓KP,EN,↓reduceIte,reduceCtorEq,Nat.reduceEqDiff,Nat.reduceAdd,Nat.reduceLeDiff,Nat.reduceMul]
                simp(maxSteps:=9999999)(disch:=first|omega|(simp only[AN];omega))only[g4,g6,g20,g21,e1,↓KP,EN,↓reduceIte,reduceCtorEq,Nat.reduceEqDiff,Nat.reduceAdd,Nat.reduceLeDiff,Nat.reduceMul]
                refine ⟨_, ?_, j + 1, vq, (true, L), _, rfl, ?_, ?_, ?_, ?_, ?_, (by exact hst.symm), (by exact hvqs.grow EInt.stays hg5'), rfl⟩ <;> (first|omega|(with_reducible assumption)|(with_reducible(repeat first|exact Grew.refl _|assumption|apply Grew.alloc|refine Grew.set ?_ _ (by first|omega|(simp only[AN];omega))|refine Grew.trans ?_ hg5'|refine Grew.trans ?_ hG3|refine Grew.trans ?_ hG);done)|(simp(maxSteps:=9999999)(disch:=first|omega|(simp only[AN];omega))only[g4,g6,g20,g21,e1,hg5'.get,hG3.get,hG.get,↓KP,EN,↓reduceIte,reduceCtorEq,Nat.reduceEqDiff,Nat.reduceAdd,Nat.reduceLeDiff,Nat.reduceMul]<;>first|omega|rfl))
              · rw [if_neg (by rw [hgx]; simp), if_neg ht] at hst
                simp(maxSteps:=9999999)(disch:=first|omega|(simp only[AN];omega))only[ht,↓KP,EN,↓reduceIte,reduceCtorEq,Nat.reduceEqDiff,Nat.reduceAdd,Nat.reduceLeDiff,Nat.reduceMul]
                simp(maxSteps:=9999999)(disch:=first|omega|(simp only[AN];omega))only[g4,g6,g20,g21,e1,↓KP,EN,↓reduceIte,reduceCtorEq,Nat.reduceEqDiff,Nat.reduceAdd,Nat.reduceLeDiff,Nat.reduceMul]
                refine ⟨_, ?_, j + 1, vb, a, _, rfl, (by rw [ha1]; simp(maxSteps:=9999999)(disch:=first|omega|(simp only[AN];omega))only[g4,↓KP,EN,↓reduceIte,reduceCtorEq,Nat.reduceEqDiff,Nat.reduceAdd,Nat.reduceLeDiff,Nat.reduceMul]), ?_, ?_, ?_, ?_, (by exact hst.symm), (by exact hvb3.grow EInt.stays hg5'), rfl⟩ <;> (first|omega|(with_reducible assumption)|(with_reducible(repeat first|exact Grew.refl _|assumption|apply Grew.alloc|refine Grew.set ?_ _ (by first|omega|(simp only[AN];omega))|refine Grew.trans ?_ hg5'|refine Grew.trans ?_ hG3|refine Grew.trans ?_ hG);done)|(simp(maxSteps:=9999999)(disch:=first|omega|(simp only[AN];omega))only[g4,g6,g20,g21,e1,hg5'.get,hG3.get,hG.get,↓KP,EN,↓reduceIte,reduceCtorEq,Nat.reduceEqDiff,Nat.reduceAdd,Nat.reduceLeDiff,Nat.reduceMul]<;>first|omega|rfl))
    · have hje : j = q := by omega
      subst hje
      rw [← ha] at k
      cases ha1 : a.1 with
      | false =>
        rw [ha1] at k f4
        simp(maxSteps:=9999999)(disch:=first|omega|(simp only[AN];omega))only[f4,↓KP,EN,↓reduceIte,reduceCtorEq,Nat.reduceEqDiff,Nat.reduceAdd,Nat.reduceLeDiff,Nat.reduceMul]
        exact k _ _ GW (.inl ⟨rfl, rfl⟩)
      | true =>
        rw [ha1] at k f4
        simp(maxSteps:=9999999)(disch:=first|omega|(simp only[AN];omega))only[f4,↓KP,EN,↓reduceIte,reduceCtorEq,Nat.reduceEqDiff,Nat.reduceAdd,Nat.reduceLeDiff,Nat.reduceMul]
        exact k _ _ GW hvb
  · have he' : ¬ errE s = 0 := he
    rw [if_pos he'] at k
    simp(maxSteps:=9999999)(disch:=first|omega|(simp only[AN];omega))only[he,↓KP,EN,↓reduceIte,reduceCtorEq,Nat.reduceEqDiff,Nat.reduceAdd,Nat.reduceLeDiff,Nat.reduceMul]
    exact k _ _ GW (.inl ⟨rfl, rfl⟩)
end Go.Proofs.Ytihahmggfjjkjaa
namespace Go.Proofs.Ytihahmggfjjkjaa
open Go.AM Go.IntWalk Go.PL
set_option maxRecDepth 100000
set_option maxHeartbeats 4000000
set_option linter.unusedSimpArgs false
variable {H : AH} {R : AV → AH → Prop}
def seriesE (f : List (Int × Int)) : Series := ⟨[true, false, false, true, false, false, false, true], 3, 5, [8, 9], true, f⟩
def fillA (a : Int) : List (Int × Int) := if 0 ≤ a then [(4, a)] else []
def fillE (a b : Int) : List (Int × Int) := fillA a ++ (if 0 ≤ b then [(2, b)] else [])
theorem span_run (a b : Int) (k : ∀ H', Grew H H' → R (.agg [I a, I b]) H') : CallQ prog (.func 36 [] []) [I a, I b] H R := by
  refine CallQ_enter (fn:=c36) rfl (Nat.le_of_ble_eq_true rfl) ?_;simp(maxSteps:=9999999)(disch:=first|omega|(simp only[AN];omega))only[c36,envFrom,↓KP,EN,↓reduceIte,reduceCtorEq,Nat.reduceEqDiff,Nat.reduceAdd,Nat.reduceLeDiff,Nat.reduceMul]
  refine k _ ?_
  exact GW
theorem bool_rows {F : Nat → Prop} {H : AH} : ∀ l : List Bool, Go.AM.Rows 1 (EB F H) (l.map AV.bool) l
  | [] => .nil
  | a :: l => .cons (cs := [.bool a]) rfl rfl (bool_rows l)
theorem Series_run (a b : Int) (k : ∀ H' vl vg vf, Grew H H' → IsSer (Old H') H' vl vg vf (seriesE (fillE a b)) → R (serArg vl vg vf (seriesE (fillE a b))) H') : CallQ prog (.func 35 [] []) [I a, I b] H R := by
  refine CallQ_enter (fn:=c35) rfl (Nat.le_of_ble_eq_true rfl) ?_;simp(maxSteps:=9999999)(disch:=first|omega|(simp only[AN];omega))only[c35,envFrom,↓KP,EN,↓reduceIte,reduceCtorEq,Nat.reduceEqDiff,Nat.reduceAdd,Nat.reduceLeDiff,Nat.reduceMul]
  first|refine C_call ?_|refine C_calld ?_
  refine span_run 3 5 fun H1 hg1 => ?_
  have hg1n:=hg1.next;try simp only[AN]at hg1n
  have hg1' : Grew H H1 := Grew.trans GW hg1
  simp(maxSteps:=9999999)(disch:=first|omega|(simp only[AN];omega))only[↓KP,EN,↓reduceIte,reduceCtorEq,Nat.reduceEqDiff,Nat.reduceAdd,Nat.reduceLeDiff,Nat.reduceMul]
  generalize hB : AH.set _ _ _ = B
  have e0 : B.get (H.next + 1) = some (.cells false ([true, false, false, true, false, false, false, true].map AV.bool)) := by rw [← hB]; simp(maxSteps:=9999999)(disch:=first|omega|(simp only[AN];omega))only[hg1.get,↓KP,EN,↓reduceIte,reduceCtorEq,Nat.reduceEqDiff,Nat.reduceAdd,Nat.reduceLeDiff,Nat.reduceMul]; rfl
  have e1 : B.get H1.next = some (.cells false [I 8, I 9]) := by rw [← hB]; simp(maxSteps:=9999999)(disch:=first|omega|(simp only[AN];omega))only[↓KP,EN,↓reduceIte,reduceCtorEq,Nat.reduceEqDiff,Nat.reduceAdd,Nat.reduceLeDiff,Nat.reduceMul]
  have e2 : B.get (H1.next + 1) = some (.cells false [.slice (H.next + 1) 0 8 1, I 3, I 5, .slice H1.next 0 2 1, .bool true, .nilslice]) := by rw [← hB]; simp(maxSteps:=9999999)(disch:=first|omega|(simp only[AN];omega))only[↓KP,EN,↓reduceIte,reduceCtorEq,Nat.reduceEqDiff,Nat.reduceAdd,Nat.reduceLeDiff,Nat.reduceMul]
  have e3 : B.get H.next = some (.cells false [.nilslice, I 0, I 0, .nilslice, .bool false, .nilslice]) := by rw [← hB]; simp(maxSteps:=9999999)(disch:=first|omega|(simp only[AN];omega))only[hg1.get,↓KP,EN,↓reduceIte,reduceCtorEq,Nat.reduceEqDiff,Nat.reduceAdd,Nat.reduceLeDiff,Nat.reduceMul]
  have hn : B.next = H1.next + 1 + 1 := by rw [← hB]; rfl
  have hgB : Grew H B := by rw [← hB]; exact GW
  clear hB
  refine C_join (fun e' H' => e' = [(0, I a), (1, I b), (4, .ptr H.next 0), (5, .ptr (H1.next + 1) 0), (11, .bool (decide (0 ≤ a)))] ∧ ∃ vf, B.next ≤ H'.next ∧ (∀ b, b < B.next → b ≠ H1.next + 1 → H'.get b = B.get b) ∧ H'.get (H1.next + 1) = some (.cells false [.slice (H.next + 1) 0 8 1, I 3, I 5, .slice H1.next 0 2 1, .bool true, vf]) ∧ Mine 2 EP (fun _ => False) B.next H' vf (fillA a)) ?_ ?_
  · refine C_decide (fun ha => ?_) (fun ha => ?_)
    · obtain ⟨v, H2, b1, b2, b3, b4⟩ := (Mine.nil (H := B) (z := 2) (E := EP) (P := fun _ => False) (N := B.next)).push (bytes := 16) (cs := [I 4, I a]) (a := (4, a)) (F := fun _ => False) EP.stays (by omega) rfl (fun _ h => h.elim) rfl rfl (by decide)
      have b5 : H2.get (H1.next + 1) = B.get (H1.next + 1) := b4 _ (by omega)
      simp(maxSteps:=9999999)(disch:=first|omega|(simp only[AN];omega))only[e2,b1,b5,b2.cells?,b2.isCell,↓KP,EN,↓reduceIte,reduceCtorEq,Nat.reduceEqDiff,Nat.reduceAdd,Nat.reduceLeDiff,Nat.reduceMul]
      refine K_joined ⟨?_, v, ?_, ?_, ?_, ?_⟩
      · rw [decide_eq_true ha]
      · simp(maxSteps:=9999999)(disch:=first|omega|(simp only[AN];omega))only[↓KP,EN,↓reduceIte,reduceCtorEq,Nat.reduceEqDiff,Nat.reduceAdd,Nat.reduceLeDiff,Nat.reduceMul]; omega
      · intro b hb hb'
        simp(maxSteps:=9999999)(disch:=first|omega|(simp only[AN];omega))only[b4,↓KP,EN,↓reduceIte,reduceCtorEq,Nat.reduceEqDiff,Nat.reduceAdd,Nat.reduceLeDiff,Nat.reduceMul]
      · simp(maxSteps:=9999999)(disch:=first|omega|(simp only[AN];omega))only[↓KP,EN,↓reduceIte,reduceCtorEq,Nat.reduceEqDiff,Nat.reduceAdd,Nat.reduceLeDiff,Nat.reduceMul]
      · rw [fillA, if_pos ha]
        exact b2.move EP.stays (fun k hk hor => by rcases hor with h | h; exact h.elim; simp(maxSteps:=9999999)(disch:=first|omega|(simp only[AN];omega))only[↓KP,EN,↓reduceIte,reduceCtorEq,Nat.reduceEqDiff,Nat.reduceAdd,Nat.reduceLeDiff,Nat.reduceMul]) (by simp(maxSteps:=9999999)(disch:=first|omega|(simp only[AN];omega))only[↓KP,EN,↓reduceIte,reduceCtorEq,Nat.reduceEqDiff,Nat.reduceAdd,Nat.reduceLeDiff,Nat.reduceMul]; omega)
    · simp(maxSteps:=9999999)(disch:=first|omega|(simp only[AN];omega))only[↓KP,EN,↓reduceIte,reduceCtorEq,Nat.reduceEqDiff,Nat.reduceAdd,Nat.reduceLeDiff,Nat.reduceMul]
      refine K_joined ⟨?_, .nilslice, Nat.le_refl _, fun _ _ _ => rfl, e2, ?_⟩
      · rw [decide_eq_false ha]
      · rw [fillA, if_neg ha]; exact Mine.nil
  · rintro _ H2 ⟨rfl, v2, c1, c2, c3, c4⟩
    have hl2 : (fillA a).length ≤ 1 := by unfold fillA; split <;> simp
    simp(maxSteps:=9999999)(disch:=first|omega|(simp only[AN];omega))only[↓KP,EN,↓reduceIte,reduceCtorEq,Nat.reduceEqDiff,Nat.reduceAdd,Nat.reduceLeDiff,Nat.reduceMul]
    refine C_join (fun e' H' => e' = [(0, I a), (1, I b), (4, .ptr H.next 0), (5, .ptr (H1.next + 1) 0), (11, .bool (decide (0 ≤ a))), (20, .bool (decide (0 ≤ b)))] ∧ ∃ vf, B.next ≤ H'.next ∧ (∀ b, b < B.next → b ≠ H1.next + 1 → H'.get b = B.get b) ∧ H'.get (H1.next + 1) = some (.cells false [.slice (H.next + 1) 0 8 1, I 3, I 5, .slice H1.next 0 2 1, .bool true, vf]) ∧ Mine 2 EP (fun _ => False) B.next H' vf (fillE a b)) ?_ ?_
    · refine C_decide (fun hb => ?_) (fun hb => ?_)
      · obtain ⟨v3, H3, b1, b2, b3, b4⟩ := copy_mine (P := fun _ => False) (N := H2.next) (bytes := 16) EP.stays (c4.sl EP.stays) (fun k hk => hk) (fun _ _ h => h) (Nat.le_refl _) EP.isCell (by omega)
        have b5 : H3.get (H1.next + 1) = H2.get (H1.next + 1) := b4 _ (by omega)
        obtain ⟨v4, H4, d1, d2, d3, d4⟩ := b2.push (bytes := 16) (cs := [I 2, I b]) (a := (2, b)) (F := fun _ => False) EP.stays (by omega) rfl (fun _ h => h.elim) rfl rfl (by omega)
        have d5 : H4.get (H1.next + 1) = H2.get (H1.next + 1) := by rw [d4 _ (by omega), b5]
        simp(maxSteps:=9999999)(disch:=first|omega|(simp only[AN];omega))only[c3,b1,b5,d1,d5,d2.cells?,d2.isCell,↓KP,EN,↓reduceIte,reduceCtorEq,Nat.reduceEqDiff,Nat.reduceAdd,Nat.reduceLeDiff,Nat.reduceMul]
        refine K_joined ⟨?_, v4, ?_, ?_, ?_, ?_⟩
        · rw [decide_eq_true hb]
        · simp(maxSteps:=9999999)(disch:=first|omega|(simp only[AN];omega))only[↓KP,EN,↓reduceIte,reduceCtorEq,Nat.reduceEqDiff,Nat.reduceAdd,Nat.reduceLeDiff,Nat.reduceMul]; omega
        · intro b hb hb'
          simp(maxSteps:=9999999)(disch:=first|omega|(simp only[AN];omega))only[d4,b4,c2,↓KP,EN,↓reduceIte,reduceCtorEq,Nat.reduceEqDiff,Nat.reduceAdd,Nat.reduceLeDiff,Nat.reduceMul]
        · simp(maxSteps:=9999999)(disch:=first|omega|(simp only[AN];omega))only[↓KP,EN,↓reduceIte,reduceCtorEq,Nat.reduceEqDiff,Nat.reduceAdd,Nat.reduceLeDiff,Nat.reduceMul]
        · rw [fillE, if_pos hb]
          exact (d2.move (H' := H4.set (H1.next + 1) _) EP.stays (fun k hk hor => by rcases hor with h | h; exact h.elim; simp(maxSteps:=9999999)(disch:=first|omega|(simp only[AN];omega))only[↓KP,EN,↓reduceIte,reduceCtorEq,Nat.reduceEqDiff,Nat.reduceAdd,Nat.reduceLeDiff,Nat.reduceMul]) (by simp(maxSteps:=9999999)(disch:=first|omega|(simp only[AN];omega))only[↓KP,EN,↓reduceIte,reduceCtorEq,Nat.reduceEqDiff,Nat.reduceAdd,Nat.reduceLeDiff,Nat.reduceMul]; omega)).weak (by omega) (fun _ h => h.elim) EP.stays
      · simp(maxSteps:=9999999)(disch:=first|omega|(simp only[AN];omega))only[↓KP,EN,↓reduceIte,reduceCtorEq,Nat.reduceEqDiff,Nat.reduceAdd,Nat.reduceLeDiff,Nat.reduceMul]
        refine K_joined ⟨?_, v2, c1, c2, c3, ?_⟩
        · rw [decide_eq_false hb]
        · rw [fillE, if_neg hb, List.append_nil]; exact c4
    · rintro _ H3 ⟨rfl, v3, d1, d2, d3, d4⟩
      have d6 := d2 H.next (by omega) (by omega)
      rw [e3] at d6
      simp(maxSteps:=9999999)(disch:=first|omega|(simp only[AN];omega))only[d3,d6,d4.isCell,↓KP,EN,↓reduceIte,reduceCtorEq,Nat.reduceEqDiff,Nat.reduceAdd,Nat.reduceLeDiff,Nat.reduceMul]
      have hgF : ∀ o, Grew H (H3.set H.next o) := fun o => ⟨by simp(maxSteps:=9999999)(disch:=first|omega|(simp only[AN];omega))only[↓KP,EN,↓reduceIte,reduceCtorEq,Nat.reduceEqDiff,Nat.reduceAdd,Nat.reduceLeDiff,Nat.reduceMul]; omega, fun b hb => by simp(maxSteps:=9999999)(disch:=first|omega|(simp only[AN];omega))only[d2,hgB.get,↓KP,EN,↓reduceIte,reduceCtorEq,Nat.reduceEqDiff,Nat.reduceAdd,Nat.reduceLeDiff,Nat.reduceMul]⟩
      have l8 : (H3.set H.next (.cells false [.slice (H.next + 1) 0 8 1, I 3, I 5, .slice H1.next 0 2 1, .bool true, v3])).read (H.next + 1) 0 8 = some ([true, false, false, true, false, false, false, true].map AV.bool) := by simp only [AH.read]; simp(maxSteps:=9999999)(disch:=first|omega|(simp only[AN];omega))only[d2,e0,↓KP,EN,↓reduceIte,reduceCtorEq,Nat.reduceEqDiff,Nat.reduceAdd,Nat.reduceLeDiff,Nat.reduceMul]; rfl
      have l2 : (H3.set H.next (.cells false [.slice (H.next + 1) 0 8 1, I 3, I 5, .slice H1.next 0 2 1, .bool true, v3])).read H1.next 0 2 = some [I 8, I 9] := by simp only [AH.read]; simp(maxSteps:=9999999)(disch:=first|omega|(simp only[AN];omega))only[d2,e1,↓KP,EN,↓reduceIte,reduceCtorEq,Nat.reduceEqDiff,Nat.reduceAdd,Nat.reduceLeDiff,Nat.reduceMul]
      refine k _ (.slice (H.next + 1) 0 8 1) (.slice H1.next 0 2 1) v3 (hgF _) ⟨.inr ⟨H.next + 1, 0, _, rfl, ?_, l8, bool_rows _⟩, .inr ⟨H1.next, 0, _, rfl, ?_, l2, ints_rows [8, 9]⟩, ?_⟩
      · show H.next + 1 < H3.next; omega
      · show H1.next < H3.next; omega
      · exact (d4.move (H' := H3.set H.next _) EP.stays (fun k hk hor => by rcases hor with h | h; exact h.elim; simp(maxSteps:=9999999)(disch:=first|omega|(simp only[AN];omega))only[↓KP,EN,↓reduceIte,reduceCtorEq,Nat.reduceEqDiff,Nat.reduceAdd,Nat.reduceLeDiff,Nat.reduceMul]) (by simp(maxSteps:=9999999)(disch:=first|omega|(simp only[AN];omega))only[↓KP,EN,↓reduceIte,reduceCtorEq,Nat.reduceEqDiff,Nat.reduceAdd,Nat.reduceLeDiff,Nat.reduceMul]; omega)).sl EP.stays
theorem sized_series (f : List (Int × Int)) (h : f.length ≤ 4) : Sized (seriesE f) := ⟨by show 8 ≤ 9223372036854775807; omega, by show 2 ≤ 9223372036854775807; omega, Nat.le_trans h (by omega), by show IntKind.i64.min ≤ 3 ∧ 3 ≤ IntKind.i64.max; decide, by show IntKind.i64.min ≤ 5 ∧ 5 ≤ IntKind.i64.max; decide⟩
theorem series_s : fillE (-1) (-1) = [] := rfl
theorem series_f : fillE 3 (-1) = [(4, 3)] := rfl
theorem series_w : fillE 3 0 = [(4, 3), (2, 0)] := rfl
end Go.Proofs.Ytihahmggfjjkjaa
namespace Go.Proofs.Ytihahmggfjjkjaa
open Go.AM Go.IntWalk Go.PL
set_option maxRecDepth 100000
set_option maxHeartbeats 4000000
set_option linter.unusedSimpArgs false
variable {H : AH} {R : AV → AH → Prop}
abbrev sS : Series := seriesE []
abbrev sF : Series := seriesE [(4, 3)]
abbrev sW : Series := seriesE [(4, 3), (2, 0)]
theorem ex_t1 : thereE sS 0 4 = (0, 0) := by decide +kernel
theorem ex_t2 : thereE sS 1 2 = (1, 0) := by decide +kernel
theorem ex_t3 : thereE sS 1 5 = (2, 0) := by decide +kernel
theorem ex_n1 : numberE sS 4 = ((0, 3), 0) := by decide +kernel
theorem ex_n2 : numberE sF 5 = ((1, 2), 0) := by decide +kernel
theorem ex_l1 : lastedE sS 1 = ((4, 5), 0) := by decide +kernel
theorem ex_u1 : unseenE sF = (1, 0) := by decide +kernel
theorem ex_f1 : firstE sS = ([(1, 3), (0, 3)], 0) := by decide +kernel
theorem ex_o1 : openE sS = (4, 3, 0) := by decide +kernel
theorem ex_w1 : wrongE sW = ([1], 0) := by decide +kernel
theorem ex_u2 : unseenE sW = (0, 8) := by decide +kernel
theorem ex_t4 : thereE sS 2 0 = (0, 4) := by decide +kernel
theorem two_spans (H : AH) (p q : Int × Int) : IsSl 2 EP (Old (H.alloc (.cells false [I p.1, I p.2, I q.1, I q.2]))) (H.alloc (.cells false [I p.1, I p.2, I q.1, I q.2])) (.slice H.next 0 2 2) [p, q] :=
  .inr ⟨_, _, [I p.1, I p.2, I q.1, I q.2], rfl, (by show H.next < H.next + 1; omega), by simp [AH.read, get_alloc_new, readN], Rows.cons (cs := [I p.1, I p.2]) rfl rfl (Rows.single rfl rfl)⟩
theorem Awake_run (k : ∀ H', Grew H H' → R (.bool true) H') : CallQ prog (.func 22 [] []) [] H R := by
  refine CallQ_enter (fn:=c22) rfl (Nat.le_of_ble_eq_true rfl) ?_;simp(maxSteps:=9999999)(disch:=first|omega|(simp only[AN];omega))only[c22,envFrom,↓KP,EN,↓reduceIte,reduceCtorEq,Nat.reduceEqDiff,Nat.reduceAdd,Nat.reduceLeDiff,Nat.reduceMul]
  first|refine C_call ?_|refine C_calld ?_
  refine Series_run (-1) (-1) fun A1 l1 g1 f1 ga1 ha1 => ?_
  rw [series_s] at ha1 ⊢
  have na1 := ga1.next
  simp(maxSteps:=9999999)(disch:=first|omega|(simp only[AN];omega))only[↓KP,EN,↓reduceIte,reduceCtorEq,Nat.reduceEqDiff,Nat.reduceAdd,Nat.reduceLeDiff,Nat.reduceMul]
  first|refine C_call ?_|refine C_calld ?_
  refine Series_run 3 (-1) fun A2 l2 g2 f2 ga2 ha2 => ?_
  rw [series_f] at ha2 ⊢
  have na2 := ga2.next
  simp(maxSteps:=9999999)(disch:=first|omega|(simp only[AN];omega))only[↓KP,EN,↓reduceIte,reduceCtorEq,Nat.reduceEqDiff,Nat.reduceAdd,Nat.reduceLeDiff,Nat.reduceMul]
  first|refine C_call ?_|refine C_calld ?_
  refine Series_run 3 0 fun A3 l3 g3 f3 ga3 ha3 => ?_
  rw [series_w] at ha3 ⊢
  have na3 := ga3.next
  replace ha1 := (ha1.grow ga2).grow ga3
  replace ha2 := ha2.grow ga3
  have hgA : Grew H A3 := (ga1.trans ga2).trans ga3
  simp(maxSteps:=9999999)(disch:=first|omega|(simp only[AN];omega))only[ha1.l.isCell,ha1.g.isCell,ha1.f.isCell,ha2.l.isCell,ha2.g.isCell,ha2.f.isCell,ha3.l.isCell,ha3.g.isCell,ha3.f.isCell,↓KP,EN,↓reduceIte,reduceCtorEq,Nat.reduceEqDiff,Nat.reduceAdd,Nat.reduceLeDiff,Nat.reduceMul]
  generalize hB : AH.set _ _ _ = B
  have b1 : B.get A3.next = some (.cells false [l1, I 3, I 5, g1, .bool true, f1]) := by rw [← hB]; simp(maxSteps:=9999999)(disch:=first|omega|(simp only[AN];omega))only[↓KP,EN,↓reduceIte,reduceCtorEq,Nat.reduceEqDiff,Nat.reduceAdd,Nat.reduceLeDiff,Nat.reduceMul]; rfl
  have b2 : B.get (A3.next + 1) = some (.cells false [l2, I 3, I 5, g2, .bool true, f2]) := by rw [← hB]; simp(maxSteps:=9999999)(disch:=first|omega|(simp only[AN];omega))only[↓KP,EN,↓reduceIte,reduceCtorEq,Nat.reduceEqDiff,Nat.reduceAdd,Nat.reduceLeDiff,Nat.reduceMul]; rfl
  have b3 : B.get (A3.next + 1 + 1) = some (.cells false [l3, I 3, I 5, g3, .bool true, f3]) := by rw [← hB]; simp(maxSteps:=9999999)(disch:=first|omega|(simp only[AN];omega))only[↓KP,EN,↓reduceIte,reduceCtorEq,Nat.reduceEqDiff,Nat.reduceAdd,Nat.reduceLeDiff,Nat.reduceMul]; rfl
  have hgB : Grew A3 B := by rw [← hB]; exact GW
  have hBn : B.next = A3.next + 1 + 1 + 1 := by rw [← hB]; rfl
  clear hB
  replace ha1 := ha1.grow hgB
  replace ha2 := ha2.grow hgB
  replace ha3 := ha3.grow hgB
  have hgH : Grew H B := hgA.trans hgB
  have z1 := sized_series [] (by decide)
  have z2 := sized_series [(4, 3)] (by decide)
  have z3 := sized_series [(4, 3), (2, 0)] (by decide)
  first|refine C_call ?_|refine C_calld ?_
  refine There_run l1 g1 f1 sS 0 4 (ha1.grow GW) z1 fun D1 hg1 => ?_
  have hg1n := hg1.next; try simp only [AN] at hg1n
  rw [ex_t1]
  simp(maxSteps:=9999999)(disch:=first|omega|(simp only[AN];omega))only[hg1.get,b1,b2,b3,↓KP,EN,↓reduceIte,reduceCtorEq,Nat.reduceEqDiff,Nat.reduceAdd,Nat.reduceLeDiff,Nat.reduceMul]
  first|refine C_call ?_|refine C_calld ?_
  refine There_run l1 g1 f1 sS 1 2 (ha1.grow GW) z1 fun D2 hg2 => ?_
  have hg2n := hg2.next; try simp only [AN] at hg2n
  rw [ex_t2]
  simp(maxSteps:=9999999)(disch:=first|omega|(simp only[AN];omega))only[hg2.get,hg1.get,b1,b2,b3,↓KP,EN,↓reduceIte,reduceCtorEq,Nat.reduceEqDiff,Nat.reduceAdd,Nat.reduceLeDiff,Nat.reduceMul]
  first|refine C_call ?_|refine C_calld ?_
  refine There_run l1 g1 f1 sS 1 5 (ha1.grow GW) z1 fun D3 hg3 => ?_
  have hg3n := hg3.next; try simp only [AN] at hg3n
  rw [ex_t3]
  simp(maxSteps:=9999999)(disch:=first|omega|(simp only[AN];omega))only[hg3.get,hg2.get,hg1.get,b1,b2,b3,↓KP,EN,↓reduceIte,reduceCtorEq,Nat.reduceEqDiff,Nat.reduceAdd,Nat.reduceLeDiff,Nat.reduceMul]
  first|refine C_call ?_|refine C_calld ?_
  refine Number_run l1 g1 f1 sS 4 (ha1.grow GW) z1 fun D4 hg4 => ?_
  have hg4n := hg4.next; try simp only [AN] at hg4n
  rw [ex_n1]
  simp(maxSteps:=9999999)(disch:=first|omega|(simp only[AN];omega))only[hg4.get,hg3.get,hg2.get,hg1.get,b1,b2,b3,↓KP,EN,↓reduceIte,reduceCtorEq,Nat.reduceEqDiff,Nat.reduceAdd,Nat.reduceLeDiff,Nat.reduceMul]
  first|refine C_call ?_|refine C_calld ?_
  refine Number_run l2 g2 f2 sF 5 (ha2.grow GW) z2 fun D5 hg5 => ?_
  have hg5n := hg5.next; try simp only [AN] at hg5n
  rw [ex_n2]
  simp(maxSteps:=9999999)(disch:=first|omega|(simp only[AN];omega))only[hg5.get,hg4.get,hg3.get,hg2.get,hg1.get,b1,b2,b3,↓KP,EN,↓reduceIte,reduceCtorEq,Nat.reduceEqDiff,Nat.reduceAdd,Nat.reduceLeDiff,Nat.reduceMul]
  first|refine C_call ?_|refine C_calld ?_
  refine Lasted_run l1 g1 f1 sS 1 (ha1.grow GW) z1 fun D6 hg6 => ?_
  have hg6n := hg6.next; try simp only [AN] at hg6n
  rw [ex_l1]
  simp(maxSteps:=9999999)(disch:=first|omega|(simp only[AN];omega))only[hg6.get,hg5.get,hg4.get,hg3.get,hg2.get,hg1.get,b1,b2,b3,↓KP,EN,↓reduceIte,reduceCtorEq,Nat.reduceEqDiff,Nat.reduceAdd,Nat.reduceLeDiff,Nat.reduceMul]
  first|refine C_call ?_|refine C_calld ?_
  refine Unseen_run l2 g2 f2 sF (ha2.grow GW) z2 fun D7 hg7 => ?_
  have hg7n := hg7.next; try simp only [AN] at hg7n
  rw [ex_u1]
  simp(maxSteps:=9999999)(disch:=first|omega|(simp only[AN];omega))only[hg7.get,hg6.get,hg5.get,hg4.get,hg3.get,hg2.get,hg1.get,b1,b2,b3,↓KP,EN,↓reduceIte,reduceCtorEq,Nat.reduceEqDiff,Nat.reduceAdd,Nat.reduceLeDiff,Nat.reduceMul]
  first|refine C_call ?_|refine C_calld ?_
  refine First_run l1 g1 f1 sS (ha1.grow GW) z1 fun D8 v8 hg8 hv8 => ?_
  have hg8n := hg8.next; try simp only [AN] at hg8n
  rw [ex_f1] at hv8 ⊢
  simp(maxSteps:=9999999)(disch:=first|omega|(simp only[AN];omega))only[hg8.get,hg7.get,hg6.get,hg5.get,hg4.get,hg3.get,hg2.get,hg1.get,b1,b2,b3,↓KP,EN,↓reduceIte,reduceCtorEq,Nat.reduceEqDiff,Nat.reduceAdd,Nat.reduceLeDiff,Nat.reduceMul]
  first|refine C_call ?_|refine C_calld ?_
  refine Open_run l1 g1 f1 sS (ha1.grow GW) z1 fun D9 hg9 => ?_
  have hg9n := hg9.next; try simp only [AN] at hg9n
  rw [ex_o1]
  simp(maxSteps:=9999999)(disch:=first|omega|(simp only[AN];omega))only[hg9.get,hg8.get,hg7.get,hg6.get,hg5.get,hg4.get,hg3.get,hg2.get,hg1.get,b1,b2,b3,↓KP,EN,↓reduceIte,reduceCtorEq,Nat.reduceEqDiff,Nat.reduceAdd,Nat.reduceLeDiff,Nat.reduceMul]
  first|refine C_call ?_|refine C_calld ?_
  refine Wrong_run l3 g3 f3 sW (ha3.grow GW) z3 fun D10 v10 hg10 hv10 => ?_
  have hg10n := hg10.next; try simp only [AN] at hg10n
  rw [ex_w1] at hv10 ⊢
  simp(maxSteps:=9999999)(disch:=first|omega|(simp only[AN];omega))only[hg10.get,hg9.get,hg8.get,hg7.get,hg6.get,hg5.get,hg4.get,hg3.get,hg2.get,hg1.get,b1,b2,b3,↓KP,EN,↓reduceIte,reduceCtorEq,Nat.reduceEqDiff,Nat.reduceAdd,Nat.reduceLeDiff,Nat.reduceMul]
  first|refine C_call ?_|refine C_calld ?_
  refine Unseen_run l3 g3 f3 sW (ha3.grow GW) z3 fun D11 hg11 => ?_
  have hg11n := hg11.next; try simp only [AN] at hg11n
  rw [ex_u2]
  simp(maxSteps:=9999999)(disch:=first|omega|(simp only[AN];omega))only[hg11.get,hg10.get,hg9.get,hg8.get,hg7.get,hg6.get,hg5.get,hg4.get,hg3.get,hg2.get,hg1.get,b1,b2,b3,↓KP,EN,↓reduceIte,reduceCtorEq,Nat.reduceEqDiff,Nat.reduceAdd,Nat.reduceLeDiff,Nat.reduceMul]
  first|refine C_call ?_|refine C_calld ?_
  refine There_run l1 g1 f1 sS 2 0 (ha1.grow GW) z1 fun D12 hg12 => ?_
  have hg12n := hg12.next; try simp only [AN] at hg12n
  rw [ex_t4]
  simp(maxSteps:=9999999)(disch:=first|omega|(simp only[AN];omega))only[hg12.get,hg11.get,hg10.get,hg9.get,hg8.get,hg7.get,hg6.get,hg5.get,hg4.get,hg3.get,hg2.get,hg1.get,b1,b2,b3,↓KP,EN,↓reduceIte,reduceCtorEq,Nat.reduceEqDiff,Nat.reduceAdd,Nat.reduceLeDiff,Nat.reduceMul]
  have c1 : D12.get D4.next = some (.cells false [I 0, I 3]) := by simp(maxSteps:=9999999)(disch:=first|omega|(simp only[AN];omega))only[hg12.get,hg11.get,hg10.get,hg9.get,hg8.get,hg7.get,hg6.get,hg5.get,hg4.get,hg3.get,hg2.get,hg1.get,↓KP,EN,↓reduceIte,reduceCtorEq,Nat.reduceEqDiff,Nat.reduceAdd,Nat.reduceLeDiff,Nat.reduceMul]
  have c2 : D12.get D5.next = some (.cells false [I 1, I 2]) := by simp(maxSteps:=9999999)(disch:=first|omega|(simp only[AN];omega))only[hg12.get,hg11.get,hg10.get,hg9.get,hg8.get,hg7.get,hg6.get,hg5.get,hg4.get,hg3.get,hg2.get,hg1.get,↓KP,EN,↓reduceIte,reduceCtorEq,Nat.reduceEqDiff,Nat.reduceAdd,Nat.reduceLeDiff,Nat.reduceMul]
  have c3 : D12.get D6.next = some (.cells false [I 4, I 5]) := by simp(maxSteps:=9999999)(disch:=first|omega|(simp only[AN];omega))only[hg12.get,hg11.get,hg10.get,hg9.get,hg8.get,hg7.get,hg6.get,hg5.get,hg4.get,hg3.get,hg2.get,hg1.get,↓KP,EN,↓reduceIte,reduceCtorEq,Nat.reduceEqDiff,Nat.reduceAdd,Nat.reduceLeDiff,Nat.reduceMul]
  have hgD : Grew B D12 := GW
  have nD := hgD.next
  replace hv8 := hv8.grow EP.stays (((hg9.trans hg10).trans hg11).trans hg12)
  replace hv10 := hv10.grow EInt.stays (hg11.trans hg12)
  have n4 : D4.next < D12.next := by omega
  have n5 : D5.next < D12.next := by omega
  have n6 : D6.next < D12.next := by omega
  clear hg1 hg2 hg3 hg4 hg5 hg6 hg7 hg8 hg9 hg10 hg11 hg12 b1 b2 b3
  refine K_draw ?_
  simp(maxSteps:=9999999)(disch:=first|omega|(simp only[AN];omega))only[eqs2,c1,c2,c3,↓KP,EN,↓reduceIte,reduceCtorEq,Nat.reduceEqDiff,Nat.reduceAdd,Nat.reduceLeDiff,Nat.reduceMul]
  refine C_calld ?_
  refine span_run 0 3 fun E1 he1 => ?_
  have he1n:=he1.next;try simp only[AN]at he1n
  simp(maxSteps:=9999999)(disch:=first|omega|(simp only[AN];omega))only[eqs2,he1.get,c1,c2,c3,↓KP,EN,↓reduceIte,reduceCtorEq,Nat.reduceEqDiff,Nat.reduceAdd,Nat.reduceLeDiff,Nat.reduceMul]
  refine C_calld ?_
  refine span_run 1 2 fun E2 he2 => ?_
  have he2n:=he2.next;try simp only[AN]at he2n
  simp(maxSteps:=9999999)(disch:=first|omega|(simp only[AN];omega))only[eqs2,he2.get,he1.get,c1,c2,c3,↓KP,EN,↓reduceIte,reduceCtorEq,Nat.reduceEqDiff,Nat.reduceAdd,Nat.reduceLeDiff,Nat.reduceMul]
  refine C_calld ?_
  refine span_run 4 5 fun E3 he3 => ?_
  have he3n:=he3.next;try simp only[AN]at he3n
  simp(maxSteps:=9999999)(disch:=first|omega|(simp only[AN];omega))only[eqs2,he3.get,he2.get,he1.get,c1,c2,c3,↓KP,EN,↓reduceIte,reduceCtorEq,Nat.reduceEqDiff,Nat.reduceAdd,Nat.reduceLeDiff,Nat.reduceMul]
  refine C_calld ?_
  refine span_run 1 3 fun E4 he4 => ?_
  have he4n:=he4.next;try simp only[AN]at he4n
  simp(maxSteps:=9999999)(disch:=first|omega|(simp only[AN];omega))only[eqs2,he4.get,he3.get,he2.get,he1.get,c1,c2,c3,↓KP,EN,↓reduceIte,reduceCtorEq,Nat.reduceEqDiff,Nat.reduceAdd,Nat.reduceLeDiff,Nat.reduceMul]
  refine C_calld ?_
  refine span_run 0 3 fun E5 he5 => ?_
  have he5n:=he5.next;try simp only[AN]at he5n
  simp(maxSteps:=9999999)(disch:=first|omega|(simp only[AN];omega))only[eqs2,he5.get,he4.get,he3.get,he2.get,he1.get,c1,c2,c3,↓KP,EN,↓reduceIte,reduceCtorEq,Nat.reduceEqDiff,Nat.reduceAdd,Nat.reduceLeDiff,Nat.reduceMul]
  refine C_calld ?_
  have hD5 : Grew D12 E5 := (((he1.trans he2).trans he3).trans he4).trans he5
  refine Spans_run _ _ [(1, 3), (0, 3)] [(1, 3), (0, 3)] (hv8.grow EP.stays GW) (two_spans E5 (1, 3) (0, 3)) (by decide) ?_
  rw [decide_eq_true rfl]
  simp(maxSteps:=9999999)(disch:=first|omega|(simp only[AN];omega))only[eqs2,he5.get,he4.get,he3.get,he2.get,he1.get,c1,c2,c3,↓KP,EN,↓reduceIte,reduceCtorEq,Nat.reduceEqDiff,Nat.reduceAdd,Nat.reduceLeDiff,Nat.reduceMul]
  refine C_calld ?_
  refine Ints_run v10 _ [1] [1] (hv10.grow EInt.stays GW) (one_slice _ 1) (by decide) ?_
  simp(maxSteps:=9999999)(disch:=first|omega|(simp only[AN];omega))only[eqs2,he5.get,he4.get,he3.get,he2.get,he1.get,c1,c2,c3,↓KP,EN,↓reduceIte,reduceCtorEq,Nat.reduceEqDiff,Nat.reduceAdd,Nat.reduceLeDiff,Nat.reduceMul]
  exact k _ GW
end Go.Proofs.Ytihahmggfjjkjaa
namespace Go.Proofs.Ytihahmggfjjkjaa
open Go.AM Go.IntWalk Go.PL
set_option maxRecDepth 100000
set_option maxHeartbeats 4000000
set_option linter.unusedSimpArgs false
variable {H : AH} {R : AV → AH → Prop}
theorem cand_len {n m : Nat} {c : List Int} (h : c ∈ candTo n m) : c.length < m ∧ ∀ f ∈ c, 0 ≤ f ∧ f < n := by
  obtain ⟨k, hk, hc⟩ := List.mem_flatMap.1 h
  have := choicesE_mem hc
  have hk := List.mem_range.1 hk
  exact ⟨by omega, this.2⟩
theorem wrong_len (s : Series) : (wrongE s).1.length ≤ 4 := by
  unfold wrongE
  split
  · exact Nat.zero_le _
  · rename_i he
    have hf := fine_of (s := s) (Classical.not_not.1 he)
    have hfl := hf.fl
    cases hc : (candTo s.filled.length (s.filled.length + 1)).find? (goodE s) with
    | none => exact Nat.zero_le _
    | some c =>
      have := (cand_len (List.mem_of_find?_eq_some hc)).1
      show c.length ≤ 4
      omega
end Go.Proofs.Ytihahmggfjjkjaa
namespace Go.Proofs.Ytihahmggfjjkjaa
open Go.AM Go.IntWalk Go.PL
set_option maxRecDepth 100000
set_option maxHeartbeats 4000000
set_option linter.unusedSimpArgs false
variable {H : AH} {R : AV → AH → Prop}
theorem valid_run (vl vg vf : AV) (s : Series) (hh : IsSer (Old H) H vl vg vf s) (hs : Sized s) (k : ∀ H', Grew H H' → R (.bool (decide (errE s = 0))) H') : CallQ prog (.func 37 [] []) [serArg vl vg vf s] H R := by
  refine CallQ_enter (fn:=c37) rfl (Nat.le_of_ble_eq_true rfl) ?_;simp(maxSteps:=9999999)(disch:=first|omega|(simp only[AN];omega))only[c37,envFrom,hh.l.isCell,hh.g.isCell,hh.f.isCell,↓KP,EN,↓reduceIte,reduceCtorEq,Nat.reduceEqDiff,Nat.reduceAdd,Nat.reduceLeDiff,Nat.reduceMul]
  first|refine C_call ?_|refine C_calld ?_
  refine rCheck_run vl vg vf s (hh.grow GW) hs fun H1 hg1 => ?_
  have hg1n:=hg1.next;try simp only[AN]at hg1n
  simp(maxSteps:=9999999)(disch:=first|omega|(simp only[AN];omega))only[↓KP,EN,↓reduceIte,reduceCtorEq,Nat.reduceEqDiff,Nat.reduceAdd,Nat.reduceLeDiff,Nat.reduceMul]
  exact k _ GW
theorem settle_spec {α : Type} {l : List α} {p : α → Bool} (h : l ≠ []) : (settledE (l.countP p : Nat) l.length = 1 ↔ ∀ t ∈ l, p t = true) ∧ (settledE (l.countP p : Nat) l.length = 2 ↔ ∀ t ∈ l, p t = false) ∧ (settledE (l.countP p : Nat) l.length = 0 ∨ settledE (l.countP p : Nat) l.length = 1 ∨ settledE (l.countP p : Nat) l.length = 2) := by
  have hl := List.length_pos_iff.2 h
  have h1 : (((l.countP p : Nat) : Int) = l.length) ↔ ∀ t ∈ l, p t = true := by rw [← List.countP_eq_length]; omega
  have h2 : (((l.countP p : Nat) : Int) = 0) ↔ ∀ t ∈ l, p t = false := by
    rw [show (((l.countP p : Nat) : Int) = 0) ↔ l.countP p = 0 by omega, List.countP_eq_zero]
    simp
  unfold settledE
  refine ⟨?_, ?_, ?_⟩
  · rw [← h1]
    by_cases c : ((l.countP p : Nat) : Int) = l.length
    · simp [c]
    · rw [if_neg c]; refine ⟨fun e => ?_, fun e => absurd e c⟩
      by_cases c2 : ((l.countP p : Nat) : Int) = 0
      · rw [if_pos c2] at e; omega
      · rw [if_neg c2] at e; omega
  · rw [← h2]
    by_cases c : ((l.countP p : Nat) : Int) = l.length
    · rw [if_pos c]; omega
    · rw [if_neg c]
      by_cases c2 : ((l.countP p : Nat) : Int) = 0
      · rw [if_pos c2]; omega
      · rw [if_neg c2]; omega
  · split
    · exact .inr (.inl rfl)
    · split
      · exact .inr (.inr rfl)
      · exact .inl rfl
theorem num_spec {ts : List Truth} {d : Int} (h : ts ≠ []) : (∀ t ∈ ts, (numE ts d).1 ≤ onE t d ∧ onE t d ≤ (numE ts d).2) ∧ (∃ t ∈ ts, (numE ts d).1 = onE t d) ∧ (∃ t ∈ ts, (numE ts d).2 = onE t d) := by
  have hne : (ts.map fun t => (onE t d, onE t d)) ≠ [] := by simpa using h
  obtain ⟨h1, ⟨x, hx, e1⟩, ⟨y, hy, e2⟩⟩ := hull_spec hne
  obtain ⟨t, ht, rfl⟩ := List.mem_map.1 hx
  obtain ⟨u, hu, rfl⟩ := List.mem_map.1 hy
  exact ⟨fun t ht => h1 _ (List.mem_map.2 ⟨t, ht, rfl⟩), ⟨t, ht, e1⟩, ⟨u, hu, e2⟩⟩
theorem lasts_spec {ts : List Truth} {i : Nat} (h : ts ≠ []) : (∀ t ∈ ts, (lastsE ts i).1 ≤ daysE (getP t.1 i) ∧ daysE (getP t.1 i) ≤ (lastsE ts i).2) ∧ (∃ t ∈ ts, (lastsE ts i).1 = daysE (getP t.1 i)) ∧ (∃ t ∈ ts, (lastsE ts i).2 = daysE (getP t.1 i)) := by
  have hne : (ts.map fun t => (daysE (getP t.1 i), daysE (getP t.1 i))) ≠ [] := by simpa using h
  obtain ⟨h1, ⟨x, hx, e1⟩, ⟨y, hy, e2⟩⟩ := hull_spec hne
  obtain ⟨t, ht, rfl⟩ := List.mem_map.1 hx
  obtain ⟨u, hu, rfl⟩ := List.mem_map.1 hy
  exact ⟨fun t ht => h1 _ (List.mem_map.2 ⟨t, ht, rfl⟩), ⟨t, ht, e1⟩, ⟨u, hu, e2⟩⟩
end Go.Proofs.Ytihahmggfjjkjaa
namespace Go.Proofs.Ytihahmggfjjkjaa
open Go.AM Go.IntWalk Go.PL
set_option maxRecDepth 100000
set_option maxHeartbeats 4000000
set_option linter.unusedSimpArgs false
theorem err_iff {s : Series} : errE s = 0 ↔ (1 ≤ s.len ∧ s.len ≤ 8) ∧ lastE s = 0 ∧ s.groups.length ≤ 3 ∧ (∀ j (hj : j < s.groups.length), groupE s j s.groups[j] = 0) ∧ s.filled.length ≤ 4 ∧ (∀ j (hj : j < s.filled.length), filledE s j s.filled[j] = 0) := by
  unfold errE checkE
  by_cases h1 : 1 ≤ s.len ∧ s.len ≤ 8
  · rw [if_neg (fun h => h h1)]
    by_cases h2 : lastE s = 0
    · rw [if_neg (fun h => h h2), checkG]
      by_cases h3 : 3 < s.groups.length
      · rw [if_pos h3]
        exact ⟨fun h => (by cases h), fun h => by omega⟩
      · rw [if_neg h3]
        cases hg : firstErr (groupE s) 0 s.groups with
        | some x =>
          obtain ⟨i, e⟩ := x
          refine ⟨fun h => absurd h (firstErr_ne hg), fun h => ?_⟩
          rw [firstErr_none (fun j hj => by rw [Nat.zero_add]; exact h.2.2.2.1 j hj)] at hg
          cases hg
        | none =>
          have hg' := firstErr_none' hg
          simp only [Nat.zero_add] at hg'
          show (checkF s).2.2 = 0 ↔ _
          rw [checkF]
          by_cases h4 : 4 < s.filled.length
          · rw [if_pos h4]
            exact ⟨fun h => (by cases h), fun h => by omega⟩
          · rw [if_neg h4]
            cases hf : firstErr (filledE s) 0 s.filled with
            | some x =>
              obtain ⟨i, e⟩ := x
              refine ⟨fun h => absurd h (firstErr_ne hf), fun h => ?_⟩
              rw [firstErr_none (fun j hj => by rw [Nat.zero_add]; exact h.2.2.2.2.2 j hj)] at hf
              cases hf
            | none =>
              have hf' := firstErr_none' hf
              simp only [Nat.zero_add] at hf'
              exact ⟨fun _ => ⟨h1, h2, by omega, hg', by omega, hf'⟩, fun _ => rfl⟩
    · rw [if_pos h2]
      exact ⟨fun h => absurd h h2, fun h => absurd h.2.1 h2⟩
  · rw [if_pos h1]
    exact ⟨fun h => (by cases h), fun h => absurd h.1 h1⟩
theorem groupE_zero {s : Series} {i : Nat} {b : Int} : groupE s i b = 0 ↔ (1 ≤ b ∧ b ≤ ((2 ^ s.len : Nat) : Int) - 1) ∧ ∀ d, d < s.len → bitI b d = true → lk s d = true := by
  unfold groupE
  by_cases h1 : 1 ≤ b ∧ b ≤ ((2 ^ s.len : Nat) : Int) - 1
  · rw [if_neg (fun h => h h1)]
    by_cases h2 : (List.range s.len).any (fun d => bitI b d && !lk s d) = true
    · rw [if_pos h2]
      refine ⟨fun h => (by cases h), fun h => ?_⟩
      obtain ⟨d, hd, hx⟩ := List.any_eq_true.1 h2
      rw [Bool.and_eq_true] at hx
      rw [h.2 d (by simpa using hd) hx.1] at hx
      simp at hx
    · rw [if_neg h2]
      refine ⟨fun _ => ⟨h1, fun d hd hb => ?_⟩, fun _ => rfl⟩
      cases hl : lk s d with
      | true => rfl
      | false =>
        exfalso; apply h2
        rw [List.any_eq_true]
        exact ⟨d, by simpa using hd, by rw [hb, hl]; rfl⟩
  · rw [if_pos h1]
    exact ⟨fun h => (by cases h), fun h => absurd h.1 h1⟩
theorem filledE_zero {s : Series} {i : Nat} {f : Int × Int} : filledE s i f = 0 ↔ (0 ≤ f.1 ∧ f.1 ≤ (s.len : Int) - 1) ∧ lk s f.1.toNat = false ∧ (∀ x ∈ s.filled.take i, x.1 ≠ f.1) ∧ 0 ≤ f.2 ∧ f.2 ≤ 4 := by
  unfold filledE
  by_cases h1 : 0 ≤ f.1 ∧ f.1 ≤ (s.len : Int) - 1
  · rw [if_neg (fun h => h h1)]
    by_cases h2 : lk s f.1.toNat = true
    · rw [if_pos h2]; exact ⟨fun h => (by cases h), fun h => (by rw [h2] at h; exact absurd h.2.1 (by decide))⟩
    · rw [if_neg h2]
      by_cases h3 : (s.filled.take i).any (fun x => decide (x.1 = f.1)) = true
      · rw [if_pos h3]
        refine ⟨fun h => (by cases h), fun h => ?_⟩
        obtain ⟨x, hx, he⟩ := List.any_eq_true.1 h3
        exact absurd (of_decide_eq_true he) (h.2.2.1 x hx)
      · rw [if_neg h3]
        by_cases h4 : 0 ≤ f.2 ∧ f.2 ≤ 4
        · rw [if_pos h4]
          refine ⟨fun _ => ⟨h1, by simpa using h2, fun x hx he => ?_, h4⟩, fun _ => rfl⟩
          apply h3
          rw [List.any_eq_true]
          exact ⟨x, hx, decide_eq_true he⟩
        · rw [if_neg h4]; exact ⟨fun h => (by cases h), fun h => absurd h.2.2.2 h4⟩
  · rw [if_pos h1]; exact ⟨fun h => (by cases h), fun h => absurd h.1 h1⟩
def revTo (b m : Nat) : Nat := (List.range m).foldl (fun a d => 2 * a + (if b.testBit d then 1 else 0)) 0
theorem revTo_succ {b m : Nat} : revTo b (m + 1) = 2 * revTo b m + (if b.testBit m then 1 else 0) := by
  rw [revTo, List.range_succ, List.foldl_append]; rfl
theorem revTo_lt {b : Nat} : ∀ m, revTo b m < 2 ^ m
  | 0 => Nat.lt_of_lt_of_le (Nat.zero_lt_one) (Nat.le_refl _)
  | m + 1 => by
    have := revTo_lt (b := b) m
    rw [revTo_succ, Nat.pow_succ]
    split <;> omega
theorem revTo_bit {b : Nat} : ∀ (m k : Nat), k < m → (revTo b m).testBit k = b.testBit (m - 1 - k)
  | 0, _, h => by omega
  | m + 1, 0, _ => by
    rw [revTo_succ, Nat.testBit_zero]
    show _ = b.testBit (m + 1 - 1 - 0)
    rw [show m + 1 - 1 - 0 = m by omega]
    cases h : b.testBit m
    · rw [if_neg (by simp)]; simp
    · rw [if_pos rfl]; simp
  | m + 1, k + 1, h => by
    rw [revTo_succ, Nat.testBit_succ]
    have e : (2 * revTo b m + (if b.testBit m then 1 else 0)) / 2 = revTo b m := by split <;> omega
    rw [e, revTo_bit m k (by omega)]
    congr 1; omega
def revB (n : Nat) (b : Int) : Int := (revTo b.toNat n : Nat)
def revF (n : Nat) (f : Int × Int) : Int × Int := ((n : Int) - 1 - f.1, f.2)
abbrev backS (s : Series) : Series := { s with looked := s.looked.reverse, groups := s.groups.map (revB s.len), filled := s.filled.map (revF s.len) }
def revP (n : Nat) (x : Int × Int) : Int × Int := ((n : Int) - 1 - x.2, (n : Int) - 1 - x.1)
def revT (n : Nat) (t : Truth) : Truth := (t.1.map (revP n), t.2.map (revP n))
theorem back_len {s : Series} : (backS s).len = s.len := by simp [Series.len]
theorem lk_back {s : Series} {d : Nat} (hd : d < s.len) : lk (backS s) d = lk s (s.len - 1 - d) := by
  have hd' : d < s.looked.length := hd
  simp only [lk, Series.len, List.getD_eq_getElem?_getD]
  rw [List.getElem?_reverse hd']
theorem bit_rev {n : Nat} {b : Int} {d : Nat} (hd : d < n) : bitI (revB n b) d = bitI b (n - 1 - d) := by
  simp only [bitI, revB, Int.toNat_natCast]
  exact revTo_bit n d hd
theorem rev_rev {n : Nat} {x : Int × Int} : revP n (revP n x) = x := by
  simp only [revP]
  exact Prod.ext (by simp only; omega) (by simp only; omega)
theorem fits_iff {s : Series} {bits : Int} {lo hi : Nat} : fits s bits lo hi = true ↔ (s.lo ≤ (hi : Int) - lo + 1 ∧ (hi : Int) - lo + 1 ≤ s.hi) ∧ ∀ d, d < s.len → lk s d = true → (decide (lo ≤ d) && decide (d ≤ hi)) = bitI bits d := by
  unfold fits
  rw [Bool.and_eq_true, Bool.and_eq_true, decide_eq_true_eq, decide_eq_true_eq, List.all_eq_true]
  refine and_congr_right fun _ => ⟨fun h d hd hl => ?_, fun h d hd => ?_⟩
  · have := h d (by simpa using hd)
    rw [hl] at this
    simpa using this
  · cases hl : lk s d with
    | true => simp [h d (by simpa using hd) hl]
    | false => rfl
theorem fits_back {s : Series} {b : Int} {lo hi : Nat} (h1 : lo ≤ hi) (h2 : hi < s.len) (h : fits s b lo hi = true) : fits (backS s) (revB s.len b) (s.len - 1 - hi) (s.len - 1 - lo) = true := by
  rw [fits_iff] at h ⊢
  refine ⟨?_, fun d hd hl => ?_⟩
  · have := h.1
    show s.lo ≤ _ ∧ _ ≤ s.hi
    omega
  · rw [back_len] at hd
    rw [lk_back hd] at hl
    rw [bit_rev hd, ← h.2 _ (by omega) hl, Bool.and_comm]
    congr 1
    · rw [Bool.eq_iff_iff, decide_eq_true_eq, decide_eq_true_eq]; omega
    · rw [Bool.eq_iff_iff, decide_eq_true_eq, decide_eq_true_eq]; omega
  all_goals skip
theorem stays_back {s : Series} {b : Int} {x : Int × Int} (h : x ∈ staysE s b) : revP s.len x ∈ staysE (backS s) (revB s.len b) := by
  obtain ⟨lo, hi, h1, h2, h3, rfl⟩ := mem_stays.1 h
  refine mem_stays.2 ⟨s.len - 1 - hi, s.len - 1 - lo, by omega, by rw [back_len]; omega, fits_back h1 h2 h3, ?_⟩
  simp only [revP]
  exact Prod.ext (by simp only; omega) (by simp only; omega)
theorem rev_zero {n : Nat} : revB n 0 = 0 := by
  have : ∀ m, revTo 0 m = 0 := fun m => by
    induction m with
    | zero => rfl
    | succ m ih => rw [revTo_succ, ih]; simp
  simp [revB, this]
theorem all_back {s : Series} {t : Truth} (h : t ∈ allE s) : revT s.len t ∈ allE (backS s) := by
  rw [mem_allE] at h ⊢
  obtain ⟨⟨h1, h2⟩, h3⟩ := h
  have hgl : (backS s).groups.length = s.groups.length := by simp
  refine ⟨⟨by rw [hgl, ← h1]; simp [revT], fun i hi => ?_⟩, ?_⟩
  · rw [hgl] at hi
    have e1 : getP (revT s.len t).1 i = revP s.len (getP t.1 i) := by
      simp only [getP, revT, List.getD_eq_getElem?_getD, List.getElem?_map]
      rw [List.getElem?_eq_getElem (by omega)]; rfl
    have e2 : getG (backS s) i = revB s.len (getG s i) := by
      simp only [getG, List.getD_eq_getElem?_getD, List.getElem?_map]
      rw [List.getElem?_eq_getElem hi]; rfl
    rw [e1, e2]
    exact stays_back (h2 i hi)
  · rcases h3 with h | ⟨hu, x, hx, h⟩
    · left; simp [revT, h]
    · right
      refine ⟨hu, revP s.len x, ?_, by simp [revT, h]⟩
      have := stays_back hx
      rwa [rev_zero] at this
theorem back_back {s : Series} (hg : ∀ b ∈ s.groups, 0 ≤ b ∧ b < ((2 ^ s.len : Nat) : Int)) : backS (backS s) = s := by
  have hl : (backS s).len = s.len := back_len
  have h1 : (s.groups.map (revB s.len)).map (revB s.len) = s.groups := by
    rw [List.map_map]
    conv => rhs; rw [← List.map_id s.groups]
    refine List.map_congr_left fun b hb => ?_
    obtain ⟨p1, p2⟩ := hg b hb
    obtain ⟨n, rfl⟩ : ∃ n : Nat, b = n := ⟨b.toNat, by omega⟩
    show revB s.len (revB s.len n) = n
    simp only [revB, Int.toNat_natCast]
    congr 1
    apply Nat.eq_of_testBit_eq
    intro k
    by_cases hk : k < s.len
    · rw [revTo_bit _ _ hk, revTo_bit _ _ (by omega)]
      congr 1; omega
    · have hp : 2 ^ s.len ≤ 2 ^ k := Nat.pow_le_pow_right (by omega) (by omega)
      have q := revTo_lt (b := revTo n s.len) s.len
      rw [Nat.testBit_lt_two_pow (by omega), Nat.testBit_lt_two_pow (by omega)]
  have h2 : (s.filled.map (revF s.len)).map (revF s.len) = s.filled := by
    rw [List.map_map]
    conv => rhs; rw [← List.map_id s.filled]
    refine List.map_congr_left fun f _ => ?_
    show revF s.len (revF s.len f) = f
    simp only [revF]
    exact Prod.ext (by simp only; omega) rfl
  show Series.mk _ _ _ _ _ _ = s
  rw [hl, h1, h2, List.reverse_reverse]
theorem rev_revT {n : Nat} {t : Truth} : revT n (revT n t) = t := by
  obtain ⟨g, m⟩ := t
  simp only [revT, List.map_map]
  refine Prod.ext ?_ ?_
  · show g.map (revP n ∘ revP n) = g
    rw [show revP n ∘ revP n = id from funext fun x => rev_rev, List.map_id]
  · cases m with
    | none => rfl
    | some x => show some (revP n (revP n x)) = some x; rw [rev_rev]
theorem inS_rev {n : Nat} {x : Int × Int} {d : Int} : inS ((n : Int) - 1 - d) (revP n x) = inS d x := by
  simp only [inS, revP]
  rw [Bool.and_comm]
  congr 1
  · exact decide_eq_decide.2 (by omega)
  · exact decide_eq_decide.2 (by omega)
theorem on_rev {n : Nat} {t : Truth} {d : Int} : onE (revT n t) ((n : Int) - 1 - d) = onE t d := by
  have h : (revT n t).1 ++ (revT n t).2.toList = (t.1 ++ t.2.toList).map (revP n) := by
    simp only [revT, List.map_append]
    cases t.2 <;> rfl
  unfold onE
  rw [h, List.countP_map]
  congr 1
  exact List.countP_congr fun x _ => by show inS _ (revP n x) = true ↔ _; rw [inS_rev]
theorem truths_back {s : Series} {but : List Int} {t : Truth} (h : t ∈ truthsE s but) : revT s.len t ∈ truthsE (backS s) but := by
  rw [mem_truthsE] at h ⊢
  refine ⟨all_back h.1, ?_⟩
  have h2 := h.2
  rw [soE_eq, List.all_eq_true] at h2 ⊢
  intro k hk
  have hk' : k < s.filled.length := by simpa using hk
  have := h2 k (by simpa using hk')
  rw [soK] at this ⊢
  have e : (backS s).filled.getD k (0, 0) = revF s.len (s.filled.getD k (0, 0)) := by
    simp only [List.getD_eq_getElem?_getD, List.getElem?_map]
    rw [List.getElem?_eq_getElem hk']; rfl
  rw [e]
  simp only [revF, on_rev]
  exact this
theorem err_back {s : Series} (he : errE s = 0) : errE (backS s) = 0 := by
  obtain ⟨h1, h2, h3, h4, h5, h6⟩ := err_iff.1 he
  have hl : (backS s).len = s.len := back_len
  have hgl : (backS s).groups.length = s.groups.length := by simp
  have hfl : (backS s).filled.length = s.filled.length := by simp
  refine err_iff.2 ⟨by rw [hl]; exact h1, h2, by rw [hgl]; exact h3, fun j hj => ?_, by rw [hfl]; exact h5, fun j hj => ?_⟩
  · rw [hgl] at hj
    obtain ⟨⟨g1, g2⟩, g3⟩ := groupE_zero.1 (h4 j hj)
    have e : (backS s).groups[j]'(by rw [hgl]; exact hj) = revB s.len s.groups[j] := by simp
    rw [e]
    obtain ⟨n, hn⟩ : ∃ n : Nat, s.groups[j] = n := ⟨s.groups[j].toNat, by omega⟩
    rw [hn] at g1 g2 g3 ⊢
    refine groupE_zero.2 ⟨?_, fun d hd hb => ?_⟩
    · rw [hl]
      have q := revTo_lt (b := n) s.len
      have hp : 0 < revTo n s.len := by
        have hn0 : n ≠ 0 := by omega
        obtain ⟨k, hk⟩ := Nat.exists_testBit_of_ne_zero hn0
        have hkl : k < s.len := by
          rcases Nat.lt_or_ge k s.len with h | h
          · exact h
          · have hp : 2 ^ s.len ≤ 2 ^ k := Nat.pow_le_pow_right (by omega) h
            rw [Nat.testBit_lt_two_pow (by omega)] at hk; cases hk
        have hb := revTo_bit (b := n) s.len (s.len - 1 - k) (by omega)
        rw [show s.len - 1 - (s.len - 1 - k) = k by omega, hk] at hb
        rcases Nat.eq_zero_or_pos (revTo n s.len) with h | h
        · rw [h] at hb; simp at hb
        · exact h
      simp only [revB, Int.toNat_natCast]
      omega
    · rw [hl] at hd
      rw [bit_rev hd] at hb
      rw [lk_back hd]
      exact g3 _ (by omega) hb
  · rw [hfl] at hj
    obtain ⟨⟨f1, f2⟩, f3, f4, f5⟩ := filledE_zero.1 (h6 j hj)
    have e : (backS s).filled[j]'(by rw [hfl]; exact hj) = revF s.len s.filled[j] := by simp
    rw [e]
    obtain ⟨n, hn⟩ : ∃ n : Nat, s.filled[j].1 = n := ⟨s.filled[j].1.toNat, by omega⟩
    refine filledE_zero.2 ⟨?_, ?_, ?_, f5⟩
    · rw [hl]; simp only [revF]; omega
    · simp only [revF]
      rw [hn] at f3 f1 f2 ⊢
      rw [Int.toNat_natCast] at f3
      rw [show ((s.len : Int) - 1 - n).toNat = s.len - 1 - n by omega, lk_back (by omega), show s.len - 1 - (s.len - 1 - n) = n by omega]
      exact f3
    · intro x hx
      rw [← List.map_take] at hx
      obtain ⟨y, hy, rfl⟩ := List.mem_map.1 hx
      have := f4 y hy
      simp only [revF]
      omega
end Go.Proofs.Ytihahmggfjjkjaa
namespace Go.Proofs.Ytihahmggfjjkjaa
open Go.AM Go.IntWalk Go.PL
set_option maxRecDepth 100000
set_option maxHeartbeats 4000000
set_option linter.unusedSimpArgs false
variable {H : AH} {R : AV → AH → Prop}
theorem openTo_zero {s : Series} {ts : List Truth} : ∀ n, 0 ≤ (openTo s ts n).2 ∧ ((openTo s ts n).2 = 0 → (openTo s ts n).1 = 0)
  | 0 => ⟨Int.le_refl _, fun _ => rfl⟩
  | n + 1 => by
    have ih := openTo_zero (s := s) (ts := ts) n
    have hst : openTo s ts (n + 1) = openStep s ts (openTo s ts n) n := by rw [openTo, List.range_succ, List.foldl_append]; rfl
    rw [hst, openStep]
    split
    · rename_i h
      simp only
      omega
    · exact ih
end Go.Proofs.Ytihahmggfjjkjaa
namespace Go.AM
theorem pushG {α : Type} {z bytes : Nat} {E : Elem α} {Hk : AH} {F : Nat → Prop} {v : AV} {l : List α} {cs : List AV} {x : α} (hE : Stays E) (hEF : ∀ {F H F' H' cs a}, E F H cs a → E F' H' cs a) (hc : ∀ F H cs a, E F H cs a → cs.all AV.isCell = true) (hF : ∀ k, F k → k < Hk.next) (hv : IsSl z E F Hk v l) (hcs : cs.length = z) (hx : E F Hk cs x) (hl : l.length ≤ 1000) (hb : bytes ≤ 100) :
    ∃ va S1 vb S2, appendA ((Hk.alloc (.cells false [])).alloc (.cells false cs)) z bytes (.slice Hk.next 0 0 z) v = some (va, S1) ∧ appendA S1 z bytes va (.slice (Hk.next + 1) 0 1 z) = some (vb, S2) ∧ IsSl z E (fun b => b < S2.next ∧ Hk.next ≤ b) S2 vb (l ++ [x]) ∧ Hk.next < S2.next ∧ (∀ b, b < Hk.next → S2.get b = Hk.get b) ∧ vb.cells? = some [vb] ∧ vb.isCell = true ∧ (∀ b, b < Hk.next → S1.get b = Hk.get b) := by
  have hgS : Grew Hk ((Hk.alloc (.cells false [])).alloc (.cells false cs)) := GW
  have hS0 : ((Hk.alloc (.cells false [])).alloc (.cells false cs)).get Hk.next = some (.cells false []) := by simp(maxSteps:=9999999)(disch:=first|omega|(simp only[AN];omega))only[↓KP,EN,↓reduceIte,reduceCtorEq,Nat.reduceEqDiff,Nat.reduceAdd,Nat.reduceLeDiff,Nat.reduceMul]
  have hS1 : ((Hk.alloc (.cells false [])).alloc (.cells false cs)).get (Hk.next + 1) = some (.cells false cs) := by simp(maxSteps:=9999999)(disch:=first|omega|(simp only[AN];omega))only[↓KP,EN,↓reduceIte,reduceCtorEq,Nat.reduceEqDiff,Nat.reduceAdd,Nat.reduceLeDiff,Nat.reduceMul]
  have hSn : ((Hk.alloc (.cells false [])).alloc (.cells false cs)).next = Hk.next + 1 + 1 := rfl
  generalize (Hk.alloc (.cells false [])).alloc (.cells false cs) = S at *
  have h0 : Mine z E (fun _ => False) Hk.next S (.slice Hk.next 0 0 z) [] := .inr ⟨Hk.next, 0, [], [], by simp, Nat.le_refl _, by omega, hS0, by simp [readN], .nil⟩
  obtain ⟨cells, hs, hr⟩ := (hv.move (F' := F) (H' := S) hE fun b hb => ⟨hb, hgS.get b (hF b hb)⟩).src
  have r1 : l.length * bytes ≤ 1000 * 100 := Nat.mul_le_mul hl hb
  have r2 : (l.length + 1) * bytes ≤ 1001 * 100 := Nat.mul_le_mul (by omega) hb
  obtain ⟨va, S1, a1, a2, a3, a4⟩ := h0.append (bytes := bytes) (x := v) (l2 := l) hE (by omega) hv.lenA hs (hr.mono fun cs a h => hEF h) (Rows.allCell (fun cs a h => hc _ _ cs a h) hr) (by simp only [List.length_nil, Nat.zero_add, roomA]; omega)
  rw [List.nil_append] at a2
  have hx1 : S1.get (Hk.next + 1) = some (.cells false cs) := by rw [a4 _ (by omega) (fun i n y e => by simp only [AV.slice.injEq] at e; omega), hS1]
  have hsrc : srcCells S1 z [x].length (.slice (Hk.next + 1) 0 1 z) = some cs := by simp [srcCells, AH.read, hx1, readN, ← hcs]
  obtain ⟨vb, S2, b1, b2, b3, b4⟩ := a2.append (bytes := bytes) (x := .slice (Hk.next + 1) 0 1 z) (l2 := [x]) hE (by omega) rfl hsrc (Rows.single hcs (hEF hx)) (hc _ _ _ _ hx) (by simp only [List.length_singleton, roomA]; omega)
  have k1 : ∀ b, b < Hk.next → S1.get b = Hk.get b := fun b hb => by rw [a4 b (by omega) (fun i n y e => by simp only [AV.slice.injEq] at e; omega), hgS.get b hb]
  exact ⟨va, S1, vb, S2, a1, b1, (b2.slF hE).move hE fun b hb => ⟨⟨hb.1, hb.2.resolve_left id⟩, rfl⟩, by omega, fun b hb => by rw [b4 b (by omega) (fun i n y e => by have := (a2.spine e).1; omega), k1 b hb], b2.cells?, b2.isCell, k1⟩
end Go.AM
namespace Go.Proofs.Ytihahmggfjjkjaa
open Go.AM Go.IntWalk Go.PL
set_option maxRecDepth 100000
set_option maxHeartbeats 4000000
set_option linter.unusedSimpArgs false
variable {H : AH} {R : AV → AH → Prop}
structure Both (s : Series) : Prop where
  e : errE s = 0
  e' : errE (backS s) = 0
  to : ∀ c t, t ∈ truthsE s c → revT s.len t ∈ truthsE (backS s) c
  fro : ∀ c t, t ∈ truthsE (backS s) c → revT s.len t ∈ truthsE s c
theorem Both.ne {s : Series} (h : Both s) : ¬ errE s ≠ 0 := fun q => q h.e
theorem Both.ne' {s : Series} (h : Both s) : ¬ errE (backS s) ≠ 0 := fun q => q h.e'
theorem both {s : Series} (he : errE s = 0) : Both s := by
  have hf := fine_of he
  refine ⟨he, err_back he, fun c t h => truths_back h, fun c t h => ?_⟩
  have h2 := truths_back h
  rw [back_back fun b hb => by have := hf.g b hb; omega, back_len] at h2
  exact h2
theorem nil_back {s : Series} (h : Both s) (c : List Int) : truthsE s c = [] ↔ truthsE (backS s) c = [] := by
  rw [List.eq_nil_iff_forall_not_mem, List.eq_nil_iff_forall_not_mem]
  exact ⟨fun q t ht => q _ (h.fro c t ht), fun q t ht => q _ (h.to c t ht)⟩
theorem wrong_back {s : Series} (h : Both s) : wrongE (backS s) = wrongE s := by
  have hg : goodE (backS s) = goodE s := funext fun c => by
    rw [goodE, goodE]; exact decide_eq_decide.2 (not_congr (nil_back h c).symm)
  have hl : (backS s).filled.length = s.filled.length := by simp
  rw [wrongE, wrongE, if_neg h.ne', if_neg h.ne, hl, hg]
theorem settle_congr {l m : List Truth} {p q : Truth → Bool} (hl : l ≠ []) (hm : m ≠ []) (h1 : (∀ t ∈ l, p t = true) ↔ ∀ t ∈ m, q t = true) (h2 : (∀ t ∈ l, p t = false) ↔ ∀ t ∈ m, q t = false) : settledE (l.countP p : Nat) l.length = settledE (m.countP q : Nat) m.length := by
  obtain ⟨a1, a2, a3⟩ := settle_spec (p := p) hl
  obtain ⟨b1, b2, b3⟩ := settle_spec (p := q) hm
  rcases b3 with e | e | e
  · rcases a3 with f | f | f
    · rw [e, f]
    · exfalso; rw [b1.2 (h1.1 (a1.1 f))] at e; cases e
    · exfalso; rw [b2.2 (h2.1 (a2.1 f))] at e; cases e
  · rw [e]; exact a1.2 (h1.2 (b1.1 e))
  · rw [e]; exact a2.2 (h2.2 (b2.1 e))
theorem rev_some {n : Nat} {t : Truth} : (revT n t).2.isSome = t.2.isSome := by
  obtain ⟨g, m⟩ := t
  cases m <;> rfl
theorem unseen_back {s : Series} (h : Both s) : unseenE (backS s) = unseenE s := by
  rw [unseenE, unseenE, if_neg h.ne', if_neg h.ne]
  by_cases ht : truthsE s [] = []
  · rw [if_pos ht, if_pos ((nil_back h []).1 ht)]
  · have ht' := fun q => ht ((nil_back h []).2 q)
    rw [if_neg ht, if_neg ht']
    congr 1
    refine settle_congr ht' ht ⟨fun q t htm => ?_, fun q t htm => ?_⟩ ⟨fun q t htm => ?_, fun q t htm => ?_⟩
    · have := q _ (h.to [] t htm); rwa [rev_some] at this
    · have := q _ (h.fro [] t htm); rwa [rev_some] at this
    · have := q _ (h.to [] t htm); rwa [rev_some] at this
    · have := q _ (h.fro [] t htm); rwa [rev_some] at this
theorem num_back {s : Series} (h : Both s) (ht : truthsE s [] ≠ []) (d : Int) : numE (truthsE (backS s) []) ((s.len : Int) - 1 - d) = numE (truthsE s []) d := by
  have ht' := fun q => ht ((nil_back h []).2 q)
  obtain ⟨a1, ⟨ta, a2, a3⟩, ⟨tb, a4, a5⟩⟩ := num_spec (d := d) ht
  obtain ⟨b1, ⟨tc, b2, b3⟩, ⟨td, b4, b5⟩⟩ := num_spec (d := (s.len : Int) - 1 - d) ht'
  have c1 := b1 _ (h.to [] ta a2)
  have c2 := b1 _ (h.to [] tb a4)
  rw [on_rev] at c1 c2
  have c3 := a1 _ (h.fro [] tc b2)
  have c4 := a1 _ (h.fro [] td b4)
  have q := fun t => on_rev (n := s.len) (t := revT s.len t) (d := d)
  simp only [rev_revT] at q
  rw [← q] at c3 c4
  refine Prod.ext ?_ ?_ <;> omega
theorem number_back {s : Series} (h : Both s) {d : Nat} (hd : d < s.len) : numberE (backS s) ((s.len : Int) - 1 - d) = numberE s d := by
  have h1 : indexE s d s.len = 0 := by rw [indexE, if_pos h.e, if_pos (by omega)]
  have h2 : indexE (backS s) ((s.len : Int) - 1 - d) (backS s).len = 0 := by rw [indexE, if_pos h.e', back_len, if_pos (by omega)]
  rw [numberE, numberE, h1, h2, if_neg (show ¬ (0 : Int) ≠ 0 by decide), if_neg (show ¬ (0 : Int) ≠ 0 by decide)]
  by_cases ht : truthsE s [] = []
  · rw [if_pos ht, if_pos ((nil_back h []).1 ht)]
  · have ht' := fun q => ht ((nil_back h []).2 q)
    rw [if_neg ht, if_neg ht', num_back h ht]
theorem days_rev {n : Nat} {x : Int × Int} : daysE (revP n x) = daysE x := by simp only [daysE, revP]; omega
theorem get_rev {n i : Nat} {t : Truth} (hi : i < t.1.length) : getP (revT n t).1 i = revP n (getP t.1 i) := by
  simp only [getP, revT, List.getD_eq_getElem?_getD, List.getElem?_map]
  rw [List.getElem?_eq_getElem hi]; rfl
theorem lasted_back {s : Series} (h : Both s) {i : Nat} (hi : i < s.groups.length) : lastedE (backS s) i = lastedE s i := by
  have hgl : (backS s).groups.length = s.groups.length := by simp
  have h1 : indexE s i s.groups.length = 0 := by rw [indexE, if_pos h.e, if_pos (by omega)]
  have h2 : indexE (backS s) i (backS s).groups.length = 0 := by rw [indexE, if_pos h.e', hgl, if_pos (by omega)]
  rw [lastedE, lastedE, h1, h2, if_neg (show ¬ (0 : Int) ≠ 0 by decide), if_neg (show ¬ (0 : Int) ≠ 0 by decide)]
  by_cases ht : truthsE s [] = []
  · rw [if_pos ht, if_pos ((nil_back h []).1 ht)]
  · have ht' := fun q => ht ((nil_back h []).2 q)
    rw [if_neg ht, if_neg ht']
    congr 1
    show lastsE (truthsE (backS s) []) i = lastsE (truthsE s []) i
    obtain ⟨a1, ⟨ta, a2, a3⟩, ⟨tb, a4, a5⟩⟩ := lasts_spec (i := i) ht
    obtain ⟨b1, ⟨tc, b2, b3⟩, ⟨td, b4, b5⟩⟩ := lasts_spec (i := i) ht'
    have c1 := b1 _ (h.to [] ta a2)
    have c2 := b1 _ (h.to [] tb a4)
    rw [get_rev (by rw [truthsE_mem a2]; exact hi), days_rev] at c1
    rw [get_rev (by rw [truthsE_mem a4]; exact hi), days_rev] at c2
    have c3 := a1 _ (h.fro [] tc b2)
    have c4 := a1 _ (h.fro [] td b4)
    rw [get_rev (by rw [truthsE_mem b2, hgl]; exact hi), days_rev] at c3
    rw [get_rev (by rw [truthsE_mem b4, hgl]; exact hi), days_rev] at c4
    refine Prod.ext ?_ ?_ <;> omega
theorem openTo_spec {s : Series} {ts : List Truth} : ∀ n, (∀ d, d < n → lk s d = false → (numE ts (d : Nat)).2 - (numE ts (d : Nat)).1 ≤ (openTo s ts n).2) ∧ ((openTo s ts n).2 = 0 ∨ ∃ d, d < n ∧ lk s d = false ∧ (openTo s ts n).2 = (numE ts (d : Nat)).2 - (numE ts (d : Nat)).1)
  | 0 => ⟨fun d hd => by omega, .inl rfl⟩
  | n + 1 => by
    obtain ⟨h1, h2⟩ := openTo_spec (s := s) (ts := ts) n
    have hst : openTo s ts (n + 1) = openStep s ts (openTo s ts n) n := by rw [openTo, List.range_succ, List.foldl_append]; rfl
    rw [hst, openStep]
    by_cases hc : lk s n = false ∧ (openTo s ts n).2 < (numE ts (n : Nat)).2 - (numE ts (n : Nat)).1
    · rw [if_pos hc]
      refine ⟨fun d hd hl => ?_, .inr ⟨n, by omega, hc.1, rfl⟩⟩
      by_cases hdn : d = n
      · subst hdn; exact Int.le_refl _
      · have := h1 d (by omega) hl
        simp only; omega
    · rw [if_neg hc]
      refine ⟨fun d hd hl => ?_, h2.imp id fun ⟨d, q1, q2, q3⟩ => ⟨d, by omega, q2, q3⟩⟩
      by_cases hdn : d = n
      · subst hdn
        rcases Int.lt_or_le (openTo s ts d).2 ((numE ts (d : Nat)).2 - (numE ts (d : Nat)).1) with h | h
        · exact absurd ⟨hl, h⟩ hc
        · exact h
      · exact h1 d (by omega) hl
theorem open_back {s : Series} (h : Both s) : (openE (backS s)).2 = (openE s).2 := by
  rw [openE, openE, if_neg h.ne', if_neg h.ne]
  by_cases ht : truthsE s [] = []
  · rw [if_pos ht, if_pos ((nil_back h []).1 ht)]
  · have ht' := fun q => ht ((nil_back h []).2 q)
    rw [if_neg ht, if_neg ht', back_len]
    have hw : (openTo (backS s) (truthsE (backS s) []) s.len).2 = (openTo s (truthsE s []) s.len).2 := by
      obtain ⟨a1, a2⟩ := openTo_spec (s := s) (ts := truthsE s []) s.len
      obtain ⟨b1, b2⟩ := openTo_spec (s := backS s) (ts := truthsE (backS s) []) s.len
      have z1 := (openTo_zero (s := s) (ts := truthsE s []) s.len).1
      have z2 := (openTo_zero (s := backS s) (ts := truthsE (backS s) []) s.len).1
      have hn : ∀ d, d < s.len → numE (truthsE (backS s) []) ((s.len - 1 - d : Nat) : Int) = numE (truthsE s []) (d : Nat) := fun d hd => by
        rw [← num_back h ht]; congr 1; omega
      have l1 : (openTo s (truthsE s []) s.len).2 ≤ (openTo (backS s) (truthsE (backS s) []) s.len).2 := by
        rcases a2 with e | ⟨d, q1, q2, q3⟩
        · omega
        · have := b1 (s.len - 1 - d) (by omega) (by rw [lk_back (by omega), show s.len - 1 - (s.len - 1 - d) = d by omega]; exact q2)
          rw [hn d q1] at this
          omega
      have l2 : (openTo (backS s) (truthsE (backS s) []) s.len).2 ≤ (openTo s (truthsE s []) s.len).2 := by
        rcases b2 with e | ⟨d, q1, q2, q3⟩
        · omega
        · rw [lk_back q1] at q2
          have := a1 (s.len - 1 - d) (by omega) q2
          have hn' := hn (s.len - 1 - d) (by omega)
          rw [show s.len - 1 - (s.len - 1 - d) = d by omega] at hn'
          rw [hn'] at q3
          omega
      omega
    by_cases hz : (openTo s (truthsE s []) s.len).2 = 0
    · rw [if_pos hz, if_pos (by rw [hw]; exact hz)]
    · rw [if_neg hz, if_neg (by rw [hw]; exact hz), hw]
end Go.Proofs.Ytihahmggfjjkjaa
namespace Go.Proofs.Ytihahmggfjjkjaa
open Go.AM Go.IntWalk Go.PL
set_option maxRecDepth 100000
set_option maxHeartbeats 4000000
set_option linter.unusedSimpArgs false
variable {H : AH} {R : AV → AH → Prop}
theorem EB.far {F F' : Nat → Prop} {H H' : AH} {cs : List AV} {a : Bool} (h : EB F H cs a) : EB F' H' cs a := h
theorem EB.isCell (F : Nat → Prop) (H : AH) (cs : List AV) (a : Bool) (h : EB F H cs a) : cs.all AV.isCell = true := by
  obtain rfl : cs = _ := h; rfl
theorem EInt.far {F F' : Nat → Prop} {H H' : AH} {cs : List AV} {a : Int} (h : EInt F H cs a) : EInt F' H' cs a := h
theorem EP.far {F F' : Nat → Prop} {H H' : AH} {cs : List AV} {a : Int × Int} (h : EP F H cs a) : EP F' H' cs a := h
theorem Back_run (vl vg vf : AV) (s : Series) (hh : IsSer (Old H) H vl vg vf s) (hs : Sized s) (k : ∀ H', Grew H H' → R (.bool true) H') : CallQ prog (.func 14 [] []) [serArg vl vg vf s] H R := by
  refine CallQ_enter (fn:=c14) rfl (Nat.le_of_ble_eq_true rfl) ?_;simp(maxSteps:=9999999)(disch:=first|omega|(simp only[AN];omega))only[c14,envFrom,hh.l.isCell,hh.g.isCell,hh.f.isCell,↓KP,EN,↓reduceIte,reduceCtorEq,Nat.reduceEqDiff,Nat.reduceAdd,Nat.reduceLeDiff,Nat.reduceMul]
  first|refine C_call ?_|refine C_calld ?_
  refine valid_run vl vg vf s (hh.grow GW) hs fun H1 hg1 => ?_
  have hg1n:=hg1.next;try simp only[AN]at hg1n
  have hbox : H1.get H.next = some (.cells false [vl, I s.lo, I s.hi, vg, .bool s.unseen, vf]) := by simp(maxSteps:=9999999)(disch:=first|omega|(simp only[AN];omega))only[hg1.get,↓KP,EN,↓reduceIte,reduceCtorEq,Nat.reduceEqDiff,Nat.reduceAdd,Nat.reduceLeDiff,Nat.reduceMul]
  have hg0 : Grew H H1 := GW
  clear hg1
  by_cases he : errE s = 0
  · have hB := both he
    have hf := fine_of he
    have hl8 := hf.len
    have hgl := hf.gl
    have hfl := hf.fl
    have hlen : (s.looked.length : Int) = s.len := rfl
    have wl : IntKind.i64.wrap ((s.looked.length : Int) - 1) = (s.len : Int) - 1 := by rw [hlen]; exact i64_in _ (by omega)
    simp(maxSteps:=9999999)(disch:=first|omega|(simp only[AN];omega))only[eq_true he,hbox,hh.l.len,wl,hh.l.isCell,hh.g.isCell,hh.f.isCell,↓KP,EN,↓reduceIte,reduceCtorEq,Nat.reduceEqDiff,Nat.reduceAdd,Nat.reduceLeDiff,Nat.reduceMul]
    generalize hJ : AH.set _ _ _ = J
    have j1 : J.get H.next = some (.cells false [vl, I s.lo, I s.hi, vg, .bool s.unseen, vf]) := by rw [← hJ]; simp(maxSteps:=9999999)(disch:=first|omega|(simp only[AN];omega))only[hbox,↓KP,EN,↓reduceIte,reduceCtorEq,Nat.reduceEqDiff,Nat.reduceAdd,Nat.reduceLeDiff,Nat.reduceMul]
    have j2 : J.get H1.next = some (.cells false [.nilslice, I s.lo, I s.hi, .nilslice, .bool s.unseen, .nilslice]) := by rw [← hJ]; simp(maxSteps:=9999999)(disch:=first|omega|(simp only[AN];omega))only[↓KP,EN,↓reduceIte,reduceCtorEq,Nat.reduceEqDiff,Nat.reduceAdd,Nat.reduceLeDiff,Nat.reduceMul]
    have hJn : J.next = H1.next + 1 := by rw [← hJ]; rfl
    have hgJ : Grew H J := ⟨by omega, fun b hb => by rw [← hJ]; simp(maxSteps:=9999999)(disch:=first|omega|(simp only[AN];omega))only[hg0.get,↓KP,EN,↓reduceIte,reduceCtorEq,Nat.reduceEqDiff,Nat.reduceAdd,Nat.reduceLeDiff,Nat.reduceMul]⟩
    clear hJ
    have hFn : ∀ {M : AH}, ∀ k, (J.next ≤ k ∧ k < M.next) → k < M.next := fun k h => h.2
    refine K_loop (fun mz ez H2 => ∃ (j : Nat) (va : AV) (tail : Env), ez = (0, serArg vl vg vf s) :: (1, .ptr H.next 0) :: (2, .bool false) :: tail ∧ (tail.get 3 = some (.ptr H1.next 0)) ∧ (tail.get 4 = some (I ((s.len : Int) - 1))) ∧ (tail.get 5 = some (I ((s.len : Int) - 1 - j))) ∧ (J.next ≤ H2.next) ∧ (∀ b, b < J.next → b ≠ H1.next → H2.get b = J.get b) ∧ (H2.get H1.next = some (.cells false [va, I s.lo, I s.hi, .nilslice, .bool s.unseen, .nilslice])) ∧ (IsSl 1 EB (fun b => J.next ≤ b ∧ b < H2.next) H2 va (s.looked.reverse.take j)) ∧ (j ≤ s.len) ∧ mz = s.len - j) _ ⟨0, .nilslice, _, rfl, ?_, ?_, (by simp(maxSteps:=9999999)(disch:=first|omega|(simp only[AN];omega))only[↓KP,EN,↓reduceIte,reduceCtorEq,Nat.reduceEqDiff,Nat.reduceAdd,Nat.reduceLeDiff,Nat.reduceMul]; congr 2; omega), ?_, (by intro _ _ _; rfl), (by exact j2), (by exact .inl ⟨rfl, rfl⟩), ?_, rfl⟩ ?_
    iterate 4 (focus (first|(with_reducible rfl)|omega|(with_reducible(repeat first|exact Grew.refl _|assumption|apply Grew.alloc|refine Grew.set ?_ _ (by first|omega|(simp only[AN];omega)));done)|(simp(maxSteps:=9999999)(disch:=first|omega|(simp only[AN];omega))only[↓KP,EN,↓reduceIte,reduceCtorEq,Nat.reduceEqDiff,Nat.reduceAdd,Nat.reduceLeDiff,Nat.reduceMul]<;>first|omega|rfl)|(simp;done)|rfl))
    rintro mz ez H2 ⟨j, va, tail, rfl, f3, f4, f5, hn, hk, hb, hva, hj, hmz⟩; subst mz
    simp(maxSteps:=9999999)(disch:=first|omega|(simp only[AN];omega))only[f5,↓KP,EN,↓reduceIte,reduceCtorEq,Nat.reduceEqDiff,Nat.reduceAdd,Nat.reduceLeDiff,Nat.reduceMul]
    refine C_decide (fun hc => ?_) (fun hc => ?_)
    · have hj' : j < s.len := by omega
      have hjr : j < s.looked.reverse.length := by rw [List.length_reverse]; exact hj'
      have hjl : s.len - 1 - j < s.looked.length := by show s.len - 1 - j < s.len; omega
      have htk : s.looked.reverse.take (j + 1) = s.looked.reverse.take j ++ [s.looked.reverse[j]] := List.take_succ_eq_append_getElem hjr
      have hel : s.looked.reverse[j] = s.looked[s.len - 1 - j] := by rw [List.getElem_reverse]; rfl
      obtain ⟨pb, pi, pro, pvs, plt, p⟩ := rdB hh.l (n := (s.len : Int) - 1 - j) (k := s.len - 1 - j) (by omega) hjl
      rw [← hel] at p
      have hkH : ∀ b, b < H.next → H2.get b = H.get b := fun b hb => by rw [hk b (by omega) (by omega), hgJ.get b hb]
      have hbx := hk H.next (by omega) (by omega)
      rw [j1] at hbx
      have e1 : IntKind.i64.wrap ((s.len : Int) - 1 - j - 1) = (s.len : Int) - 1 - (j + 1 : Nat) := by rw [i64_in _ (by omega)]; omega
      obtain ⟨v1, S1, v2, S2, s1, s2, s3, s4, s5, s6, s7, s8⟩ := pushG (bytes := 1) (cs := [.bool s.looked.reverse[j]]) (x := s.looked.reverse[j]) EB.stays EB.far EB.isCell hFn hva rfl rfl (by simp only [List.length_take]; omega) (by omega)
      generalize s.looked.reverse[j] = b at *
      simp(maxSteps:=9999999)(disch:=first|omega|(simp only[AN];omega))only[↓KP,EN,↓reduceIte,reduceCtorEq,Nat.reduceEqDiff,Nat.reduceAdd,Nat.reduceLeDiff,Nat.reduceMul]
      refine K_draw ?_
      simp(maxSteps:=9999999)(disch:=first|omega|(simp only[AN];omega))only[f3,f4,f5,hb,hbx,hkH,p,s1,s2,s5,s8,s6,s7,e1,↓KP,EN,↓reduceIte,reduceCtorEq,Nat.reduceEqDiff,Nat.reduceAdd,Nat.reduceLeDiff,Nat.reduceMul]
      refine ⟨_, ?_, j + 1, v2, _, rfl, ?_, ?_, ?_, ?_, (by intro c hc1 hc2; simp(maxSteps:=9999999)(disch:=first|omega|(simp only[AN];omega))only[s5,hk c hc1 hc2,↓KP,EN,↓reduceIte,reduceCtorEq,Nat.reduceEqDiff,Nat.reduceAdd,Nat.reduceLeDiff,Nat.reduceMul]), ?_, (by rw [htk]; exact s3.move EB.stays fun c hc => ⟨⟨by omega, hc.1⟩, get_set_other (by omega)⟩), ?_, rfl⟩ <;> (first|omega|(with_reducible assumption)|(with_reducible(repeat first|exact Grew.refl _|assumption|apply Grew.alloc|refine Grew.set ?_ _ (by first|omega|(simp only[AN];omega)));done)|(simp(maxSteps:=9999999)(disch:=first|omega|(simp only[AN];omega))only[f3,f4,f5,↓KP,EN,↓reduceIte,reduceCtorEq,Nat.reduceEqDiff,Nat.reduceAdd,Nat.reduceLeDiff,Nat.reduceMul]<;>first|omega|rfl))
    · have hje : j = s.len := by omega
      have hrev : s.looked.reverse.take j = s.looked.reverse := by rw [hje]; exact List.take_of_length_le (by rw [List.length_reverse]; exact Nat.le_refl _)
      rw [hrev] at hva
      simp(maxSteps:=9999999)(disch:=first|omega|(simp only[AN];omega))only[↓KP,EN,↓reduceIte,reduceCtorEq,Nat.reduceEqDiff,Nat.reduceAdd,Nat.reduceLeDiff,Nat.reduceMul]
      refine K_loop (fun mz ez H3 => ∃ (i : Nat) (vc : AV) (tail : Env), ez = (0, serArg vl vg vf s) :: (1, .ptr H.next 0) :: (2, .bool false) :: tail ∧ (tail.get 3 = some (.ptr H1.next 0)) ∧ (tail.get 4 = some (I ((s.len : Int) - 1))) ∧ (tail.get 6 = some (I i)) ∧ (J.next ≤ H3.next) ∧ (∀ b, b < J.next → b ≠ H1.next → H3.get b = J.get b) ∧ (H3.get H1.next = some (.cells false [va, I s.lo, I s.hi, vc, .bool s.unseen, .nilslice])) ∧ (IsSl 1 EB (fun b => J.next ≤ b ∧ b < H3.next) H3 va s.looked.reverse) ∧ (IsSl 1 EInt (fun b => J.next ≤ b ∧ b < H3.next) H3 vc ((s.groups.take i).map (revB s.len))) ∧ (i ≤ s.groups.length) ∧ mz = s.groups.length - i) _ ⟨0, .nilslice, _, rfl, (by simp(maxSteps:=9999999)(disch:=first|omega|(simp only[AN];omega))only[f3,↓KP,EN,↓reduceIte,reduceCtorEq,Nat.reduceEqDiff,Nat.reduceAdd,Nat.reduceLeDiff,Nat.reduceMul]), (by simp(maxSteps:=9999999)(disch:=first|omega|(simp only[AN];omega))only[f4,↓KP,EN,↓reduceIte,reduceCtorEq,Nat.reduceEqDiff,Nat.reduceAdd,Nat.reduceLeDiff,Nat.reduceMul]), ?_, ?_, (by exact hk), (by exact hb), (by exact hva), (by exact .inl ⟨rfl, rfl⟩), ?_, rfl⟩ ?_
      iterate 3 (focus (first|(with_reducible rfl)|omega|(with_reducible(repeat first|exact Grew.refl _|assumption|apply Grew.alloc|refine Grew.set ?_ _ (by first|omega|(simp only[AN];omega)));done)|(simp(maxSteps:=9999999)(disch:=first|omega|(simp only[AN];omega))only[↓KP,EN,↓reduceIte,reduceCtorEq,Nat.reduceEqDiff,Nat.reduceAdd,Nat.reduceLeDiff,Nat.reduceMul]<;>first|omega|rfl)|(simp;done)|rfl))
      rintro mz ez H3 ⟨i, vc, tail, rfl, g3, g4, g6, hn3, hk3, hb3, hva3, hvc, hi, hmz⟩; subst mz
      have hkH : ∀ b, b < H.next → H3.get b = H.get b := fun b hb => by rw [hk3 b (by omega) (by omega), hgJ.get b hb]
      have hbx := hk3 H.next (by omega) (by omega)
      rw [j1] at hbx
      simp(maxSteps:=9999999)(disch:=first|omega|(simp only[AN];omega))only[g6,hbx,hh.g.len,↓KP,EN,↓reduceIte,reduceCtorEq,Nat.reduceEqDiff,Nat.reduceAdd,Nat.reduceLeDiff,Nat.reduceMul]
      refine C_decide (fun hc2 => ?_) (fun hc2 => ?_)
      · have hi' : i < s.groups.length := by omega
        have e2 : IntKind.i64.wrap ((i : Int) + 1) = ((i + 1 : Nat) : Int) := i64_in _ (by omega)
        obtain ⟨b, hb0, hb1⟩ : ∃ b : Nat, s.groups[i] = b ∧ b < 256 := by
          have h := hf.g _ (List.getElem_mem hi')
          have hp : 2 ^ s.len ≤ 256 := Nat.le_trans (Nat.pow_le_pow_right (by omega) hl8.2) (Nat.le_refl _)
          exact ⟨s.groups[i].toNat, by omega, by omega⟩
        have htk : (s.groups.take (i + 1)).map (revB s.len) = (s.groups.take i).map (revB s.len) ++ [((revTo b s.len : Nat) : Int)] := by
          rw [List.take_succ_eq_append_getElem hi', List.map_append, hb0]; rfl
        obtain ⟨q_b, q_i, q_ro, q_vs, q_lt, q⟩ := hh.g.rdInt (n := (i : Int)) rfl hi'
        rw [hb0] at q
        simp(maxSteps:=9999999)(disch:=first|omega|(simp only[AN];omega))only[↓KP,EN,↓reduceIte,reduceCtorEq,Nat.reduceEqDiff,Nat.reduceAdd,Nat.reduceLeDiff,Nat.reduceMul]
        refine K_loop (fun mz ez H4 => ∃ (d : Nat) (tail : Env), ez = (0, serArg vl vg vf s) :: (1, .ptr H.next 0) :: (2, .bool false) :: tail ∧ (tail.get 3 = some (.ptr H1.next 0)) ∧ (tail.get 4 = some (I ((s.len : Int) - 1))) ∧ (tail.get 6 = some (I i)) ∧ (tail.get 7 = some (I (revTo b d : Nat))) ∧ (tail.get 8 = some (I d)) ∧ (H4 = H3) ∧ (d ≤ s.len) ∧ mz = s.len - d) _ ⟨0, _, rfl, (by simp(maxSteps:=9999999)(disch:=first|omega|(simp only[AN];omega))only[g3,↓KP,EN,↓reduceIte,reduceCtorEq,Nat.reduceEqDiff,Nat.reduceAdd,Nat.reduceLeDiff,Nat.reduceMul]), (by simp(maxSteps:=9999999)(disch:=first|omega|(simp only[AN];omega))only[g4,↓KP,EN,↓reduceIte,reduceCtorEq,Nat.reduceEqDiff,Nat.reduceAdd,Nat.reduceLeDiff,Nat.reduceMul]), (by simp(maxSteps:=9999999)(disch:=first|omega|(simp only[AN];omega))only[g6,↓KP,EN,↓reduceIte,reduceCtorEq,Nat.reduceEqDiff,Nat.reduceAdd,Nat.reduceLeDiff,Nat.reduceMul]), ?_, ?_, ?_, ?_, rfl⟩ ?_
        iterate 4 (focus (first|(with_reducible rfl)|omega|(with_reducible(repeat first|exact Grew.refl _|assumption|apply Grew.alloc|refine Grew.set ?_ _ (by first|omega|(simp only[AN];omega)));done)|(simp(maxSteps:=9999999)(disch:=first|omega|(simp only[AN];omega))only[↓KP,EN,↓reduceIte,reduceCtorEq,Nat.reduceEqDiff,Nat.reduceAdd,Nat.reduceLeDiff,Nat.reduceMul]<;>first|omega|rfl)|(simp;done)|rfl))
        rintro mz ez H4 ⟨d, tail, rfl, q3, q4, q6, q7, q8, hH, hd, hmz⟩; subst mz
        subst H4
        simp(maxSteps:=9999999)(disch:=first|omega|(simp only[AN];omega))only[q4,q8,↓KP,EN,↓reduceIte,reduceCtorEq,Nat.reduceEqDiff,Nat.reduceAdd,Nat.reduceLeDiff,Nat.reduceMul]
        refine C_decide (fun hc3 => ?_) (fun hc3 => ?_)
        · have hd' : d < s.len := by omega
          have hr := revTo_lt (b := b) d
          have hp : 2 ^ d ≤ 256 := Nat.le_trans (Nat.pow_le_pow_right (by omega) (show d ≤ 8 by omega)) (Nat.le_refl _)
          have hsu := revTo_succ (b := b) (m := d)
          have e3 : IntKind.i64.wrap ((d : Int) + 1) = ((d + 1 : Nat) : Int) := i64_in _ (by omega)
          have e4 : IntKind.i64.wrap (2 * (revTo b d : Int)) = ((2 * revTo b d : Nat) : Int) := by rw [i64_in _ (by omega)]; omega
          have e5 : IntKind.i64.wrap (((2 * revTo b d : Nat) : Int) + 1) = ((2 * revTo b d + 1 : Nat) : Int) := i64_in _ (by omega)
          simp(maxSteps:=9999999)(disch:=first|omega|(simp only[AN];omega))only[q6,q7,q8,hbx,hkH,q,e4,↓KP,EN,↓reduceIte,reduceCtorEq,Nat.reduceEqDiff,Nat.reduceAdd,Nat.reduceLeDiff,Nat.reduceMul]
          first|refine C_call ?_|refine C_calld ?_
          refine Bit_run b d (by omega) (by omega) ?_
          cases hbt : b.testBit d with
          | true =>
            rw [hbt, if_pos rfl] at hsu
            simp(maxSteps:=9999999)(disch:=first|omega|(simp only[AN];omega))only[q6,q7,q8,e3,e4,e5,↓KP,EN,↓reduceIte,reduceCtorEq,Nat.reduceEqDiff,Nat.reduceAdd,Nat.reduceLeDiff,Nat.reduceMul]
            refine ⟨_, ?_, d + 1, _, rfl, ?_, ?_, ?_, (by rw [hsu]; simp(maxSteps:=9999999)(disch:=first|omega|(simp only[AN];omega))only[e5,↓KP,EN,↓reduceIte,reduceCtorEq,Nat.reduceEqDiff,Nat.reduceAdd,Nat.reduceLeDiff,Nat.reduceMul]), ?_, ?_, ?_, rfl⟩ <;> (first|omega|(with_reducible assumption)|(with_reducible(repeat first|exact Grew.refl _|assumption|apply Grew.alloc|refine Grew.set ?_ _ (by first|omega|(simp only[AN];omega)));done)|(simp(maxSteps:=9999999)(disch:=first|omega|(simp only[AN];omega))only[q3,q4,q6,q7,q8,e4,e5,↓KP,EN,↓reduceIte,reduceCtorEq,Nat.reduceEqDiff,Nat.reduceAdd,Nat.reduceLeDiff,Nat.reduceMul]<;>first|omega|rfl))
          | false =>
            rw [hbt, if_neg (by simp)] at hsu
            simp(maxSteps:=9999999)(disch:=first|omega|(simp only[AN];omega))only[q6,q7,q8,e3,e4,↓KP,EN,↓reduceIte,reduceCtorEq,Nat.reduceEqDiff,Nat.reduceAdd,Nat.reduceLeDiff,Nat.reduceMul]
            refine ⟨_, ?_, d + 1, _, rfl, ?_, ?_, ?_, (by rw [hsu]; simp(maxSteps:=9999999)(disch:=first|omega|(simp only[AN];omega))only[e4,↓KP,EN,↓reduceIte,reduceCtorEq,Nat.reduceEqDiff,Nat.reduceAdd,Nat.reduceLeDiff,Nat.reduceMul]), ?_, ?_, ?_, rfl⟩ <;> (first|omega|(with_reducible assumption)|(with_reducible(repeat first|exact Grew.refl _|assumption|apply Grew.alloc|refine Grew.set ?_ _ (by first|omega|(simp only[AN];omega)));done)|(simp(maxSteps:=9999999)(disch:=first|omega|(simp only[AN];omega))only[q3,q4,q6,q7,q8,e4,↓KP,EN,↓reduceIte,reduceCtorEq,Nat.reduceEqDiff,Nat.reduceAdd,Nat.reduceLeDiff,Nat.reduceMul]<;>first|omega|rfl))
        · have hde : d = s.len := by omega
          subst hde
          obtain ⟨v1, S1, d1, d2, d3, d4⟩ := copy_mine (H := H3) (P := fun _ => False) (N := H3.next) (bytes := 8) (F := fun b => J.next ≤ b ∧ b < H3.next) EInt.stays hvc hFn (fun cs a h => h) (Nat.le_refl _) EInt.isCell (by simp only [List.length_map, List.length_take]; omega)
          obtain ⟨v2, S2, b1, b2, b3, b4⟩ := d2.push (bytes := 8) (cs := [I (revTo b s.len : Nat)]) (a := ((revTo b s.len : Nat) : Int)) (F := fun _ => False) EInt.stays (by omega) rfl (fun _ h => h.elim) rfl rfl (by simp only [List.length_map, List.length_take]; omega)
          have k2 : ∀ c, c < H3.next → S2.get c = H3.get c := fun c hc => by rw [b4 c hc, d4 c hc]
          have b2s := b2.slF EInt.stays
          simp(maxSteps:=9999999)(disch:=first|omega|(simp only[AN];omega))only[q3,q4,q6,q7,hb3,d1,d4,b1,k2,b2.cells?,b2.isCell,e2,↓KP,EN,↓reduceIte,reduceCtorEq,Nat.reduceEqDiff,Nat.reduceAdd,Nat.reduceLeDiff,Nat.reduceMul]
          refine ⟨_, ?_, i + 1, v2, _, rfl, ?_, ?_, ?_, ?_, (by intro c hc1 hc2; simp(maxSteps:=9999999)(disch:=first|omega|(simp only[AN];omega))only[k2,hk3 c hc1 hc2,↓KP,EN,↓reduceIte,reduceCtorEq,Nat.reduceEqDiff,Nat.reduceAdd,Nat.reduceLeDiff,Nat.reduceMul]), ?_, (by exact hva3.move EB.stays fun c hc => ⟨⟨hc.1, by show c < S2.next; omega⟩, by rw [get_set_other (by omega), k2 c hc.2]⟩), (by rw [htk]; exact b2s.move EInt.stays fun c hc => ⟨⟨by have := hc.2.resolve_left id; omega, hc.1⟩, get_set_other (by have := hc.2.resolve_left id; omega)⟩), ?_, rfl⟩ <;> (first|omega|(with_reducible assumption)|(with_reducible(repeat first|exact Grew.refl _|assumption|apply Grew.alloc|refine Grew.set ?_ _ (by first|omega|(simp only[AN];omega)));done)|(simp(maxSteps:=9999999)(disch:=first|omega|(simp only[AN];omega))only[q3,q4,q6,↓KP,EN,↓reduceIte,reduceCtorEq,Nat.reduceEqDiff,Nat.reduceAdd,Nat.reduceLeDiff,Nat.reduceMul]<;>first|omega|rfl))
      · have hie : i = s.groups.length := by omega
        rw [hie, List.take_length] at hvc
        simp(maxSteps:=9999999)(disch:=first|omega|(simp only[AN];omega))only[↓KP,EN,↓reduceIte,reduceCtorEq,Nat.reduceEqDiff,Nat.reduceAdd,Nat.reduceLeDiff,Nat.reduceMul]
        refine K_loop (fun mz ez H4 => ∃ (n : Nat) (vd : AV) (tail : Env), ez = (0, serArg vl vg vf s) :: (1, .ptr H.next 0) :: (2, .bool false) :: tail ∧ (tail.get 3 = some (.ptr H1.next 0)) ∧ (tail.get 4 = some (I ((s.len : Int) - 1))) ∧ (tail.get 9 = some (I n)) ∧ (J.next ≤ H4.next) ∧ (∀ b, b < J.next → b ≠ H1.next → H4.get b = J.get b) ∧ (H4.get H1.next = some (.cells false [va, I s.lo, I s.hi, vc, .bool s.unseen, vd])) ∧ (IsSl 1 EB (fun b => J.next ≤ b ∧ b < H4.next) H4 va s.looked.reverse) ∧ (IsSl 1 EInt (fun b => J.next ≤ b ∧ b < H4.next) H4 vc (s.groups.map (revB s.len))) ∧ (IsSl 2 EP (fun b => J.next ≤ b ∧ b < H4.next) H4 vd ((s.filled.take n).map (revF s.len))) ∧ (n ≤ s.filled.length) ∧ mz = s.filled.length - n) _ ⟨0, .nilslice, _, rfl, (by simp(maxSteps:=9999999)(disch:=first|omega|(simp only[AN];omega))only[g3,↓KP,EN,↓reduceIte,reduceCtorEq,Nat.reduceEqDiff,Nat.reduceAdd,Nat.reduceLeDiff,Nat.reduceMul]), (by simp(maxSteps:=9999999)(disch:=first|omega|(simp only[AN];omega))only[g4,↓KP,EN,↓reduceIte,reduceCtorEq,Nat.reduceEqDiff,Nat.reduceAdd,Nat.reduceLeDiff,Nat.reduceMul]), ?_, ?_, (by exact hk3), (by exact hb3), (by exact hva3), (by exact hvc), (by exact .inl ⟨rfl, rfl⟩), ?_, rfl⟩ ?_
        iterate 3 (focus (first|(with_reducible rfl)|omega|(with_reducible(repeat first|exact Grew.refl _|assumption|apply Grew.alloc|refine Grew.set ?_ _ (by first|omega|(simp only[AN];omega)));done)|(simp(maxSteps:=9999999)(disch:=first|omega|(simp only[AN];omega))only[↓KP,EN,↓reduceIte,reduceCtorEq,Nat.reduceEqDiff,Nat.reduceAdd,Nat.reduceLeDiff,Nat.reduceMul]<;>first|omega|rfl)|(simp;done)|rfl))
        rintro mz ez H4 ⟨n, vd, tail, rfl, q3, q4, q9, hn4, hk4, hb4, hva4, hvc4, hvd, hnn, hmz⟩; subst mz
        have hkH4 : ∀ b, b < H.next → H4.get b = H.get b := fun b hb => by rw [hk4 b (by omega) (by omega), hgJ.get b hb]
        have hbx4 := hk4 H.next (by omega) (by omega)
        rw [j1] at hbx4
        simp(maxSteps:=9999999)(disch:=first|omega|(simp only[AN];omega))only[q9,hbx4,hh.f.len,↓KP,EN,↓reduceIte,reduceCtorEq,Nat.reduceEqDiff,Nat.reduceAdd,Nat.reduceLeDiff,Nat.reduceMul]
        refine C_decide (fun hc3 => ?_) (fun hc3 => ?_)
        · have hn' : n < s.filled.length := by omega
          have e2 : IntKind.i64.wrap ((n : Int) + 1) = ((n + 1 : Nat) : Int) := i64_in _ (by omega)
          have htk : (s.filled.take (n + 1)).map (revF s.len) = (s.filled.take n).map (revF s.len) ++ [revF s.len s.filled[n]] := by
            rw [List.take_succ_eq_append_getElem hn', List.map_append]; rfl
          obtain ⟨⟨f1, f2⟩, _⟩ := hf.f _ (List.getElem_mem hn')
          obtain ⟨pb, pi, pro, pvs, plt, p⟩ := rdP hh.f (n := (n : Int)) (k := n) rfl hn'
          generalize s.filled[n] = f at *
          have e3 : IntKind.i64.wrap ((s.len : Int) - 1 - f.1) = (s.len : Int) - 1 - f.1 := i64_in _ (by omega)
          simp(maxSteps:=9999999)(disch:=first|omega|(simp only[AN];omega))only[q4,q9,hbx4,hkH4,p,e3,↓KP,EN,↓reduceIte,reduceCtorEq,Nat.reduceEqDiff,Nat.reduceAdd,Nat.reduceLeDiff,Nat.reduceMul]
          generalize hKK : AH.set _ _ _ = KK
          have kk1 : KK.get H4.next = some (.cells false [I ((s.len : Int) - 1 - f.1), I f.2]) := by rw [← hKK]; simp(maxSteps:=9999999)(disch:=first|omega|(simp only[AN];omega))only[↓KP,EN,↓reduceIte,reduceCtorEq,Nat.reduceEqDiff,Nat.reduceAdd,Nat.reduceLeDiff,Nat.reduceMul]
          have kk2 : ∀ b, b < H4.next → KK.get b = H4.get b := fun b hb => by rw [← hKK]; simp(maxSteps:=9999999)(disch:=first|omega|(simp only[AN];omega))only[↓KP,EN,↓reduceIte,reduceCtorEq,Nat.reduceEqDiff,Nat.reduceAdd,Nat.reduceLeDiff,Nat.reduceMul]
          have kk3 : KK.next = H4.next + 1 := by rw [← hKK]; rfl
          clear hKK
          have hvdK : IsSl 2 EP (fun b => J.next ≤ b ∧ b < KK.next) KK vd ((s.filled.take n).map (revF s.len)) := hvd.move EP.stays fun b hb => ⟨⟨hb.1, by omega⟩, kk2 b hb.2⟩
          obtain ⟨v1, S1, v2, S2, s1, s2, s3, s4, s5, s6, s7, s8⟩ := pushG (bytes := 16) (cs := [I ((s.len : Int) - 1 - f.1), I f.2]) (x := revF s.len f) EP.stays EP.far EP.isCell hFn hvdK rfl rfl (by simp only [List.length_map, List.length_take]; omega) (by omega)
          have k2 : ∀ c, c < H4.next → S2.get c = H4.get c := fun c hc => by rw [s5 c (by omega), kk2 c hc]
          have kb : KK.get H1.next = some (.cells false [va, I s.lo, I s.hi, vc, .bool s.unseen, vd]) := by rw [kk2 _ (by omega), hb4]
          refine K_draw ?_
          simp(maxSteps:=9999999)(disch:=first|omega|(simp only[AN];omega))only[q3,q4,q9,kb,kk1,s1,s2,s5,s8,s6,s7,e2,↓KP,EN,↓reduceIte,reduceCtorEq,Nat.reduceEqDiff,Nat.reduceAdd,Nat.reduceLeDiff,Nat.reduceMul]
          refine ⟨_, ?_, n + 1, v2, _, rfl, ?_, ?_, ?_, ?_, (by intro c hc1 hc2; simp(maxSteps:=9999999)(disch:=first|omega|(simp only[AN];omega))only[k2,hk4 c hc1 hc2,↓KP,EN,↓reduceIte,reduceCtorEq,Nat.reduceEqDiff,Nat.reduceAdd,Nat.reduceLeDiff,Nat.reduceMul]), ?_, (by exact hva4.move EB.stays fun c hc => ⟨⟨hc.1, by show c < S2.next; omega⟩, by rw [get_set_other (by omega), k2 c hc.2]⟩), (by exact hvc4.move EInt.stays fun c hc => ⟨⟨hc.1, by show c < S2.next; omega⟩, by rw [get_set_other (by omega), k2 c hc.2]⟩), (by rw [htk]; exact s3.move EP.stays fun c hc => ⟨⟨by omega, hc.1⟩, get_set_other (by omega)⟩), ?_, rfl⟩ <;> (first|omega|(with_reducible assumption)|(with_reducible(repeat first|exact Grew.refl _|assumption|apply Grew.alloc|refine Grew.set ?_ _ (by first|omega|(simp only[AN];omega)));done)|(simp(maxSteps:=9999999)(disch:=first|omega|(simp only[AN];omega))only[q3,q4,q9,↓KP,EN,↓reduceIte,reduceCtorEq,Nat.reduceEqDiff,Nat.reduceAdd,Nat.reduceLeDiff,Nat.reduceMul]<;>first|omega|rfl))
        · have hne : n = s.filled.length := by omega
          rw [hne, List.take_length] at hvd
          have hgF : Grew H H4 := ⟨by omega, hkH4⟩
          have hM : IsSer (Old H4) H4 va vc vd (backS s) := ⟨hva4.move EB.stays fun b hb => ⟨hb.2, rfl⟩, hvc4.move EInt.stays fun b hb => ⟨hb.2, rfl⟩, hvd.move EP.stays fun b hb => ⟨hb.2, rfl⟩⟩
          have hsM : Sized (backS s) := ⟨by rw [List.length_reverse]; exact hs.l, by rw [List.length_map]; exact hs.g, by rw [List.length_map]; exact hs.f, hs.lo, hs.hi⟩
          have lt1 : H.next < H4.next := by omega
          have lt2 : H1.next < H4.next := by omega
          have lw := wrong_len s
          clear hva hvc hva3 hva4 hvc4 hvd hk hk3 hk4 hb hb3 hkH hkH4 hbx hFn
          simp(maxSteps:=9999999)(disch:=first|omega|(simp only[AN];omega))only[hbx4,↓KP,EN,↓reduceIte,reduceCtorEq,Nat.reduceEqDiff,Nat.reduceAdd,Nat.reduceLeDiff,Nat.reduceMul]
          first|refine C_call ?_|refine C_calld ?_
          refine Wrong_run vl vg vf s (hh.grow GW) hs fun D1 w1 hd1 hw1 => ?_
          have hd1n := hd1.next; try simp only [AN] at hd1n
          simp(maxSteps:=9999999)(disch:=first|omega|(simp only[AN];omega))only[q3,hd1.get,hb4,↓KP,EN,↓reduceIte,reduceCtorEq,Nat.reduceEqDiff,Nat.reduceAdd,Nat.reduceLeDiff,Nat.reduceMul]
          first|refine C_call ?_|refine C_calld ?_
          refine Wrong_run va vc vd (backS s) (hM.grow GW) hsM fun D2 w2 hd2 hw2 => ?_
          have hd2n := hd2.next; try simp only [AN] at hd2n
          rw [wrong_back hB] at hw2 ⊢
          simp(maxSteps:=9999999)(disch:=first|omega|(simp only[AN];omega))only[hd2.get,hd1.get,hbx4,↓KP,EN,↓reduceIte,reduceCtorEq,Nat.reduceEqDiff,Nat.reduceAdd,Nat.reduceLeDiff,Nat.reduceMul]
          first|refine C_call ?_|refine C_calld ?_
          refine Open_run vl vg vf s (hh.grow GW) hs fun D3 hd3 => ?_
          have hd3n:=hd3.next;try simp only[AN]at hd3n
          simp(maxSteps:=9999999)(disch:=first|omega|(simp only[AN];omega))only[q3,hd3.get,hd2.get,hd1.get,hb4,↓KP,EN,↓reduceIte,reduceCtorEq,Nat.reduceEqDiff,Nat.reduceAdd,Nat.reduceLeDiff,Nat.reduceMul]
          first|refine C_call ?_|refine C_calld ?_
          refine Open_run va vc vd (backS s) (hM.grow GW) hsM fun D4 hd4 => ?_
          have hd4n:=hd4.next;try simp only[AN]at hd4n
          rw [open_back hB]
          simp(maxSteps:=9999999)(disch:=first|omega|(simp only[AN];omega))only[hd4.get,hd3.get,hd2.get,hd1.get,hbx4,↓KP,EN,↓reduceIte,reduceCtorEq,Nat.reduceEqDiff,Nat.reduceAdd,Nat.reduceLeDiff,Nat.reduceMul]
          first|refine C_call ?_|refine C_calld ?_
          refine Unseen_run vl vg vf s (hh.grow GW) hs fun D5 hd5 => ?_
          have hd5n:=hd5.next;try simp only[AN]at hd5n
          simp(maxSteps:=9999999)(disch:=first|omega|(simp only[AN];omega))only[q3,hd5.get,hd4.get,hd3.get,hd2.get,hd1.get,hb4,↓KP,EN,↓reduceIte,reduceCtorEq,Nat.reduceEqDiff,Nat.reduceAdd,Nat.reduceLeDiff,Nat.reduceMul]
          first|refine C_call ?_|refine C_calld ?_
          refine Unseen_run va vc vd (backS s) (hM.grow GW) hsM fun D6 hd6 => ?_
          have hd6n:=hd6.next;try simp only[AN]at hd6n
          rw [unseen_back hB]
          have hw1' := hw1.grow EInt.stays ((((hd2.trans hd3).trans hd4).trans hd5).trans hd6)
          have hw2' := hw2.grow EInt.stays (((hd3.trans hd4).trans hd5).trans hd6)
          simp(maxSteps:=9999999)(disch:=first|omega|(simp only[AN];omega))only[↓KP,EN,↓reduceIte,reduceCtorEq,Nat.reduceEqDiff,Nat.reduceAdd,Nat.reduceLeDiff,Nat.reduceMul]
          first|refine C_call ?_|refine C_calld ?_
          refine Ints_run w1 w2 (wrongE s).1 (wrongE s).1 hw1' hw2' (by omega) ?_
          rw [decide_eq_true rfl]
          have x1 : D6.get H.next = some (.cells false [vl, I s.lo, I s.hi, vg, .bool s.unseen, vf]) := by simp(maxSteps:=9999999)(disch:=first|omega|(simp only[AN];omega))only[hd6.get,hd5.get,hd4.get,hd3.get,hd2.get,hd1.get,hbx4,↓KP,EN,↓reduceIte,reduceCtorEq,Nat.reduceEqDiff,Nat.reduceAdd,Nat.reduceLeDiff,Nat.reduceMul]
          have x2 : D6.get H1.next = some (.cells false [va, I s.lo, I s.hi, vc, .bool s.unseen, vd]) := by simp(maxSteps:=9999999)(disch:=first|omega|(simp only[AN];omega))only[hd6.get,hd5.get,hd4.get,hd3.get,hd2.get,hd1.get,hb4,↓KP,EN,↓reduceIte,reduceCtorEq,Nat.reduceEqDiff,Nat.reduceAdd,Nat.reduceLeDiff,Nat.reduceMul]
          have hgD : Grew H4 D6 := GW
          have hgHD : Grew H D6 := hgF.trans hgD
          replace hM := hM.grow hgD
          have lt3 : H.next < D6.next := by have := hgD.next; omega
          have lt4 : H1.next < D6.next := by have := hgD.next; omega
          clear hd1 hd2 hd3 hd4 hd5 hd6 hw1 hw2 hw1' hw2' hbx4 hb4 hgD
          simp(maxSteps:=9999999)(disch:=first|omega|(simp only[AN];omega))only[↓KP,EN,↓reduceIte,reduceCtorEq,Nat.reduceEqDiff,Nat.reduceAdd,Nat.reduceLeDiff,Nat.reduceMul]
          refine K_loop (fun mz ez K1 => ∃ (d : Nat) (tail : Env), ez = (0, serArg vl vg vf s) :: (1, .ptr H.next 0) :: (2, .bool false) :: tail ∧ (tail.get 3 = some (.ptr H1.next 0)) ∧ (tail.get 4 = some (I ((s.len : Int) - 1))) ∧ (tail.get 25 = some (I d)) ∧ (Grew D6 K1) ∧ (d ≤ s.len) ∧ mz = s.len - d) _ ⟨0, _, rfl, (by simp(maxSteps:=9999999)(disch:=first|omega|(simp only[AN];omega))only[q3,↓KP,EN,↓reduceIte,reduceCtorEq,Nat.reduceEqDiff,Nat.reduceAdd,Nat.reduceLeDiff,Nat.reduceMul]), (by simp(maxSteps:=9999999)(disch:=first|omega|(simp only[AN];omega))only[q4,↓KP,EN,↓reduceIte,reduceCtorEq,Nat.reduceEqDiff,Nat.reduceAdd,Nat.reduceLeDiff,Nat.reduceMul]), ?_, ?_, ?_, rfl⟩ ?_
          iterate 3 (focus (first|(with_reducible rfl)|omega|(with_reducible(repeat first|exact Grew.refl _|assumption|apply Grew.alloc|refine Grew.set ?_ _ (by first|omega|(simp only[AN];omega)));done)|(simp(maxSteps:=9999999)(disch:=first|omega|(simp only[AN];omega))only[↓KP,EN,↓reduceIte,reduceCtorEq,Nat.reduceEqDiff,Nat.reduceAdd,Nat.reduceLeDiff,Nat.reduceMul]<;>first|omega|rfl)|(simp;done)|rfl))
          rintro mz ez K1 ⟨d, tail, rfl, z3, z4, z25, hG, hd, hmz⟩; subst mz; have hGn := hG.next
          simp(maxSteps:=9999999)(disch:=first|omega|(simp only[AN];omega))only[z4,z25,↓KP,EN,↓reduceIte,reduceCtorEq,Nat.reduceEqDiff,Nat.reduceAdd,Nat.reduceLeDiff,Nat.reduceMul]
          refine C_decide (fun hc4 => ?_) (fun hc4 => ?_)
          · have hd' : d < s.len := by omega
            have e2 : IntKind.i64.wrap ((d : Int) + 1) = ((d + 1 : Nat) : Int) := i64_in _ (by omega)
            have e3 : IntKind.i64.wrap ((s.len : Int) - 1 - d) = (s.len : Int) - 1 - d := i64_in _ (by omega)
            simp(maxSteps:=9999999)(disch:=first|omega|(simp only[AN];omega))only[z25,hG.get,x1,↓KP,EN,↓reduceIte,reduceCtorEq,Nat.reduceEqDiff,Nat.reduceAdd,Nat.reduceLeDiff,Nat.reduceMul]
            first|refine C_call ?_|refine C_calld ?_
            refine Number_run vl vg vf s d (hh.grow GW) hs fun K2 hk2 => ?_
            have hk2n:=hk2.next;try simp only[AN]at hk2n
            simp(maxSteps:=9999999)(disch:=first|omega|(simp only[AN];omega))only[z3,z4,z25,hk2.get,hG.get,x2,e3,↓KP,EN,↓reduceIte,reduceCtorEq,Nat.reduceEqDiff,Nat.reduceAdd,Nat.reduceLeDiff,Nat.reduceMul]
            first|refine C_call ?_|refine C_calld ?_
            refine Number_run va vc vd (backS s) ((s.len : Int) - 1 - d) (hM.grow GW) hsM fun K3 hk3 => ?_
            have hk3n:=hk3.next;try simp only[AN]at hk3n
            rw [number_back hB hd']
            simp(maxSteps:=9999999)(disch:=first|omega|(simp only[AN];omega))only[eqs2,z25,hk3.get,hk2.get,hG.get,e2,↓KP,EN,↓reduceIte,reduceCtorEq,Nat.reduceEqDiff,Nat.reduceAdd,Nat.reduceLeDiff,Nat.reduceMul]
            refine ⟨_, ?_, d + 1, _, rfl, ?_, ?_, ?_, ?_, ?_, rfl⟩ <;> (first|omega|(with_reducible assumption)|(with_reducible(repeat first|exact Grew.refl _|assumption|apply Grew.alloc|refine Grew.set ?_ _ (by first|omega|(simp only[AN];omega))|refine Grew.trans ?_ hk3|refine Grew.trans ?_ hk2|refine Grew.trans ?_ hG);done)|(simp(maxSteps:=9999999)(disch:=first|omega|(simp only[AN];omega))only[z3,z4,z25,hk3.get,hk2.get,hG.get,↓KP,EN,↓reduceIte,reduceCtorEq,Nat.reduceEqDiff,Nat.reduceAdd,Nat.reduceLeDiff,Nat.reduceMul]<;>first|omega|rfl))
          · simp(maxSteps:=9999999)(disch:=first|omega|(simp only[AN];omega))only[↓KP,EN,↓reduceIte,reduceCtorEq,Nat.reduceEqDiff,Nat.reduceAdd,Nat.reduceLeDiff,Nat.reduceMul]
            refine K_loop (fun mz ez K1' => ∃ (n2 : Nat) (tail : Env), ez = (0, serArg vl vg vf s) :: (1, .ptr H.next 0) :: (2, .bool false) :: tail ∧ (tail.get 3 = some (.ptr H1.next 0)) ∧ (tail.get 30 = some (I n2)) ∧ (Grew D6 K1') ∧ (n2 ≤ s.groups.length) ∧ mz = s.groups.length - n2) _ ⟨0, _, rfl, (by simp(maxSteps:=9999999)(disch:=first|omega|(simp only[AN];omega))only[z3,↓KP,EN,↓reduceIte,reduceCtorEq,Nat.reduceEqDiff,Nat.reduceAdd,Nat.reduceLeDiff,Nat.reduceMul]), ?_, ?_, ?_, rfl⟩ ?_
            iterate 3 (focus (first|(with_reducible rfl)|omega|(with_reducible(repeat first|exact Grew.refl _|assumption|apply Grew.alloc|refine Grew.set ?_ _ (by first|omega|(simp only[AN];omega)));done)|(simp(maxSteps:=9999999)(disch:=first|omega|(simp only[AN];omega))only[↓KP,EN,↓reduceIte,reduceCtorEq,Nat.reduceEqDiff,Nat.reduceAdd,Nat.reduceLeDiff,Nat.reduceMul]<;>first|omega|rfl)|(simp;done)|rfl))
            rintro mz ez K1' ⟨n2, tail, rfl, z3', z30, hG2, hn2, hmz⟩; subst mz; have hG2n := hG2.next
            simp(maxSteps:=9999999)(disch:=first|omega|(simp only[AN];omega))only[z30,hG2.get,x1,hh.g.len,↓KP,EN,↓reduceIte,reduceCtorEq,Nat.reduceEqDiff,Nat.reduceAdd,Nat.reduceLeDiff,Nat.reduceMul]
            refine C_decide (fun hc5 => ?_) (fun hc5 => ?_)
            · have hn' : n2 < s.groups.length := by omega
              have e2 : IntKind.i64.wrap ((n2 : Int) + 1) = ((n2 + 1 : Nat) : Int) := i64_in _ (by omega)
              simp(maxSteps:=9999999)(disch:=first|omega|(simp only[AN];omega))only[z30,hG2.get,x1,↓KP,EN,↓reduceIte,reduceCtorEq,Nat.reduceEqDiff,Nat.reduceAdd,Nat.reduceLeDiff,Nat.reduceMul]
              first|refine C_call ?_|refine C_calld ?_
              refine Lasted_run vl vg vf s n2 (hh.grow GW) hs fun K2 hk2 => ?_
              have hk2n:=hk2.next;try simp only[AN]at hk2n
              simp(maxSteps:=9999999)(disch:=first|omega|(simp only[AN];omega))only[z3',z30,hk2.get,hG2.get,x2,↓KP,EN,↓reduceIte,reduceCtorEq,Nat.reduceEqDiff,Nat.reduceAdd,Nat.reduceLeDiff,Nat.reduceMul]
              first|refine C_call ?_|refine C_calld ?_
              refine Lasted_run va vc vd (backS s) n2 (hM.grow GW) hsM fun K3 hk3 => ?_
              have hk3n:=hk3.next;try simp only[AN]at hk3n
              rw [lasted_back hB hn']
              simp(maxSteps:=9999999)(disch:=first|omega|(simp only[AN];omega))only[eqs2,z30,hk3.get,hk2.get,hG2.get,e2,↓KP,EN,↓reduceIte,reduceCtorEq,Nat.reduceEqDiff,Nat.reduceAdd,Nat.reduceLeDiff,Nat.reduceMul]
              refine ⟨_, ?_, n2 + 1, _, rfl, ?_, ?_, ?_, ?_, rfl⟩ <;> (first|omega|(with_reducible assumption)|(with_reducible(repeat first|exact Grew.refl _|assumption|apply Grew.alloc|refine Grew.set ?_ _ (by first|omega|(simp only[AN];omega))|refine Grew.trans ?_ hk3|refine Grew.trans ?_ hk2|refine Grew.trans ?_ hG2);done)|(simp(maxSteps:=9999999)(disch:=first|omega|(simp only[AN];omega))only[z3',z30,hk3.get,hk2.get,hG2.get,↓KP,EN,↓reduceIte,reduceCtorEq,Nat.reduceEqDiff,Nat.reduceAdd,Nat.reduceLeDiff,Nat.reduceMul]<;>first|omega|rfl))
            · simp(maxSteps:=9999999)(disch:=first|omega|(simp only[AN];omega))only[↓KP,EN,↓reduceIte,reduceCtorEq,Nat.reduceEqDiff,Nat.reduceAdd,Nat.reduceLeDiff,Nat.reduceMul]
              first|refine C_call ?_|refine C_calld ?_
              refine Awake_run fun K4 hk4 => ?_
              have hk4n:=hk4.next;try simp only[AN]at hk4n
              simp(maxSteps:=9999999)(disch:=first|omega|(simp only[AN];omega))only[↓KP,EN,↓reduceIte,reduceCtorEq,Nat.reduceEqDiff,Nat.reduceAdd,Nat.reduceLeDiff,Nat.reduceMul]
              exact k _ GW
  · simp(maxSteps:=9999999)(disch:=first|omega|(simp only[AN];omega))only[he,↓KP,EN,↓reduceIte,reduceCtorEq,Nat.reduceEqDiff,Nat.reduceAdd,Nat.reduceLeDiff,Nat.reduceMul]
    first|refine C_call ?_|refine C_calld ?_
    refine Awake_run fun H3 hg3 => ?_
    have hg3n:=hg3.next;try simp only[AN]at hg3n
    simp(maxSteps:=9999999)(disch:=first|omega|(simp only[AN];omega))only[↓KP,EN,↓reduceIte,reduceCtorEq,Nat.reduceEqDiff,Nat.reduceAdd,Nat.reduceLeDiff,Nat.reduceMul]
    exact k _ GW
end Go.Proofs.Ytihahmggfjjkjaa
namespace Go.AM
theorem aop_alloc {call : ACall} {e : Env} {H H' : AH} {o : AOp} {v : AV} (hc : o.cls = .alloc) (h : aop call e H o = some (v, H')) : ∃ obj, H' = H.alloc obj := by
  cases o <;> simp only [AOp.cls, reduceCtorEq] at hc
  all_goals simp only [aop] at h
  all_goals
    try simp only [with1, withP, opAlloc, opBox, opMkslice, opMakeSlice] at h
    repeat' split at h
    all_goals first
      | (simp at h; done)
      | (simp only [Option.some.injEq, Prod.mk.injEq] at h; exact ⟨_, h.2.symm⟩)
theorem hasNat_mem : ∀ {l : List Nat} {t : Nat}, hasNat l t = true ↔ t ∈ l
  | [], t => by simp [hasNat]
  | k :: l, t => by
    simp only [hasNat, List.mem_cons]
    by_cases h : k = t
    · simp [h]
    · have h' : ¬ t = k := fun e => h e.symm
      simp [h, h', hasNat_mem]
def Chain (call : ACall) : List Step → Env → AH → Env → AH → Prop
  | [], e, H, e', H' => e = e' ∧ H = H'
  | s :: l, e, H, e', H' => s.env = e ∧ s.before = H ∧ s.o.wanted e = some s.want ∧ (s.want = true → aop call e H s.o.op = some (s.v, s.after)) ∧ (s.want = false → s.v = .tuple [] ∧ s.after = H) ∧ Chain call l (putDst e s.o.dst s.v) s.after e' H'
theorem aopsT_chain {call : ACall} : ∀ {os : List AOper} {e : Env} {H : AH} {L : List Step} {e' : Env} {H' : AH}, aopsT call os e H = some (L, e', H') → Chain call L e H e' H' ∧ L.map (·.o) = os
  | [], e, H, L, e', H', h => by
    simp only [aopsT, Option.some.injEq, Prod.mk.injEq] at h
    obtain ⟨rfl, rfl, rfl⟩ := h
    exact ⟨⟨rfl, rfl⟩, rfl⟩
  | o :: os, e, H, L, e', H', h => by
    simp only [aopsT] at h
    split at h
    · rename_i hw
      split at h
      · rename_i v H1 hop
        split at h
        · rename_i l r hl
          simp only [Option.some.injEq, Prod.mk.injEq] at h
          obtain ⟨rfl, rfl⟩ := h
          obtain ⟨h1, h2⟩ := aopsT_chain hl
          exact ⟨⟨rfl, rfl, hw, fun _ => hop, by simp, h1⟩, by simp [h2]⟩
        · simp at h
      · simp at h
    · rename_i hw
      split at h
      · rename_i l r hl
        simp only [Option.some.injEq, Prod.mk.injEq] at h
        obtain ⟨rfl, rfl⟩ := h
        obtain ⟨h1, h2⟩ := aopsT_chain hl
        exact ⟨⟨rfl, rfl, hw, by simp, fun _ => ⟨rfl, rfl⟩, h1⟩, by simp [h2]⟩
      · simp at h
    · simp at h
def envD (d : Step → Bool) : Env → List Step → Env
  | e, [] => e
  | e, s :: l => envD d (if d s then putDst e s.o.dst s.v else e) l
theorem get_putDst (e : Env) (d : Option Nat) (v : AV) (t : Nat) : (putDst e d v).get t = if d = some t then some v else e.get t := by
  cases d with
  | none => simp [putDst]
  | some k => simp [putDst, Env.get_put]
theorem envD_append (d : Step → Bool) : ∀ (l : List Step) (e : Env) (l' : List Step), envD d e (l ++ l') = envD d (envD d e l) l'
  | [], _, _ => rfl
  | s :: l, e, l' => by simp only [List.cons_append, envD]; exact envD_append d l _ l'
theorem envD_congr {d d' : Step → Bool} {t : Nat} : ∀ (l : List Step) {e e' : Env}, e.get t = e'.get t → (∀ x ∈ l, d x ≠ d' x → x.o.dst ≠ some t) → (envD d e l).get t = (envD d' e' l).get t
  | [], _, _, h, _ => h
  | s :: l, e, e', h, hx => by
    simp only [envD]
    refine envD_congr l ?_ fun x hm => hx x (by simp [hm])
    have h1 := hx s (by simp)
    by_cases hd : d s = d' s
    · rw [hd]
      cases d' s with
      | true => simp only [if_true]; rw [get_putDst, get_putDst, h]
      | false => simpa using h
    · have h2 := h1 hd
      have g1 : ∀ (c : Bool) (e : Env), (if c = true then putDst e s.o.dst s.v else e).get t = e.get t := fun c e => by
        cases c with
        | true => simp only [if_true]; rw [get_putDst, if_neg h2]
        | false => simp
      rw [g1, g1, h]
theorem envD_skip {d : Step → Bool} {t : Nat} (l : List Step) {e : Env} (h : ∀ x ∈ l, d x = true → x.o.dst ≠ some t) : (envD d e l).get t = e.get t := by
  have h0 : ∀ (l : List Step) (e : Env), envD (fun _ => false) e l = e := fun l => by
    induction l with
    | nil => intro e; rfl
    | cons s l ih => intro e; simp [envD, ih]
  rw [envD_congr (d' := fun _ => false) l (e' := e) rfl, h0]
  intro x hx hne
  exact h x hx (by cases hd : d x <;> simp_all)
theorem Chain.split {call : ACall} : ∀ {A R : List Step} {e : Env} {H : AH} {e' : Env} {H' : AH}, Chain call (A ++ R) e H e' H' → ∃ H1, Chain call A e H (envD (fun _ => true) e A) H1 ∧ Chain call R (envD (fun _ => true) e A) H1 e' H'
  | [], R, e, H, e', H', h => ⟨H, ⟨rfl, rfl⟩, h⟩
  | s :: A, R, e, H, e', H', h => by
    simp only [List.cons_append, Chain] at h
    obtain ⟨h1, h2, h3, h4, h5, h6⟩ := h
    obtain ⟨H1, k1, k2⟩ := Chain.split h6
    exact ⟨H1, ⟨h1, h2, h3, h4, h5, by simpa [envD] using k1⟩, by simpa [envD] using k2⟩
theorem Chain.end_ {call : ACall} : ∀ {A : List Step} {e : Env} {H : AH} {e' : Env} {H' : AH}, Chain call A e H e' H' → e' = envD (fun _ => true) e A
  | [], _, _, _, _, h => h.1.symm
  | s :: A, e, H, e', H', h => by
    simp only [Chain] at h
    have := Chain.end_ h.2.2.2.2.2
    simpa [envD] using this
def headOf (R : List Step) (H' : AH) : AH :=
  match R with
  | [] => H'
  | s :: _ => s.before
def effsOf (l : List Step) : List AOper := (l.filter (·.o.isEff)).map (·.o)
theorem stable_at {call : ACall} {all : List Step} {last : AH} : ∀ {A : List Step} {over : List AOper} {R : List Step}, stable call all over (A ++ R) last = true → (∀ s l, R = s :: l → s.o.isEff = true) → ∀ s ∈ all, stableIn call (headOf R last) (over ++ effsOf A) (effsOf R) s = true
  | [], over, [], h, _, s, hs => by
    simp only [List.nil_append, stable, List.all_eq_true] at h
    simpa [effsOf, headOf] using h s hs
  | [], over, r :: R, h, hR, s, hs => by
    have hr := hR r R rfl
    simp only [List.nil_append, stable, hr, if_true, Bool.and_eq_true, List.all_eq_true] at h
    have := h.1 s hs
    simpa [effsOf, headOf, hr] using this
  | a :: A, over, R, h, hR, s, hs => by
    simp only [List.cons_append, stable] at h
    by_cases ha : a.o.isEff = true
    · simp only [ha, if_true, Bool.and_eq_true] at h
      have := stable_at h.2 hR s hs
      simpa [effsOf, ha] using this
    · simp only [ha, Bool.false_eq_true, if_false] at h
      have := stable_at h hR s hs
      simpa [effsOf, ha] using this
structure Stat (P : Program) (call : ACall) (ops : Array Oper) (nt : Nat) (L : List Step) (e : Env) (H : AH) (e' : Env) (H' : AH) : Prop where
  mem : ∀ s ∈ L, ∃ o, ops[s.o.id]? = some o ∧ cOper P nt ops s.o.id s.o.pre o = some s.o
  cover : ∀ i, i < ops.size → ∃ s ∈ L, s.o.id = i
  nodup : L.Pairwise fun x y => x.o.id ≠ y.o.id
  edges : ∀ L1 s L2, L = L1 ++ s :: L2 → ∀ o, ops[s.o.id]? = some o → ∀ ed ∈ o.after, Region.binds .any ed = true → ∃ x ∈ L1, x.o.id = ed.on
  pre : ∀ s ∈ L, ∀ o, ops[s.o.id]? = some o → ∀ k, hasNat s.o.pre k = true → ∃ ed ∈ o.after, Region.binds .any ed = true ∧ (ed.on = k ∨ ∃ b ∈ L, b.o.id = ed.on ∧ hasNat b.o.pre k = true)
  pairs : L.Pairwise fun x y => pairOk x.o y.o = true
  chain : Chain call L e H e' H'
  stable : ∀ A R, L = A ++ R → (∀ s l, R = s :: l → s.o.isEff = true) → ∀ s ∈ L, stableIn call (headOf R H') (effsOf A) (effsOf R) s = true
def dn (listed : Array Bool) (s : Step) : Bool := listed.getD s.o.id false
def mkr (s : Step) : Prop := s.want = true ∧ s.o.op.cls = .alloc
structure Inv (P : Program) (base : Array Obj) (ops : Array Oper) (nt : Nat) (L : List Step) (e : Env) (H : AH) (w0 : World) (m0 : CM) (H' : AH) (listed : Array Bool) (a : Act) (w : World) (m : CM) (A R : List Step) : Prop where
  size : listed.size = ops.size
  nt : a.tmps.size = nt
  split : L = A ++ R
  doneA : ∀ s ∈ A, s.o.isEff = true → dn listed s = true
  headR : ∀ s l, R = s :: l → s.o.isEff = true ∧ dn listed s = false
  pre : ∀ s ∈ L, dn listed s = true → ∀ k, hasNat s.o.pre k = true → listed.getD k false = true
  rel : Rel P base m (headOf R H') w
  ext : Ext m0 H w0 m (headOf R H') w
  env : EnvR m (envD (dn listed) e L) a.tmps
  room : ∀ s ∈ A, mkr s → H.next ≤ s.before.next ∧ s.before.next < (headOf R H').next
  apart : ∀ s ∈ A, ∀ s' ∈ A, mkr s → mkr s' → s.o.id ≠ s'.o.id → s.before.next ≠ s'.before.next
  unreal : ∀ s ∈ A, mkr s → dn listed s = false → m s.before.next = none ∧ (headOf R H').get s.before.next = s.after.get s.before.next
section
variable {P : Program} {base : Array Obj} {m m0 : CM} {H H' : AH} {w w0 : World} {nt : Nat} {e e' : Env} {a : Act} {v : AV} {F : Fence} {n : Nat} {call : ACall} {ops : Array Oper} {L : List Step} {listed : Array Bool} {A R : List Step}
theorem dn_set {s x : Step} (hlt : s.o.id < listed.size) : dn (listed.setIfInBounds s.o.id true) x = if x.o.id = s.o.id then true else dn listed x := by
  unfold dn
  by_cases h : x.o.id = s.o.id
  · rw [h, if_pos rfl]; simp [hlt]
  · rw [if_neg h, getD_set_ne false (fun e => h e.symm)]
theorem walk_quiet (hS : Rel P base m H w) : ∀ {N : List Step} {e e1 : Env} {H H1 : AH}, Chain call N e H e1 H1 → (∀ s ∈ N, s.o.isEff = false) → Rel P base m H w → Rel P base m H1 w ∧ Ext m H w m H1 w ∧
    (∀ s ∈ N, mkr s → H.next ≤ s.before.next ∧ s.before.next < H1.next ∧ m s.before.next = none ∧ H1.get s.before.next = s.after.get s.before.next) ∧
    N.Pairwise fun x y => mkr x → mkr y → x.before.next ≠ y.before.next
  | [], e, e1, H, H1, h, _, hr => by
    obtain ⟨rfl, rfl⟩ := h
    exact ⟨hr, Ext.refl _ _ _, by simp, .nil⟩
  | s :: N, e, e1, H, H1, h, hq, hr => by
    simp only [Chain] at h
    obtain ⟨h1, h2, h3, h4, h5, h6⟩ := h
    have hne := hq s (by simp)
    have key : (s.after = H ∧ ¬ mkr s) ∨ ∃ obj, s.after = H.alloc obj := by
      cases hw : s.want with
      | false => exact .inl ⟨(h5 hw).2, fun hm => by rw [hm.1] at hw; cases hw⟩
      | true =>
        have h4 := h4 hw
        cases hcl : s.o.op.cls with
        | pure => exact .inl ⟨(aop_pure hcl h4).1, fun hm => by rw [hm.2] at hcl; cases hcl⟩
        | load => exact .inl ⟨aop_load hcl h4, fun hm => by rw [hm.2] at hcl; cases hcl⟩
        | alloc => exact .inr (aop_alloc hcl h4)
        | eff => simp [AOper.isEff, hcl] at hne
    have step : Rel P base m s.after w ∧ Ext m H w m s.after w ∧ (mkr s → s.after.next = H.next + 1) := by
      rcases key with ⟨hk, hnm⟩ | ⟨obj, hk⟩
      · rw [hk]; exact ⟨hr, Ext.refl _ _ _, fun hm => absurd hm hnm⟩
      · rw [hk]; exact ⟨hr.unreal obj, Ext.unreal' obj (hr.top _ (Nat.le_refl _)), fun _ => rfl⟩
    obtain ⟨r1, r2, r3, r4⟩ := walk_quiet hS h6 (fun x hx => hq x (by simp [hx])) step.1
    refine ⟨r1, step.2.1.trans r2, fun x hx hm => ?_, ?_⟩
    · rcases List.mem_cons.1 hx with rfl | hx
      · have hn := step.2.2 hm
        have hmn : m H.next = none := hr.top _ (Nat.le_refl _)
        rw [h2]
        refine ⟨Nat.le_refl _, ?_, hmn, ?_⟩
        · have := r2.next; omega
        · exact (r2.unreal H.next (by omega) hmn).2
      · obtain ⟨k1, k2, k3, k4⟩ := r3 x hx hm
        exact ⟨Nat.le_trans step.2.1.next k1, k2, k3, k4⟩
    · refine List.pairwise_cons.2 ⟨fun y hy hmx hmy => ?_, r4⟩
      have hn := step.2.2 hmx
      have := (r3 y hy hmy).1
      rw [h2]; omega
theorem quiet_split : ∀ (R : List Step), ∃ N R', R = N ++ R' ∧ (∀ s ∈ N, s.o.isEff = false) ∧ (∀ s l, R' = s :: l → s.o.isEff = true)
  | [] => ⟨[], [], rfl, by simp, by simp⟩
  | s :: R => by
    by_cases h : s.o.isEff = true
    · exact ⟨[], s :: R, rfl, by simp, fun x l hx => by cases hx; exact h⟩
    · obtain ⟨N, R', h1, h2, h3⟩ := quiet_split R
      refine ⟨s :: N, R', by rw [h1]; rfl, fun x hx => ?_, h3⟩
      rcases List.mem_cons.1 hx with rfl | hx
      · simpa using h
      · exact h2 x hx
theorem headOf_chain {R : List Step} {e e' : Env} {H1 H' : AH} (h : Chain call R e H1 e' H') : headOf R H' = H1 := by
  cases R with
  | nil => exact h.2.symm
  | cons s R => exact h.2.1
theorem around (hst : Stat P call ops nt L e H e' H') (hi : Inv P base ops nt L e H w0 m0 H' listed a w m A R) {L1 L2 : List Step} {s : Step} (hL : L = L1 ++ s :: L2) (hu : dn listed s = false)
    (hready : ∀ k, hasNat s.o.pre k = true → listed.getD k false = true) :
    (∀ x ∈ L1, dn listed x = false → clash x.o s.o = false ∧ (x.o.isEff && (s.o.isEff || decide (s.o.op.cls = .alloc))) = false) ∧
    (∀ y ∈ L2, dn listed y = true → clash s.o y.o = false ∧ (s.o.isEff && (y.o.isEff || decide (y.o.op.cls = .alloc))) = false) ∧
    (∀ x ∈ L, x.o.id = s.o.id → x = s) := by
  have hp := hst.pairs
  have hn := hst.nodup
  rw [hL] at hp hn
  obtain ⟨p1, p2, p3⟩ := List.pairwise_append.1 hp
  obtain ⟨n1, n2, n3⟩ := List.pairwise_append.1 hn
  obtain ⟨q1, q2⟩ := List.pairwise_cons.1 p2
  obtain ⟨o1, o2⟩ := List.pairwise_cons.1 n2
  refine ⟨fun x hx hxu => ?_, fun y hy hyd => ?_, fun x hx hid => ?_⟩
  · have := p3 x hx s (by simp)
    simp only [pairOk, Bool.or_eq_true, Bool.and_eq_true, Bool.not_eq_true'] at this
    rcases this with h | h
    · have := hready _ h
      unfold dn at hxu
      rw [this] at hxu; cases hxu
    · exact h
  · have := q1 y hy
    simp only [pairOk, Bool.or_eq_true, Bool.and_eq_true, Bool.not_eq_true'] at this
    rcases this with h | h
    · have := hi.pre y (by rw [hL]; simp [hy]) hyd _ h
      unfold dn at hu
      rw [this] at hu; cases hu
    · exact h
  · rw [hL] at hx
    rcases List.mem_append.1 hx with h | h
    · exact absurd hid (n3 x h s (by simp))
    · rcases List.mem_cons.1 h with rfl | h
      · rfl
      · exact absurd hid.symm (o1 x h)
theorem clash_reads {x s : AOper} (h : clash x s = false) : (∀ t, x.dst = some t → t ∉ s.reads ∧ s.dst ≠ some t) ∧ (∀ t, s.dst = some t → t ∉ x.reads) := by
  simp only [clash, Bool.or_eq_false_iff] at h
  refine ⟨fun t ht => ?_, fun t ht => ?_⟩
  · have := h.1
    rw [ht] at this
    simp only [Bool.or_eq_false_iff, decide_eq_false_iff_not] at this
    exact ⟨fun hm => by rw [hasNat_mem.2 hm] at this; exact absurd this.1 (by simp), this.2⟩
  · have := h.2
    rw [ht] at this
    simp only at this
    exact fun hm => by rw [hasNat_mem.2 hm] at this; cases this
theorem reads_same (hst : Stat P call ops nt L e H e' H') (hi : Inv P base ops nt L e H w0 m0 H' listed a w m A R) {L1 L2 : List Step} {s : Step} (hL : L = L1 ++ s :: L2) (hu : dn listed s = false)
    (hready : ∀ k, hasNat s.o.pre k = true → listed.getD k false = true) : ∀ t ∈ s.o.reads, (envD (dn listed) e L).get t = s.env.get t := by
  obtain ⟨h1, h2, _⟩ := around hst hi hL hu hready
  intro t ht
  have hc := hst.chain
  rw [hL] at hc
  obtain ⟨H1, c1, c2⟩ := hc.split
  have hse : s.env = envD (fun _ => true) e L1 := c2.1
  rw [hL, envD_append, envD, hu]
  simp only [Bool.false_eq_true, if_false]
  rw [envD_skip L2 fun y hy hyd hdst => ((clash_reads (h2 y hy hyd).1).2 t hdst) ht, hse]
  refine envD_congr L1 rfl fun x hx hne hdst => ?_
  have hxu : dn listed x = false := by cases hd : dn listed x <;> simp_all
  exact ((clash_reads (h1 x hx hxu).1).1 t hdst).1 ht
theorem env_done (hst : Stat P call ops nt L e H e' H') (hi : Inv P base ops nt L e H w0 m0 H' listed a w m A R) {L1 L2 : List Step} {s : Step} (hL : L = L1 ++ s :: L2) (hu : dn listed s = false)
    (hready : ∀ k, hasNat s.o.pre k = true → listed.getD k false = true) (hlt : s.o.id < listed.size) (t : Nat) :
    (envD (dn (listed.setIfInBounds s.o.id true)) e L).get t = (putDst (envD (dn listed) e L) s.o.dst s.v).get t := by
  obtain ⟨h1, h2, h3⟩ := around hst hi hL hu hready
  have hds : dn (listed.setIfInBounds s.o.id true) s = true := by rw [dn_set hlt, if_pos rfl]
  have hdx : ∀ x ∈ L, x ≠ s → dn (listed.setIfInBounds s.o.id true) x = dn listed x := fun x hx hne => by
    rw [dn_set hlt, if_neg fun hid => hne (h3 x hx hid)]
  rw [get_putDst]
  by_cases hd : s.o.dst = some t
  · rw [if_pos hd, hL, envD_append, envD, hds]
    simp only [if_true]
    rw [envD_skip L2, get_putDst, if_pos hd]
    intro y hy hyd hdst
    by_cases hys : y = s
    · have hn := hst.nodup
      rw [hL] at hn
      obtain ⟨n1, n2, n3⟩ := List.pairwise_append.1 hn
      exact (List.pairwise_cons.1 n2).1 y hy (by rw [hys])
    · rw [hdx y (by rw [hL]; simp [hy]) hys] at hyd
      exact ((clash_reads (h2 y hy hyd).1).1 t hd).2 hdst
  · rw [if_neg hd]
    refine envD_congr L rfl fun x hx hne => ?_
    by_cases hxs : x = s
    · rw [hxs]; exact hd
    · exact absurd (hdx x hx hxs) hne
theorem pairwise_sym {α : Type} {R : α → α → Prop} (hs : ∀ x y, R x y → R y x) : ∀ {l : List α}, l.Pairwise R → ∀ x ∈ l, ∀ y ∈ l, x ≠ y → R x y
  | [], _, x, hx, _, _, _ => by simp at hx
  | a :: l, h, x, hx, y, hy, hne => by
    obtain ⟨h1, h2⟩ := List.pairwise_cons.1 h
    rcases List.mem_cons.1 hx with hx1 | hx1
    · rcases List.mem_cons.1 hy with hy1 | hy1
      · exact absurd (hx1.trans hy1.symm) hne
      · rw [hx1]; exact h1 y hy1
    · rcases List.mem_cons.1 hy with hy1 | hy1
      · rw [hy1]; exact hs _ _ (h1 x hx1)
      · exact pairwise_sym hs h2 x hx1 y hy1 hne
theorem pre_done (hst : Stat P call ops nt L e H e' H') (hi : Inv P base ops nt L e H w0 m0 H' listed a w m A R) {s : Step} (hs : s ∈ L) {o : Oper} (ho : ops[s.o.id]? = some o)
    (hr : ∀ ed ∈ o.after, Region.binds .any ed = true → listed.getD ed.on false = true) : ∀ k, hasNat s.o.pre k = true → listed.getD k false = true := by
  intro k hk
  obtain ⟨ed, h1, h2, h3⟩ := hst.pre s hs o ho k hk
  have hd := hr ed h1 h2
  rcases h3 with rfl | ⟨b, hb, hid, hbk⟩
  · exact hd
  · exact hi.pre b hb (by unfold dn; rw [hid]; exact hd) k hbk
theorem Inv.quiet (hst : Stat P call ops nt L e H e' H') (hi : Inv P base ops nt L e H w0 m0 H' listed a w m A R) {L1 L2 : List Step} {s : Step} (hL : L = L1 ++ s :: L2) (hu : dn listed s = false)
    (hready : ∀ k, hasNat s.o.pre k = true → listed.getD k false = true) (hlt : s.o.id < ops.size) (hq : s.o.isEff = false) (hdst : cDst nt s.o.dst = true) {m' : CM} {w' : World} {u : Value} (hv : VR m' s.v u) (hle : m.le m')
    (hr : Rel P base m' (headOf R H') w') (hx : Ext m0 H w0 m' (headOf R H') w') (hm : ∀ r, r < (headOf R H').next → m r = none → (mkr s → s ∈ A ∧ r ≠ s.before.next) → m' r = none) :
    (mkr s → s ∈ A) → Inv P base ops nt L e H w0 m0 H' (listed.setIfInBounds s.o.id true) (a.put s.o.dst u) w' m' A R := by
  intro hsA
  have hlt' : s.o.id < listed.size := by rw [hi.size]; exact hlt
  obtain ⟨_, _, huniq⟩ := around hst hi hL hu hready
  have hAL : ∀ x ∈ A, x ∈ L := fun x h => by rw [hi.split]; simp [h]
  refine ⟨by simp [hi.size], by rw [Act.put_size]; exact hi.nt, hi.split, fun x hx he => ?_, fun x l hR => ?_, fun x hx hd k hk => ?_, hr, hx, fun t v hv' => ?_, hi.room, hi.apart, fun x hx hmk hd => ?_⟩
  · rw [dn_set hlt']; split
    · rfl
    · exact hi.doneA x hx he
  · obtain ⟨h1, h2⟩ := hi.headR x l hR
    refine ⟨h1, ?_⟩
    have hxL : x ∈ L := by rw [hi.split, hR]; simp
    rw [dn_set hlt', if_neg]
    · exact h2
    · intro hid
      rw [huniq x hxL hid] at h1
      rw [h1] at hq; cases hq
  · rw [dn_set hlt'] at hd
    by_cases hid : x.o.id = s.o.id
    · rw [huniq x hx hid] at hk
      exact getD_set_true (hready k hk)
    · rw [if_neg hid] at hd
      exact getD_set_true (hi.pre x hx hd k hk)
  · rw [env_done hst hi hL hu hready hlt'] at hv'
    exact (hi.env.mono hle).putDst (by rw [hi.nt]; exact hdst) hv t v hv'
  · rw [dn_set hlt'] at hd
    by_cases hid : x.o.id = s.o.id
    · rw [if_pos hid] at hd; cases hd
    · rw [if_neg hid] at hd
      obtain ⟨h1, h2⟩ := hi.unreal x hx hmk hd
      refine ⟨hm _ (hi.room x hx hmk).2 h1 fun hms => ⟨hsA hms, hi.apart x hx s (hsA hms) hmk hms hid⟩, h2⟩
theorem Inv.effect (hst : Stat P call ops nt L e H e' H') (hi : Inv P base ops nt L e H w0 m0 H' listed a w m A R) {s : Step} {R0 : List Step} (hR : R = s :: R0) (hu : dn listed s = false)
    (hready : ∀ k, hasNat s.o.pre k = true → listed.getD k false = true) (hlt : s.o.id < ops.size) (hq : s.o.isEff = true) (hdst : cDst nt s.o.dst = true) {m' : CM} {w' : World} {u : Value} (hv : VR m' s.v u)
    (hr : Rel P base m' s.after w') (hx : Ext m (headOf R H') w m' s.after w') :
    ∃ A' R', Inv P base ops nt L e H w0 m0 H' (listed.setIfInBounds s.o.id true) (a.put s.o.dst u) w' m' A' R' := by
  have hlt' : s.o.id < listed.size := by rw [hi.size]; exact hlt
  have hL : L = A ++ s :: R0 := by rw [hi.split, hR]
  obtain ⟨_, _, huniq⟩ := around hst hi hL hu hready
  obtain ⟨N, R', hN, hNq, hRe⟩ := quiet_split R0
  have hc := hst.chain
  rw [hL] at hc
  obtain ⟨H1, _, c2⟩ := hc.split
  have c3 := c2.2.2.2.2.2
  rw [hN] at c3
  obtain ⟨H2, c4, c5⟩ := c3.split
  have hH2 : headOf R' H' = H2 := headOf_chain c5
  obtain ⟨r1, r2, r3, r4⟩ := walk_quiet hr c4 hNq hr
  have hx2 : Ext m (headOf R H') w m' H2 w' := hx.trans r2
  have hnms : ¬ mkr s := fun hm => by
    have := hm.2
    simp only [AOper.isEff, decide_eq_true_eq] at hq
    rw [this] at hq; cases hq
  have hmem : ∀ x, x ∈ A ++ s :: N → mkr x → x ∈ A ∨ x ∈ N := fun x h hm => by
    rcases List.mem_append.1 h with h | h
    · exact .inl h
    · rcases List.mem_cons.1 h with rfl | h
      · exact absurd hm hnms
      · exact .inr h
  have hn1 := hx.next
  have hn2 := r2.next
  have hn3 := hi.ext.next
  refine ⟨A ++ s :: N, R', by simp [hi.size], by rw [Act.put_size]; exact hi.nt, by rw [hL, hN]; simp, fun x hx' he => ?_, fun x l hR' => ?_, fun x hx' hd k hk => ?_, by rw [hH2]; exact r1, by rw [hH2]; exact hi.ext.trans hx2, fun t v hv' => ?_, fun x hx' hmk => ?_, fun x hx' y hy' hmx hmy hne => ?_, fun x hx' hmk hd => ?_⟩
  · rw [dn_set hlt']
    rcases List.mem_append.1 hx' with h | h
    · split
      · rfl
      · exact hi.doneA x h he
    · rcases List.mem_cons.1 h with rfl | h
      · rw [if_pos rfl]
      · rw [hNq x h] at he; cases he
  · have hxe := hRe x l hR'
    refine ⟨hxe, ?_⟩
    have hp := hst.pairs
    have hn := hst.nodup
    rw [hL] at hp hn
    have hxR0 : x ∈ R0 := by rw [hN, hR']; simp
    have hp1 := (List.pairwise_cons.1 (List.pairwise_append.1 hp).2.1).1 x hxR0
    have hn1 := (List.pairwise_cons.1 (List.pairwise_append.1 hn).2.1).1 x hxR0
    rw [dn_set hlt', if_neg (fun h => hn1 h.symm)]
    simp only [pairOk, hq, hxe, Bool.or_eq_true, Bool.and_eq_true, Bool.not_eq_true', Bool.true_or, Bool.and_self, Bool.true_eq_false, and_false, or_false] at hp1
    cases hd : dn listed x with
    | false => rfl
    | true =>
      have := hi.pre x (by rw [hL]; simp [hxR0]) hd _ hp1
      unfold dn at hu
      rw [this] at hu; cases hu
  · rw [dn_set hlt'] at hd
    by_cases hid : x.o.id = s.o.id
    · rw [huniq x hx' hid] at hk
      exact getD_set_true (hready k hk)
    · rw [if_neg hid] at hd
      exact getD_set_true (hi.pre x hx' hd k hk)
  · rw [env_done hst hi hL hu hready hlt'] at hv'
    exact (hi.env.mono hx2.le).putDst (by rw [hi.nt]; exact hdst) hv t v hv'
  · rw [hH2]
    rcases hmem x hx' hmk with h | h
    · have := hi.room x h hmk; omega
    · have := r3 x h hmk; omega
  · rcases hmem x hx' hmx with h | h
    · rcases hmem y hy' hmy with h' | h'
      · exact hi.apart x h y h' hmx hmy hne
      · have := hi.room x h hmx; have := r3 y h' hmy; omega
    · rcases hmem y hy' hmy with h' | h'
      · have := hi.room y h' hmy; have := r3 x h hmx; omega
      · exact pairwise_sym (fun x y h a b => (h b a).symm) r4 x h y h' (fun e => hne (by rw [e])) hmx hmy
  · rw [hH2]
    rcases hmem x hx' hmk with h | h
    · rw [dn_set hlt'] at hd
      by_cases hid : x.o.id = s.o.id
      · rw [if_pos hid] at hd; cases hd
      · rw [if_neg hid] at hd
        obtain ⟨h1, h2⟩ := hi.unreal x h hmk hd
        obtain ⟨h3, h4⟩ := hx2.unreal _ (hi.room x h hmk).2 h1
        exact ⟨h3, h4.trans h2⟩
    · exact ⟨(r3 x h hmk).2.2.1, (r3 x h hmk).2.2.2⟩
theorem Inv.start (hst : Stat P call ops nt L e H e' H') (hr : Rel P base m H w) (he : EnvR m e a.tmps) (hnt : a.tmps.size = nt) : ∃ A R, Inv P base ops nt L e H w m H' (Array.replicate ops.size false) a w m A R := by
  obtain ⟨N, R', hN, hNq, hRe⟩ := quiet_split L
  have hc := hst.chain
  rw [hN] at hc
  obtain ⟨H2, c4, c5⟩ := hc.split
  have hH2 : headOf R' H' = H2 := headOf_chain c5
  obtain ⟨r1, r2, r3, r4⟩ := walk_quiet hr c4 hNq hr
  have hd0 : ∀ k, (Array.replicate ops.size false).getD k false = false := fun k => by
    simp only [Array.getD]; split <;> simp
  have hd : ∀ x, dn (Array.replicate ops.size false) x = false := fun x => hd0 _
  refine ⟨N, R', by simp, hnt, hN, fun x hx h => (by rw [hNq x hx] at h; cases h), fun x l h => ⟨hRe x l h, hd x⟩, fun x _ h => (by rw [hd] at h; cases h), by rw [hH2]; exact r1, by rw [hH2]; exact r2, fun t v hv => ?_, fun x hx hm => ?_, fun x hx y hy hmx hmy hne => ?_, fun x hx hm _ => ?_⟩
  · rw [envD_skip L (fun x _ h => by rw [hd] at h; cases h)] at hv
    exact he t v hv
  · rw [hH2]; have := r3 x hx hm; omega
  · exact pairwise_sym (fun x y h a b => (h b a).symm) r4 x hx y hy (fun e => hne (by rw [e])) hmx hmy
  · rw [hH2]; exact ⟨(r3 x hx hm).2.2.1, (r3 x hx hm).2.2.2⟩
theorem first_undone (d : Step → Bool) : ∀ (L : List Step), (∀ s ∈ L, d s = true) ∨ ∃ L1 s L2, L = L1 ++ s :: L2 ∧ (∀ x ∈ L1, d x = true) ∧ d s = false
  | [] => .inl (by simp)
  | s :: L => by
    cases hd : d s with
    | false => exact .inr ⟨[], s, L, rfl, by simp, hd⟩
    | true =>
      rcases first_undone d L with h | ⟨L1, x, L2, h1, h2, h3⟩
      · exact .inl fun x hx => by
          rcases List.mem_cons.1 hx with rfl | hx
          · exact hd
          · exact h x hx
      · refine .inr ⟨s :: L1, x, L2, by rw [h1]; rfl, fun y hy => ?_, h3⟩
        rcases List.mem_cons.1 hy with rfl | hy
        · exact hd
        · exact h2 y hy
theorem all_done (hst : Stat P call ops nt L e H e' H') (hsz : listed.size = ops.size) (h : Region.ready .any ops listed = []) : ∀ s ∈ L, dn listed s = true := by
  rcases first_undone (dn listed) L with h1 | ⟨L1, s, L2, h1, h2, h3⟩
  · exact h1
  · exfalso
    obtain ⟨o, ho, _⟩ := hst.mem s (by rw [h1]; simp)
    have : s.o.id ∈ Region.ready .any ops listed := by
      rw [mem_ready]
      refine ⟨?_, o, ho, fun ed hed hb => ?_⟩
      · have hlt : s.o.id < listed.size := by rw [hsz]; exact (Array.getElem?_eq_some_iff.1 ho).1
        unfold dn at h3
        simpa [Array.getD, hlt] using h3
      · obtain ⟨x, hx, hid⟩ := hst.edges L1 s L2 h1 o ho ed hed hb
        have := h2 x hx
        unfold dn at this
        rw [hid] at this; exact this
    rw [h] at this; simp at this
def undone (listed : Array Bool) (L : List Step) : Nat := L.countP fun s => !dn listed s
theorem undone_less {s : Step} (hs : s ∈ L) (hu : dn listed s = false) (hlt : s.o.id < listed.size) : undone (listed.setIfInBounds s.o.id true) L < undone listed L := by
  unfold undone
  induction L with
  | nil => simp at hs
  | cons x l ih =>
    have hle : ∀ l : List Step, l.countP (fun s' => !dn (listed.setIfInBounds s.o.id true) s') ≤ l.countP (fun s' => !dn listed s') := fun l => by
      refine List.countP_mono_left fun y _ hy => ?_
      rw [dn_set hlt] at hy
      split at hy
      · simp at hy
      · exact hy
    simp only [List.countP_cons]
    rcases List.mem_cons.1 hs with rfl | hs
    · have h1 : dn (listed.setIfInBounds s.o.id true) s = true := by rw [dn_set hlt, if_pos rfl]
      rw [h1, hu]
      have := hle l
      simp; omega
    · have h1 := ih hs
      have h2 : dn listed x = true → dn (listed.setIfInBounds s.o.id true) x = true := fun h => by
        rw [dn_set hlt]; split
        · rfl
        · exact h
      cases hx : dn listed x with
      | true => rw [h2 hx]; simpa using h1
      | false =>
        cases hy : dn (listed.setIfInBounds s.o.id true) x <;> simp <;> omega
theorem wanted_congr {e1 e2 : Env} {o : AOper} (h : ∀ t ∈ o.reads, e1.get t = e2.get t) : o.wanted e1 = o.wanted e2 := by
  unfold AOper.wanted
  cases hg : o.guard with
  | none => rfl
  | some p =>
    obtain ⟨t, want⟩ := p
    simp only
    rw [h t (by simp [AOper.reads, hg])]
theorem op_congr {e1 e2 : Env} {o : AOper} (h : ∀ t ∈ o.reads, e1.get t = e2.get t) : aop call e1 H o.op = aop call e2 H o.op :=
  aop_congr fun t ht => h t (by unfold AOper.reads; cases o.guard <;> simp [ht])
theorem draw_go (hS : SimCall P call) (hF : WideF F) {Q : Exit → Act → World → Prop} {a0 : Act} (hst : Stat P call ops nt L e H e' H')
    (hq : ∀ m' a' w', Rel P base m' H' w' → Ext m0 H w0 m' H' w' → EnvR m' e' a'.tmps → a'.tmps.size = nt → a'.defers = a0.defers → Q .normal a' w') :
    ∀ (fuel : Nat) (listed : Array Bool) (a : Act) (w : World) (m : CM) (A R : List Step), Inv P base ops nt L e H w0 m0 H' listed a w m A R → a.defers = a0.defers → undone listed L ≤ fuel → wpAnyIn F n P .any ops Q fuel listed a w := by
  have hnone : ∀ {listed : Array Bool} {a : Act} {w : World} {m : CM} {A R : List Step}, Inv P base ops nt L e H w0 m0 H' listed a w m A R → a.defers = a0.defers → Region.ready .any ops listed = [] → Q .normal a w := by
    intro listed a w m A R hi hdf hr
    have hall := all_done hst hi.size hr
    have hR : R = [] := by
      cases R with
      | nil => rfl
      | cons s l =>
        have h1 := (hi.headR s l rfl).2
        rw [hall s (by rw [hi.split]; simp)] at h1; cases h1
    have hrel := hi.rel
    have hext := hi.ext
    rw [hR] at hrel hext
    refine hq m a w hrel hext (fun t v hv => ?_) hi.nt hdf
    have he' := hst.chain.end_
    refine hi.env t v ?_
    rw [← hv, he']
    refine envD_congr L rfl fun x hx hne => ?_
    rw [hall x hx] at hne
    exact absurd rfl hne
  intro fuel
  induction fuel with
  | zero =>
    intro listed a w m A R hi hdf hu
    have hr : Region.ready .any ops listed = [] := by
      cases hr : Region.ready .any ops listed with
      | nil => rfl
      | cons i is =>
        exfalso
        have hmem : i ∈ Region.ready .any ops listed := by rw [hr]; simp
        rw [mem_ready] at hmem
        obtain ⟨h1, o, ho, _⟩ := hmem
        obtain ⟨s, hs, hid⟩ := hst.cover i (Array.getElem?_eq_some_iff.1 ho).1
        have h2 : dn listed s = false := by
          have hlt : i < listed.size := by rw [hi.size]; exact (Array.getElem?_eq_some_iff.1 ho).1
          unfold dn; rw [hid]
          simpa [Array.getD, hlt] using h1
        have : 0 < undone listed L := List.countP_pos_iff.2 ⟨s, hs, by simp [h2]⟩
        omega
    exact ⟨hr, hnone hi hdf hr⟩
  | succ fuel ih =>
    intro listed a w m A R hi hdf hu
    refine ⟨hnone hi hdf, fun i hmem => ?_⟩
    rw [mem_ready] at hmem
    obtain ⟨hl, o, ho, hedges⟩ := hmem
    have hlt : i < ops.size := (Array.getElem?_eq_some_iff.1 ho).1
    obtain ⟨s, hs, hid⟩ := hst.cover i hlt
    subst hid
    have hlt' : s.o.id < listed.size := by rw [hi.size]; exact hlt
    have hsu : dn listed s = false := by
      unfold dn
      simpa [Array.getD, hlt'] using hl
    obtain ⟨o', ho', hco⟩ := hst.mem s hs
    rw [ho] at ho'; cases ho'
    have hready := pre_done hst hi hs ho hedges
    obtain ⟨L1, L2, hL⟩ := List.append_of_mem hs
    obtain ⟨har1, har2, huniq⟩ := around hst hi hL hsu hready
    have hreads := reads_same hst hi hL hsu hready
    have hc := hst.chain
    rw [hL] at hc
    obtain ⟨H1, c1, c2⟩ := hc.split
    obtain ⟨k1, k2, k3, k4, k5, k6⟩ := c2
    rw [← k1] at k3 k4
    rw [← k2] at k4 k5
    have hwant : s.o.wanted (envD (dn listed) e L) = some s.want := by rw [wanted_congr hreads]; exact k3
    have hco' := hco
    rw [← hi.nt] at hco'
    have hwd := wanted_eq hi.env hco' hwant
    obtain ⟨d1, d2, d3⟩ := cOper_op hco
    have hless : undone (listed.setIfInBounds s.o.id true) L ≤ fuel := by have := undone_less hs hsu hlt'; omega
    have hdst : cDst nt s.o.dst = true := by rw [d3]; exact d2
    have hnext : ∀ {u : Value} {m' : CM} {w' : World} {A' R' : List Step}, Inv P base ops nt L e H w0 m0 H' (listed.setIfInBounds s.o.id true) (a.put s.o.dst u) w' m' A' R' → wpAnyIn F n P .any ops Q fuel (listed.setIfInBounds s.o.id true) (a.put o.dst u) w' := by
      intro u m' w' A' R' hi'
      rw [d3] at hi'
      exact ih _ _ _ _ _ _ hi' (by rw [put_defers']; exact hdf) hless
    have hin : s ∈ A ∨ s ∈ R := by
      have := hs
      rw [hi.split] at this
      exact List.mem_append.1 this
    have hheadOnly : s ∈ R → (s.o.isEff || decide (s.o.op.cls = .alloc)) = true → ∃ R0, R = s :: R0 := fun hm hc => by
      cases hRc : R with
      | nil => rw [hRc] at hm; simp at hm
      | cons x l =>
        obtain ⟨h1, h2⟩ := hi.headR x l hRc
        rw [hRc] at hm
        rcases List.mem_cons.1 hm with rfl | hm
        · exact ⟨l, rfl⟩
        · exfalso
          have hp := hst.pairs
          rw [hi.split, hRc] at hp
          have := (List.pairwise_cons.1 (List.pairwise_append.1 hp).2.1).1 s hm
          simp only [pairOk, h1, hc, Bool.true_and, Bool.not_true, Bool.and_false, Bool.or_false] at this
          have := hready _ this
          unfold dn at h2
          rw [this] at h2; cases h2
    have hefA : s.o.isEff = true → ∃ R0, R = s :: R0 := fun he => by
      rcases hin with h | h
      · have := hi.doneA s h he
        rw [hsu] at this; cases this
      · exact hheadOnly h (by simp [he])
    have hmkA : mkr s → s ∈ A := fun hm => by
      rcases hin with h | h
      · exact h
      · obtain ⟨R0, hR0⟩ := hheadOnly h (by simp [hm.2])
        have := (hi.headR s R0 hR0).1
        simp [AOper.isEff, hm.2] at this
    unfold wpOpIn
    rw [ho]
    simp only [hwd]
    cases hsw : s.want with
    | false =>
      simp only [Bool.false_eq_true, if_false]
      refine ⟨fun g _ => hF.fn g, ?_⟩
      obtain ⟨hv, haf⟩ := k5 hsw
      have hvr : VR m s.v undef := by rw [hv]; exact .tuple .nil
      cases heff : s.o.isEff with
      | false =>
        exact hnext (hi.quiet hst hL hsu hready hlt heff hdst hvr (leR m) hi.rel hi.ext (fun r _ h _ => h) (fun hm => by rw [hm.1] at hsw; cases hsw))
      | true =>
        obtain ⟨R0, hR0⟩ := hefA heff
        have hS0 : headOf R H' = s.after := by rw [hR0, haf]; rfl
        obtain ⟨A', R', hi'⟩ := hi.effect hst hR0 hsu hready hlt heff hdst hvr (by rw [← hS0]; exact hi.rel) (by rw [hS0]; exact Ext.refl _ _ _)
        exact hnext hi'
    | true =>
      simp only [if_true]
      have hop := k4 hsw
      rw [← op_congr hreads] at hop
      have d1' := d1
      rw [← hi.nt] at d1'
      cases hcl : s.o.op.cls with
      | pure =>
        have heff : s.o.isEff = false := by simp [AOper.isEff, hcl]
        have h2 := (aop_pure hcl hop).2 (headOf R H')
        refine sim_oper hS d1' hF hi.rel hi.env h2 fun u m' w' hv hr' hx' => ?_
        exact hnext (hi.quiet hst hL hsu hready hlt heff hdst hv hx'.le hr' (hi.ext.trans hx') (fun r hr hm _ => (hx'.unreal r hr hm).1) (fun hm => by rw [hm.2] at hcl; cases hcl))
      | load =>
        have heff : s.o.isEff = false := by simp [AOper.isEff, hcl]
        have h1 := hst.stable A R hi.split (fun x l h => (hi.headR x l h).1) s hs
        have hRu : ∀ x ∈ R, x.o.isEff = true → dn listed x = false := fun x hx he => by
          cases hRc : R with
          | nil => rw [hRc] at hx; simp at hx
          | cons y l =>
            obtain ⟨q1, q2⟩ := hi.headR y l hRc
            rw [hRc] at hx
            rcases List.mem_cons.1 hx with rfl | hx
            · exact q2
            · have hp := hst.pairs
              rw [hi.split, hRc] at hp
              have := (List.pairwise_cons.1 (List.pairwise_append.1 hp).2.1).1 x hx
              simp only [pairOk, q1, he, Bool.true_and, Bool.true_or, Bool.not_true, Bool.and_false, Bool.or_false] at this
              cases hd : dn listed x with
              | false => rfl
              | true =>
                have := hi.pre x (by rw [hi.split, hRc]; simp [hx]) hd _ this
                unfold dn at q2
                rw [this] at q2; cases q2
        have hadm : admits s.o (effsOf A) (effsOf R) = true := by
          simp only [admits, Bool.and_eq_true, List.all_eq_true, Bool.not_eq_true']
          refine ⟨fun x hx => ?_, fun x hx => ?_⟩
          · simp only [effsOf, List.mem_map, List.mem_filter] at hx
            obtain ⟨y, ⟨hy, hye⟩, rfl⟩ := hx
            cases hh : hasNat s.o.pre y.o.id with
            | false => rfl
            | true =>
              have q1 := hready _ hh
              have q2 := hRu y hy hye
              unfold dn at q2
              rw [q1] at q2; cases q2
          · simp only [effsOf, List.mem_map, List.mem_filter] at hx
            obtain ⟨y, ⟨hy, hye⟩, rfl⟩ := hx
            cases hh : hasNat y.o.pre s.o.id with
            | false => rfl
            | true =>
              have q1 := hi.pre y (by rw [hi.split]; simp [hy]) (hi.doneA y hy hye) _ hh
              unfold dn at hsu
              rw [q1] at hsu; cases hsu
        simp only [stableIn, hsw, hcl, hadm, decide_true, Bool.and_self, if_true] at h1
        split at h1
        · rename_i v' H2 hv'
          have hve := eqA_eq h1
          subst hve
          have h3 : H2 = headOf R H' := aop_load hcl hv'
          rw [← op_congr hreads, h3] at hv'
          refine sim_oper hS d1' hF hi.rel hi.env hv' fun u m' w' hv hr' hx' => ?_
          exact hnext (hi.quiet hst hL hsu hready hlt heff hdst (by assumption) hx'.le hr' (hi.ext.trans hx') (fun r hr hm _ => (hx'.unreal r hr hm).1) (fun hm => by rw [hm.2] at hcl; cases hcl))
        · cases h1
      | alloc =>
        have heff : s.o.isEff = false := by simp [AOper.isEff, hcl]
        have hsA := hmkA ⟨hsw, hcl⟩
        obtain ⟨hm0, hg0⟩ := hi.unreal s hsA ⟨hsw, hcl⟩ hsu
        obtain ⟨hrm1, hrm2⟩ := hi.room s hsA ⟨hsw, hcl⟩
        obtain ⟨mk, obj, hv, haf, sm, hex, u, oC, k, hrun, hmade⟩ := made_op (w := w) (m := m) (N := base.size) d1' hcl hi.rel.size hi.env hop
        have hgo : (headOf R H').get s.before.next = some obj := by rw [hg0, haf, AH.get_alloc, if_pos rfl]
        obtain ⟨hvr, hob⟩ := hmade s.before.next (CM.add m s.before.next (w.heap.size, 0, k)) (CM.add_le hm0) (CM.add_same _ _ _)
        have hr' := hi.rel.realize hrm2 hm0 (n := k) (oC := oC) (by rw [hgo]; exact hob)
        obtain ⟨e1, e2⟩ := Ext.realize (H := headOf R H') (w := w) (n := k) (oC := oC) hm0 (fun k c o n hk => (hi.rel.blk k c o n hk).1)
        have hx' : Ext m0 H w0 (CM.add m s.before.next (w.heap.size, 0, k)) (headOf R H') (w.alloc oC) := by
          refine ⟨leT hi.ext.le e1, hi.ext.next, by have := hi.ext.heap; simp; omega, fun c hc hf => ?_, fun b hb hn => ?_, hi.ext.loops, hi.ext.os⟩
          · obtain ⟨f1, f2⟩ := hi.ext.free c hc hf
            obtain ⟨f3, f4⟩ := e2 c (Nat.lt_of_lt_of_le hc hi.ext.heap) f1
            exact ⟨f3, f4.trans f2⟩
          · obtain ⟨f1, f2⟩ := hi.ext.unreal b hb hn
            exact ⟨by rw [CM.add_ne _ _ (by omega)]; exact f1, f2⟩
        have hgoal := hnext (hi.quiet hst hL hsu hready hlt heff hdst (u := u) (by rw [hv]; exact hvr) e1 hr' hx' (fun r _ hrn hne => by rw [CM.add_ne _ _ (hne ⟨hsw, hcl⟩).2]; exact hrn) (fun _ => hsA))
        refine ⟨fun g _ => hF.fn g, ?_⟩
        have hnd : ∀ c, o.op ≠ .defer c := fun c hcd => by rw [hcd] at d1; simp [cOp] at d1
        rw [Oper.semAt_eq _ _ _ hnd, hex, Sem.run_bind, hrun]
        exact hgoal
      | eff =>
        have heff : s.o.isEff = true := by simp [AOper.isEff, hcl]
        obtain ⟨R0, hR0⟩ := hefA heff
        have hS0 : headOf R H' = s.before := by rw [hR0]; rfl
        refine sim_oper hS d1' hF (by rw [← hS0]; exact hi.rel) hi.env hop fun u m' w' hv hr' hx' => ?_
        obtain ⟨A', R', hi'⟩ := hi.effect hst hR0 hsu hready hlt heff hdst hv hr' (by rw [hS0]; exact hx')
        exact hnext hi'
theorem nodupN_pw {α : Type} (f : α → Nat) : ∀ {l : List α}, nodupN (l.map f) = true → l.Pairwise fun x y => f x ≠ f y
  | [], _ => .nil
  | x :: l, h => by
    simp only [List.map_cons, nodupN, Bool.and_eq_true, Bool.not_eq_true'] at h
    refine List.pairwise_cons.2 ⟨fun y hy he => ?_, nodupN_pw f h.2⟩
    have : hasNat (l.map f) (f x) = true := hasNat_mem.2 (by rw [he]; exact List.mem_map.2 ⟨y, hy, rfl⟩)
    rw [this] at h; cases h.1
theorem pairsOk_pw : ∀ {l : List AOper}, pairsOk l = true → l.Pairwise fun x y => pairOk x y = true
  | [], _ => .nil
  | x :: l, h => by
    simp only [pairsOk, Bool.and_eq_true, List.all_eq_true] at h
    exact List.pairwise_cons.2 ⟨h.1, pairsOk_pw h.2⟩
theorem edgesOk_at : ∀ {A : List AOper} {x : AOper} {B : List AOper} {seen : List Nat}, edgesOk ops (A ++ x :: B) seen = true → ∀ o, ops[x.id]? = some o → ∀ ed ∈ o.after, Region.binds .any ed = true → ed.on ∈ seen ∨ ∃ y ∈ A, y.id = ed.on
  | [], x, B, seen, h, o, ho, ed, hed, hb => by
    simp only [List.nil_append, edgesOk, ho, Bool.and_eq_true, List.all_eq_true] at h
    have := h.1 ed (by simpa using hed)
    simp only [hb, Bool.not_true, Bool.false_or] at this
    exact .inl (hasNat_mem.1 this)
  | y :: A, x, B, seen, h, o, ho, ed, hed, hb => by
    simp only [List.cons_append, edgesOk, Bool.and_eq_true] at h
    rcases edgesOk_at h.2 o ho ed hed hb with h1 | ⟨z, hz, hid⟩
    · rcases List.mem_cons.1 h1 with h1 | h1
      · exact .inr ⟨y, by simp, h1.symm⟩
      · exact .inl h1
    · exact .inr ⟨z, by simp [hz], hid⟩
theorem maskOf_go : ∀ {l : List Nat} {m k : Nat}, (l.foldl (fun m k => Nat.lor m (2 ^ k)) m).testBit k = (m.testBit k || decide (k ∈ l))
  | [], m, k => by simp
  | x :: l, m, k => by
    rw [List.foldl_cons, maskOf_go]
    show ((m ||| 2 ^ x).testBit k || _) = _
    rw [Nat.testBit_or, Nat.testBit_two_pow, Bool.or_assoc]
    congr 1
    by_cases h : x = k
    · subst h; simp
    · simp [h, Ne.symm h]
theorem maskOf_test {l : List Nat} {k : Nat} : (maskOf l).testBit k = decide (k ∈ l) := by
  unfold maskOf; rw [maskOf_go]; simp
theorem preMask_test {l : List AOper} {i k : Nat} (h : (preMask (l.map fun a => (a.id, maskOf a.pre)) i).testBit k = true) : ∃ b ∈ l, b.id = i ∧ hasNat b.pre k = true := by
  unfold preMask at h
  split at h
  · rename_i x hx
    have h1 := List.find?_some hx
    obtain ⟨b, hb, rfl⟩ := List.mem_map.1 (List.mem_of_find?_eq_some hx)
    refine ⟨b, hb, by simpa using h1, hasNat_mem.2 ?_⟩
    simp only [maskOf_test, decide_eq_true_eq] at h
    exact h
  · simp at h
theorem after_test {l : List AOper} {k : Nat} : ∀ {es : List Edge} {m : Nat}, (es.foldl (fun m e => if Region.binds .any e then Nat.lor m (Nat.lor (2 ^ e.on) (preMask (l.map fun a => (a.id, maskOf a.pre)) e.on)) else m) m).testBit k = true →
    m.testBit k = true ∨ ∃ e ∈ es, Region.binds .any e = true ∧ (e.on = k ∨ ∃ b ∈ l, b.id = e.on ∧ hasNat b.pre k = true)
  | [], m, h => .inl h
  | e :: es, m, h => by
    rw [List.foldl_cons] at h
    rcases after_test h with h1 | ⟨e', h1, h2⟩
    · split at h1
      · rename_i hb
        have h1 : (m ||| (2 ^ e.on ||| preMask (l.map fun a => (a.id, maskOf a.pre)) e.on)).testBit k = true := h1
        rw [Nat.testBit_or, Nat.testBit_or, Nat.testBit_two_pow] at h1
        simp only [Bool.or_eq_true, decide_eq_true_eq] at h1
        rcases h1 with h1 | h1 | h1
        · exact .inl h1
        · exact .inr ⟨e, by simp, hb, .inl h1⟩
        · exact .inr ⟨e, by simp, hb, .inr (preMask_test h1)⟩
      · exact .inl h1
    · exact .inr ⟨e', by simp [h1], h2⟩
theorem preOk_at {ops : Array Oper} {l : List AOper} (h : preOk ops l = true) {a : AOper} (ha : a ∈ l) {o : Oper} (ho : ops[a.id]? = some o) {k : Nat} (hk : k ∈ a.pre) :
    ∃ e ∈ o.after.toList, Region.binds .any e = true ∧ (e.on = k ∨ ∃ b ∈ l, b.id = e.on ∧ hasNat b.pre k = true) := by
  have h1 := List.all_eq_true.1 h a ha
  rw [ho] at h1
  have h2 := of_decide_eq_true h1
  have h3 : (maskOf a.pre).testBit k = true := by rw [maskOf_test]; exact decide_eq_true hk
  rw [← h2] at h3
  have h3 : (maskOf a.pre &&& _).testBit k = true := h3
  rw [Nat.testBit_and, Bool.and_eq_true] at h3
  rcases after_test h3.2 with h4 | h4
  · simp at h4
  · exact h4
theorem stat_of {os : List AOper} (hok : drawOk ops os = true) (hmem : ∀ x ∈ os, ∃ o, ops[x.id]? = some o ∧ cOper P nt ops x.id x.pre o = some x) (hch : Chain call L e H e' H') (hmap : L.map (·.o) = os) (hstab : AM.stable call L [] L H' = true) : Stat P call ops nt L e H e' H' := by
  subst hmap
  simp only [drawOk, Bool.and_eq_true] at hok
  obtain ⟨⟨⟨⟨hcov, hnd⟩, hed⟩, hpre⟩, hpairs⟩ := hok
  rw [List.map_map] at hnd
  refine ⟨fun s hs => hmem s.o (List.mem_map.2 ⟨s, hs, rfl⟩), fun i hi => ?_, nodupN_pw (fun s : Step => s.o.id) hnd, fun L1 s L2 hL o ho ed hm hb => ?_, fun s hs o ho k hk => ?_, ?_, hch, fun A R hAR hR s hs => ?_⟩
  · simp only [List.all_eq_true, List.mem_range, List.any_eq_true, List.mem_map, decide_eq_true_eq] at hcov
    obtain ⟨x, ⟨s, hs, rfl⟩, hid⟩ := hcov i hi
    exact ⟨s, hs, hid⟩
  · rw [hL, List.map_append, List.map_cons] at hed
    rcases edgesOk_at hed o ho ed hm hb with h1 | ⟨y, hy, hid⟩
    · simp at h1
    · obtain ⟨x, hx, rfl⟩ := List.mem_map.1 hy
      exact ⟨x, hx, hid⟩
  · obtain ⟨ed, h1, h2⟩ := preOk_at hpre (List.mem_map.2 ⟨s, hs, rfl⟩) ho (hasNat_mem.1 hk)
    refine ⟨ed, by simpa using h1, h2.1, ?_⟩
    rcases h2.2 with h3 | ⟨b, hb, h3, h4⟩
    · exact .inl h3
    · obtain ⟨x, hx, rfl⟩ := List.mem_map.1 hb
      exact .inr ⟨x, hx, h3, h4⟩
  · have := pairsOk_pw hpairs
    exact List.pairwise_map.1 this
  · have := stable_at (A := A) (over := []) (R := R) (by rw [← hAR]; exact hstab) hR s hs
    simpa using this
theorem stat_short (hst : Stat P call ops nt L e H e' H') : L.length ≤ ops.size := by
  have h1 : (L.map (·.o.id)).Nodup := List.pairwise_map.2 hst.nodup
  have h2 : ∀ i ∈ L.map (·.o.id), i ∈ List.range ops.size := fun i hi => by
    obtain ⟨s, hs, rfl⟩ := List.mem_map.1 hi
    obtain ⟨o, ho, _⟩ := hst.mem s hs
    exact List.mem_range.2 (Array.getElem?_eq_some_iff.1 ho).1
  have := List.Nodup.length_le_of_subset h1 h2
  simpa using this
theorem cDraw_mem {os : List AOper} (h : cDraw P nt ops = some os) : ∀ x ∈ os, ∃ o, ops[x.id]? = some o ∧ cOper P nt ops x.id x.pre o = some x := by
  unfold cDraw at h
  simp only at h
  split at h
  · simp only [Option.some.injEq] at h; subst h
    intro x hx
    obtain ⟨y, hy, hxy⟩ := List.mem_filterMap.1 hx
    obtain ⟨i, _, rfl⟩ := List.mem_map.1 hy
    simp only [id] at hxy
    obtain ⟨o, ho, hc⟩ := Option.bind_eq_some_iff.1 hxy
    have hid : x.id = i ∧ x.pre = maskList ops.size (((befM ops.toList)[i]?).getD 0) := by
      unfold cOper at hc
      split at hc
      · split at hc
        · split at hc
          · simp only [Option.some.injEq] at hc; subst hc; exact ⟨rfl, rfl⟩
          · split at hc
            · split at hc
              · simp only [Option.some.injEq] at hc; subst hc; exact ⟨rfl, rfl⟩
              · cases hc
            · cases hc
        · cases hc
      · cases hc
    refine ⟨o, by rw [hid.1]; exact ho, by rw [hid.1, hid.2]; exact hc⟩
  · cases h
theorem sim_draw (hS : SimCall P call) {ops : Array Oper} (hF : WideF F) (hmix : P.follows .mixedOrders = true) {Q : Exit → Act → World → Prop} {os : List AOper} {e' : Env} {id : Nat} (hok : drawOk ops os = true)
    (hmem : ∀ x ∈ os, ∃ o, ops[x.id]? = some o ∧ cOper P a.tmps.size ops x.id x.pre o = some x) (h : adraw call os e H = some (e', H'))
    (hr : Rel P base m H w) (he : EnvR m e a.tmps) (hq : ∀ m' a' w', Rel P base m' H' w' → Ext m H w m' H' w' → EnvR m' e' a'.tmps → a'.tmps.size = a.tmps.size → a'.defers = a.defers → Q .normal a' w') :
    (Code.region id ops true).wpIn F n P Q a w := by
  unfold adraw at h
  split at h
  · rename_i L e1 H1 hL
    split at h
    · rename_i hstab
      simp only [Option.some.injEq, Prod.mk.injEq] at h
      obtain ⟨rfl, rfl⟩ := h
      obtain ⟨hch, hmap⟩ := aopsT_chain hL
      have hst := stat_of hok hmem hch hmap hstab
      refine wpIn_region_any hmix ?_
      have hr1 : Rel P base m H { w with drawn := w.drawn + 1 } := hr.drew rfl
      obtain ⟨A, R, hi⟩ := Inv.start (a := a) hst hr1 he rfl
      refine draw_go (w0 := { w with drawn := w.drawn + 1 }) hS hF hst (a0 := a) (fun m' a' w' q1 q2 q3 q4 q5 => hq m' a' w' q1 ((Ext.drew (w := w) (w' := { w with drawn := w.drawn + 1 }) rfl).trans q2) q3 q4 q5) _ _ _ _ _ _ _ hi rfl ?_
      have h1 : undone (Array.replicate ops.size false) L ≤ L.length := List.countP_le_length
      have h2 : L.length ≤ ops.size := stat_short hst
      omega
    · cases h
  · cases h
end
end Go.AM
namespace Go.AM
section
variable {P : Program} {base : Array Obj} {m : CM} {H H' : AH} {w : World} {nt : Nat} {e : Env} {a : Act} {v : AV} {F : Fence} {n : Nat}
theorem stepR_scope {b : Frame} {k : List Item} {cs : List Frame} {c : Code} : step P (lone (b.atR a (.code (.scope c) :: k)) cs w) = .next (lone (b.atR a (.code c :: .inScope c :: k)) cs w) :=
  step_lone_go (by simp [stepG, stepG.exec, Frame.atR])
theorem stepR_inScope {b : Frame} {k : List Item} {cs : List Frame} {c : Code} : step P (lone (b.atR a (.inScope c :: k)) cs w) = .next (lone (b.atR a k) cs w) :=
  step_lone_go (by simp [stepG, stepG.exec, Frame.atR])
theorem wpIn_scope {c : Code} {Q : Exit → Act → World → Prop} (h : c.wpIn F n P (fun e a w => (∀ l, e ≠ .goto l) ∧ Q e a w) a w) : (Code.scope c).wpIn F n P Q a w := by
  intro b k cs hro hb hr
  have h0 : (lone (b.atR a (.code (.scope c) :: k)) cs w).fenced P F := fenced_calm hb hr rfl
  obtain ⟨e, a₁, w₁, ⟨hng, hq⟩, harr⟩ := h b (.inScope c :: k) cs hro hb hr
  cases e with
  | normal => exact ⟨.normal, a₁, w₁, hq, .head h0 stepR_scope (StepsIn.trans harr (.one (fenced_calm hb hr rfl) stepR_inScope))⟩
  | exit id =>
    have hx : exitTo id (.inScope c :: k) = exitTo id k := by simp [exitTo]
    exact ⟨.exit id, a₁, w₁, hq, fun k' hk => .head h0 stepR_scope (harr.1 k' (by rw [hx]; exact hk)), fun hr' hk => let ⟨k₁, h1, h2⟩ := harr.2 hr' (by rw [hx]; exact hk); ⟨k₁, h1, .head h0 stepR_scope h2⟩⟩
  | goto l => exact absurd rfl (hng l)
  | ret => exact ⟨_, a₁, w₁, hq, .of_steps (.one h0 stepR_scope) harr⟩
  | panic ch => exact ⟨_, a₁, w₁, hq, .of_steps (.one h0 stepR_scope) harr⟩
  | outgrown => exact ⟨_, a₁, w₁, hq, .of_steps (b := b) (k := k) (cs := cs) (e := .outgrown) (.one h0 stepR_scope) harr⟩
def ExitR : AExit → Exit → Prop
  | .normal, .normal => True
  | .ret, .ret => True
  | .exit id, .exit id' => id = id'
  | _, _ => False
def markOf (r : Nat) : Deferred := { target := .collected r, args := #[] }
def MarksR (N : Nat) (m : CM) (w : World) (rs : List Nat) : Prop := rs.Nodup ∧ ∀ r ∈ rs, N ≤ r ∧ r < w.heap.size ∧ Free m r ∧ w.heap[r]? = some (.deferred (some []))
theorem MarksR.ext {N : Nat} {m' : CM} {w' : World} {rs : List Nat} (h : MarksR N m w rs) (hx : Ext m H w m' H' w') : MarksR N m' w' rs :=
  ⟨h.1, fun r hr => by
    obtain ⟨h1, h2, h3, h4⟩ := h.2 r hr
    obtain ⟨h5, h6⟩ := hx.free r h2 h3
    exact ⟨h1, Nat.lt_of_lt_of_le h2 hx.heap, h5, h6.trans h4⟩⟩
structure Left (P : Program) (base : Array Obj) (m : CM) (H : AH) (w : World) (nt : Nat) (ds : List Deferred) (x : AExit) (e' : Env) (H' : AH) (ex : Exit) (a' : Act) (w' : World) : Prop where
  exit : ExitR x ex
  rest : ∃ m', Rel P base m' H' w' ∧ Ext m H w m' H' w' ∧ EnvR m' e' a'.tmps ∧ a'.tmps.size = nt ∧ ∃ rs, a'.defers = rs.map markOf ++ ds ∧ MarksR w.heap.size m' w' rs
theorem Left.mono {m1 : CM} {H1 : AH} {w1 : World} {ds : List Deferred} {rs : List Nat} {x : AExit} {e' : Env} {ex : Exit} {a' : Act} {w' : World} (hx : Ext m H w m1 H1 w1) (hm : MarksR w.heap.size m1 w1 rs) (h : Left P base m1 H1 w1 nt (rs.map markOf ++ ds) x e' H' ex a' w') : Left P base m H w nt ds x e' H' ex a' w' := by
  obtain ⟨h1, m', h2, h3, h4, h5, rs', h6, h7⟩ := h
  refine ⟨h1, m', h2, hx.trans h3, h4, h5, rs' ++ rs, by rw [h6]; simp, ?_, fun r hr => ?_⟩
  · rw [List.nodup_append]
    refine ⟨h7.1, hm.1, fun r1 hr1 r2 hr2 he => ?_⟩
    have := (h7.2 r1 hr1).1
    have := (hm.2 r2 hr2).2.1
    omega
  · rw [List.mem_append] at hr
    rcases hr with hr | hr
    · obtain ⟨q1, q2⟩ := h7.2 r hr
      exact ⟨Nat.le_trans hx.heap q1, q2⟩
    · exact (hm.ext h3).2 r hr
theorem Left.here {ds : List Deferred} {x : AExit} {ex : Exit} {a' : Act} {w' : World} {m' : CM} {e' : Env} (hx : ExitR x ex) (hr : Rel P base m' H' w') (hxt : Ext m H w m' H' w') (he : EnvR m' e' a'.tmps) (hs : a'.tmps.size = nt) (hd : a'.defers = ds) : Left P base m H w nt ds x e' H' ex a' w' :=
  ⟨hx, m', hr, hxt, he, hs, [], by simpa using hd, List.nodup_nil, fun r hr => by simp at hr⟩
def RoundOk (F : Fence) (m : CM) (H : AH) : Prop := ∀ l, F.round = some l → ∃ b n, b < H.next ∧ m b = some (l, 0, n) ∧ ∃ L, H.get b = some (.loop L)
theorem RoundOk.ext {m' : CM} {w' : World} (h : RoundOk F m H) (hx : Ext m H w m' H' w') : RoundOk F m' H' := fun l hl => by
  obtain ⟨b, k, h0, h1, h2⟩ := h l hl
  exact ⟨b, k, Nat.lt_of_lt_of_le h0 hx.next, hx.le _ _ h1, hx.loops b h2 h0⟩
def SimCode (P : Program) (F : Fence) (n nt : Nat) (g : Code) (run : Env → AH → CRes) : Prop :=
  ∀ (base : Array Obj) (m : CM) (H : AH) (w : World) (e : Env) (a : Act) (x : AExit) (e' : Env) (H' : AH), run e H = some (x, e', H') → Rel P base m H w → EnvR m e a.tmps → RoundOk F m H → a.tmps.size = nt →
    g.wpIn F n P (Left P base m H w nt a.defers x e' H') a w
theorem Left.normal {ds : List Deferred} {e' : Env} {ex : Exit} {a' : Act} {w' : World} (h : Left P base m H w nt ds .normal e' H' ex a' w') : ex = .normal := by
  obtain ⟨h, _⟩ := h
  cases ex <;> first | rfl | exact h.elim
theorem sim_then {g2 : Code} {r2 : Env → AH → CRes} (h2 : SimCode P F n nt g2 r2) {ds : List Deferred} {x : AExit} {e1 : Env} {H1 : AH} (hro : RoundOk F m H) {Q : Exit → Act → World → Prop}
    (hx : x = .normal → ∀ x2 e2 H2, r2 e1 H1 = some (x2, e2, H2) → ∀ ex a w', Left P base m H w nt ds x2 e2 H2 ex a w' → Q ex a w') (hsome : x = .normal → ∃ r, r2 e1 H1 = some r)
    (hnx : x ≠ .normal → ∀ ex a w', Left P base m H w nt ds x e1 H1 ex a w' → Q ex a w') {ex : Exit} {a1 : Act} {w1 : World} (hl : Left P base m H w nt ds x e1 H1 ex a1 w1) :
    Exit.then (fun a' w' => g2.wpIn F n P Q a' w') Q ex a1 w1 := by
  cases x with
  | normal =>
    obtain rfl := hl.normal
    obtain ⟨⟨x2, e2, H2⟩, hr2⟩ := hsome rfl
    obtain ⟨_, m1, q1, q2, q3, q4, rs, q5, q6⟩ := hl
    have := h2 base m1 H1 w1 e1 a1 x2 e2 H2 hr2 q1 q3 (hro.ext q2) q4
    refine wpIn_mono this fun ex' a' w' hl' => hx rfl x2 e2 H2 hr2 ex' a' w' ?_
    rw [q5] at hl'
    exact hl'.mono q2 q6
  | exit i =>
    have hq := hnx (by simp) ex a1 w1 hl
    obtain ⟨hxr, _⟩ := hl
    cases ex <;> first | exact hq | exact hxr.elim
  | ret =>
    have hq := hnx (by simp) ex a1 w1 hl
    obtain ⟨hxr, _⟩ := hl
    cases ex <;> first | exact hq | exact hxr.elim
theorem sim_loop {g : Code} {r : Env → AH → CRes} (hg : SimCode P F n nt g r) : ∀ (k : Nat), SimCode P F n nt (.loop g) (aloop k r) := by
  intro k base m H w e a x e' H' h hr he hro hnt
  intro b kk cs hb1 hb2 hb3
  have key : ∀ (k : Nat) (m : CM) (H : AH) (w : World) (e : Env) (a : Act), aloop k r e H = some (x, e', H') → Rel P base m H w → EnvR m e a.tmps → RoundOk F m H → a.tmps.size = nt →
      ∃ ex a' w', Left P base m H w nt a.defers x e' H' ex a' w' ∧ ArrivesIn (Machine.fenced P F) P (lone (b.atR a (.code g :: .inLoop g :: kk)) cs w) b kk cs ex a' w' := by
    intro k
    induction k with
    | zero => intro m H w e a h; simp [aloop] at h
    | succ k ih =>
      intro m H w e a h hr he hro hnt
      simp only [aloop] at h
      cases hre : r e H with
      | none => simp [hre] at h
      | some res =>
        obtain ⟨x1, e1, H1⟩ := res
        obtain ⟨ex, a1, w1, hl, harr⟩ := hg base m H w e a x1 e1 H1 hre hr he hro hnt b (.inLoop g :: kk) cs hb1 hb2 hb3
        cases x1 with
        | normal =>
          simp only [hre] at h
          obtain rfl := hl.normal
          obtain ⟨_, m1, q1, q2, q3, q4, rs, q5, q6⟩ := hl
          obtain ⟨ex2, a2, w2, hl2, harr2⟩ := ih m1 H1 w1 e1 a1 h q1 q3 (hro.ext q2) q4
          rw [q5] at hl2
          exact ⟨ex2, a2, w2, hl2.mono q2 q6, .of_steps (StepsIn.trans harr (.one (fenced_calm hb2 hb3 rfl) stepR_inLoop)) harr2⟩
        | exit i =>
          simp only [hre, Option.some.injEq, Prod.mk.injEq] at h
          obtain ⟨rfl, rfl, rfl⟩ := h
          obtain ⟨hxr, hrest⟩ := hl
          cases ex <;> first | exact hxr.elim | exact ⟨_, a1, w1, ⟨hxr, hrest⟩, .pass (x := .inLoop g) rfl (fun _ _ => .inl (by simp)) harr⟩
        | ret =>
          simp only [hre, Option.some.injEq, Prod.mk.injEq] at h
          obtain ⟨rfl, rfl, rfl⟩ := h
          obtain ⟨hxr, hrest⟩ := hl
          cases ex <;> first | exact hxr.elim | exact ⟨_, a1, w1, ⟨hxr, hrest⟩, .pass (x := .inLoop g) rfl (fun _ _ => .inl (by simp)) harr⟩
  obtain ⟨ex, a', w', hl, harr⟩ := key k m H w e a h hr he hro hnt
  exact ⟨ex, a', w', hl, .of_steps (.one (fenced_calm hb2 hb3 rfl) stepR_loop) harr⟩
theorem Rel.allocFree (h : Rel P base m H w) (o : Obj) : Rel P base m H (w.alloc o) ∧ Ext m H w m H (w.alloc o) := by
  refine ⟨⟨fun c hc => ?_, ?_, h.top, fun b c o' n hb => ?_, h.inj⟩, ⟨leR m, Nat.le_refl _, by simp, fun c hc hf => ⟨hf, alloc_get_ne _ _ (by omega)⟩, fun _ _ h => ⟨h, rfl⟩, fun _ h _ => h, rfl, rfl⟩⟩
  · rw [alloc_get_ne _ _ (by have := h.size; omega), h.old c hc]
  · have := h.size; simp; omega
  · obtain ⟨h1, h2⟩ := h.blk b c o' n hb
    exact ⟨by simp; omega, h2.mono (leR m) (alloc_get_ne _ _ (by omega))⟩
theorem Rel.putFree (h : Rel P base m H w) {r : Nat} (o : Obj) (hf : Free m r) (hN : base.size ≤ r) : Rel P base m H (w.putObj r o) := by
  refine ⟨fun c hc => ?_, by simpa using h.size, h.top, fun b c o' n hb => ?_, h.inj⟩
  · rw [World.putObj_heap_other (by omega), h.old c hc]
  · obtain ⟨h1, h2⟩ := h.blk b c o' n hb
    exact ⟨by simpa using h1, h2.mono (leR m) (World.putObj_heap_other (fun e => by subst e; exact hf b o' n hb))⟩
theorem run_enterLoop_inner {l : Nat} {r : Loop} (h : w.heap[l]? = some (.loop r)) (fn : FuncId) (tmps : Array Value) (ps : Array Tmp) (assign body : Code) :
    (Instr.enterLoop fn tmps ps assign body (some l)).run P w = .ok (w.heap.size, []) (w.alloc (.loop { state := .ready, pending := none, fn, tmps, params := ps, assign, body, defers := r.defers })) := by
  unfold Instr.enterLoop
  simp only [Sem.run_bind, run_getLoop h, Result.andThen_ok, Sem.run_pure, run_newObj, World.alloc_eq]
theorem sim_range {call : ACall} (hS : SimCall P call) {k : Nat} {g : Operand} {ps : Array Tmp} {ga gb : Code} {f : AOpd} {ca cb : ACode} {kp : List Nat} (hF : WideF F) (hg : cOpd nt g = some f) (ha : cCode P nt kp ga = some ca) (hb : cCode P nt kp gb = some cb) (hps : ps.all (· < nt) = true) :
    SimCode P F n nt (.rangeFunc g ps ga gb) (code call k (.range f ps.toList ca cb)) := by
  intro base m H w e a x e' H' h hr he hro hnt
  simp only [code] at h
  split at h
  · rename_i fg first captured hfv
    split at h
    · rename_i v2 H2 hcall
      split at h
      · rename_i L hL
        split at h
        · simp at h
        · rename_i hnb
          simp only [Option.some.injEq, Prod.mk.injEq] at h
          obtain ⟨rfl, rfl, rfl⟩ := h
          have hgv := opd_vr he hg hfv
          refine wpIn_rangeFunc fun fn _ => ?_
          have lay : ∀ (w0 : World) (rs : List Nat) (dfr : Nat), Rel P base m H w0 → Ext m H w m H w0 → MarksR w.heap.size m w0 rs →
              (Instr.enterLoop fn a.tmps ps ga gb F.round).run P w = .ok (w0.heap.size, rs.map markOf) (w0.alloc (.loop { state := .ready, pending := none, fn, tmps := a.tmps, params := ps, assign := ga, body := gb, defers := dfr })) →
              ∃ (l : Nat) (mark : List Deferred) (w₁ : World) (d : Deferred) (w₁' : World) (f : FuncId) (args : Array Value) (w₂ : World),
                (Instr.enterLoop fn a.tmps ps ga gb F.round).run P w = .ok (l, mark) w₁ ∧ (resolve a.eval (rangeCall g l) 0).run P w₁ = .ok d w₁' ∧ (∀ f', Target.leads P w₁' d.target d.args = some f' → F.fn f') ∧
                (invoke d.target d.args).run P w₁' = .ok (.enter f args) w₂ ∧ (F.depth.isSome = true → 1 ≤ n) ∧
                CallsIn F (n - 1) P f args w₂ (rangePost F n P l (Left P base m H w nt a.defers L.pending e (H2.set H.next (.loop { L with state := .over }))) { a with defers := mark ++ a.defers }) := by
            intro w0 rs dfr hr0 hx0 hmk henter
            have hlo : ∀ m', CM.le m m' → ObjR P base.size m' (some (.loop { state := .ready, pending := .normal, env := e, params := ps.toList, assign := ca, body := cb })) w0.heap.size 0 0 (w0.heap.push (.loop { state := .ready, pending := none, fn, tmps := a.tmps, params := ps, assign := ga, body := gb, defers := dfr })) := fun m' hm' => by
              refine ⟨hr0.size, rfl, { state := .ready, pending := none, fn, tmps := a.tmps, params := ps, assign := ga, body := gb, defers := dfr }, by simp, ⟨trivial, trivial, he.mono hm', rfl, fun t ht => ?_, ⟨kp, ?_⟩, ⟨kp, ?_⟩⟩⟩
              · have hlt : t < nt := by simpa using Array.all_eq_true_iff_forall_mem.1 hps t (by simpa using ht)
                show t < a.tmps.size
                rw [hnt]; exact hlt
              · show cCode P a.tmps.size kp ga = some ca
                rw [hnt]; exact ha
              · show cCode P a.tmps.size kp gb = some cb
                rw [hnt]; exact hb
            obtain ⟨r1, x1⟩ := hr0.alloc hlo
            have hty : VR (CM.add m H.next (w0.heap.size, 0, 0)) (.yield H.next) (.func (.yield w0.heap.size) #[] #[]) := .yield (CM.add_same _ _ _)
            have hcv := hS base _ _ _ _ _ _ [.func (.yield w0.heap.size) #[] #[]] v2 H2 F.plain (n - 1) hF.plain rfl hcall r1 (hgv.mono (leT hx0.le x1.le)) (.cons hty .nil)
            have hgf : ∃ us vs, a.eval g = .func (.func fg) us vs := by
              cases hq : a.eval g <;> rw [hq] at hgv <;> cases hgv
              exact ⟨_, _, rfl⟩
            obtain ⟨us, vs, hgf⟩ := hgf
            rw [hgf] at hcv
            obtain ⟨⟨fn2, f1, f2, f3⟩, hcalls⟩ := hcv
            have hbn : fn2.body.isNone = false := by
              cases hbd : fn2.body with
              | none => rw [hbd] at f2; simp at f2
              | some _ => rfl
            have hev : a.eval (Operand.const (.func (.yield w0.heap.size) #[] #[])) = .func (.yield w0.heap.size) #[] #[] := rfl
            refine ⟨w0.heap.size, rs.map markOf, w0.alloc (.loop { state := .ready, pending := none, fn, tmps := a.tmps, params := ps, assign := ga, body := gb, defers := dfr }), { target := .fn (.func fg) vs, args := us ++ #[.func (.yield w0.heap.size) #[] #[]] }, w0.alloc (.loop { state := .ready, pending := none, fn, tmps := a.tmps, params := ps, assign := ga, body := gb, defers := dfr }), fg, us ++ #[.func (.yield w0.heap.size) #[] #[]] ++ vs, w0.alloc (.loop { state := .ready, pending := none, fn, tmps := a.tmps, params := ps, assign := ga, body := gb, defers := dfr }), henter, ?_, fun g' _ => hF.fn g', ?_, fun hd => by rw [hF.depth] at hd; simp at hd, ?_⟩
            · simp only [resolve, rangeCall, List.map_toArray, List.map_cons, List.map_nil, hev, hgf, Deferred.ofValue, Sem.run_pure]
            · simp only [invoke, callFunc, Sem.run_bind, run_program, Result.andThen_ok, f1, f3, hbn, Bool.false_eq_true, if_false, Sem.run_pure]
            · refine CallsIn.mono hcalls ?_
              rintro e3 w3 ⟨u3, m3, rfl, hv3, hr3, hx3⟩
              have hm3 : m3 H.next = some (w0.heap.size, 0, 0) := hx3.le _ _ (CM.add_same _ _ _)
              obtain ⟨hc3, ho3⟩ := hr3.blk _ _ _ _ hm3
              rw [hL] at ho3
              obtain ⟨hN, _, L', hL', hLR⟩ := ho3
              have hstate : L'.state ≠ .busy := fun hq => by
                have := hLR.state
                rw [hq] at this
                cases hls : L.state <;> rw [hls] at this <;> first | exact this.elim | exact hnb hls
              obtain ⟨r4, x4⟩ := hr3.turn (w' := w3.putObj w0.heap.size (.loop { L' with state := .exhausted })) hm3 ⟨_, hL, rfl⟩ hN (fun k hk => World.putObj_heap_other hk) (by simp) (oA := .loop { L with state := .over })
                ⟨hN, rfl, { L' with state := .exhausted }, World.putObj_heap_same hc3, ⟨trivial, hLR.pending, hLR.env, hLR.params, hLR.below, hLR.assign, hLR.body⟩⟩ (fun _ _ => ⟨_, rfl⟩)
              have hxall : Ext m H w m3 (H2.set H.next (.loop { L with state := .over })) (w3.putObj w0.heap.size (.loop { L' with state := .exhausted })) := ((hx0.trans x1).trans hx3).trans x4
              have hmk4 : MarksR w.heap.size m3 (w3.putObj w0.heap.size (.loop { L' with state := .exhausted })) rs := hmk.ext ((x1.trans hx3).trans x4)
              have hleft : ∀ ex, ExitR L.pending ex → Left P base m H w nt a.defers L.pending e (H2.set H.next (.loop { L with state := .over })) ex { a with defers := rs.map markOf ++ a.defers } (w3.putObj w0.heap.size (.loop { L' with state := .exhausted })) := fun ex hex =>
                ⟨hex, m3, r4, hxall, he.mono hxall.le, hnt, rs, rfl, hmk4⟩
              refine ⟨L'.pending, _, run_endLoop hL' hstate, ?_⟩
              have hpd := hLR.pending
              clear r4 x4 hxall hmk4
              generalize w3.putObj w0.heap.size (.loop { L' with state := .exhausted }) = W4 at hleft ⊢
              generalize H2.set H.next (.loop { L with state := .over }) = H4 at hleft ⊢
              generalize L'.pending = pd' at hpd ⊢
              generalize L.pending = pd at hpd hleft ⊢
              cases pd with
              | normal =>
                cases pd' with
                | none => exact hleft .normal trivial
                | some c => exact hpd.elim
              | ret =>
                cases pd' with
                | none => exact hpd.elim
                | some c => cases c <;> first | exact hpd.elim | exact wpIn_ret (hleft .ret trivial)
              | exit i =>
                cases pd' with
                | none => exact hpd.elim
                | some c => cases c <;> first | exact hpd.elim | exact wpIn_exit (hleft (.exit _) hpd)
          cases hrd : F.round with
          | none =>
            obtain ⟨r0, x0⟩ := hr.allocFree (.deferred (some []))
            have := lay (w.alloc (.deferred (some []))) [w.heap.size] w.heap.size r0 x0 ⟨by simp, fun r hrr => by
              simp only [List.mem_singleton] at hrr
              subst hrr
              refine ⟨Nat.le_refl _, by simp, fun b o' n' hb' => ?_, World.alloc_heap_new _ _⟩
              have := (hr.blk _ _ _ _ hb').1
              omega⟩ (by rw [hrd]; simpa [markOf] using run_enterLoop_outer (P := P) (w := w) fn a.tmps ps ga gb)
            rw [hrd] at this
            exact this
          | some l0 =>
            obtain ⟨b0, n0, _, hb0, L0, hL0⟩ := hro l0 hrd
            obtain ⟨_, ho0⟩ := hr.blk _ _ _ _ hb0
            rw [hL0] at ho0
            obtain ⟨_, _, L0', hL0', _⟩ := ho0
            have := lay w [] L0'.defers hr (Ext.refl _ _ _) ⟨List.nodup_nil, fun r hrr => by simp at hrr⟩ (by rw [hrd]; exact run_enterLoop_inner hL0' fn a.tmps ps ga gb)
            rw [hrd] at this
            exact this
      · simp at h
    · simp at h
  · simp at h
theorem sim_code {call : ACall} (hS : SimCall P call) (hmix : P.follows .mixedOrders = true) (k : Nat) (kp : List Nat) (nt : Nat) : ∀ (g : Code) (c : ACode), cCode P nt kp g = some c → ∀ (F : Fence) (n : Nat), WideF F → SimCode P F n nt g (code call k c)
  | .skip, c, hc, F, n, hF => by
    simp only [cCode, Option.some.injEq] at hc; subst hc
    intro base m H w e a x e' H' h hr he hro hnt
    simp only [code, Option.some.injEq, Prod.mk.injEq] at h
    obtain ⟨rfl, rfl, rfl⟩ := h
    exact wpIn_skip (Left.here trivial hr (Ext.refl _ _ _) he hnt rfl)
  | .label l, c, hc, F, n, hF => by
    simp only [cCode, Option.some.injEq] at hc; subst hc
    intro base m H w e a x e' H' h hr he hro hnt
    simp only [code, Option.some.injEq, Prod.mk.injEq] at h
    obtain ⟨rfl, rfl, rfl⟩ := h
    exact wpIn_label (Left.here trivial hr (Ext.refl _ _ _) he hnt rfl)
  | .region id ops false, c, hc, F, n, hF => by
    simp only [cCode, Option.map_eq_some_iff] at hc
    obtain ⟨os, hos, rfl⟩ := hc
    intro base m H w e a x e' H' h hr he hro hnt
    simp only [code] at h
    split at h
    · rename_i e1 H1 hops
      simp only [Option.some.injEq, Prod.mk.injEq] at h
      obtain ⟨rfl, rfl, rfl⟩ := h
      refine wpIn_region ?_
      rw [List.range_eq_range']
      have := sim_ops (n := n) hS hF (Q := Left P base m H w nt a.defers .normal (e1.keep kp) H1) os 0 e H m a w e1 H1 (by rw [hnt]; simpa using hos) hops hr he (fun m' a' w' q1 q2 q3 q4 q5 => Left.here trivial q1 q2 (q3.keep kp) (by rw [q4, hnt]) q5)
      simpa using this
    · simp at h
  | .region id ops true, c, hc, F, n, hF => by
    simp only [cCode] at hc
    split at hc
    · rename_i os hos
      split at hc
      · rename_i hok
        simp only [Option.some.injEq] at hc; subst hc
        intro base m H w e a x e' H' h hr he hro hnt
        simp only [code] at h
        split at h
        · rename_i e1 H1 hops
          simp only [Option.some.injEq, Prod.mk.injEq] at h
          obtain ⟨rfl, rfl, rfl⟩ := h
          exact sim_draw hS hF hmix hok (by rw [hnt]; exact cDraw_mem hos) hops hr he (fun m' a' w' q1 q2 q3 q4 q5 => Left.here trivial q1 q2 (q3.keep kp) (by rw [q4, hnt]) q5)
        · simp at h
      · simp at hc
    · simp at hc
  | .seq g1 g2, c, hc, F, n, hF => by
    simp only [cCode] at hc
    split at hc
    · rename_i c1 c2 h1 h2
      simp only [Option.some.injEq] at hc; subst hc
      intro base m H w e a x e' H' h hr he hro hnt
      simp only [code] at h
      have s1 := sim_code hS hmix k kp nt g1 c1 h1 F n hF
      have s2 := sim_code hS hmix k kp nt g2 c2 h2 F n hF
      refine wpIn_seq ?_
      cases hr1 : code call k c1 e H with
      | none => simp [hr1] at h
      | some r1 =>
        obtain ⟨x1, e1, H1⟩ := r1
        refine wpIn_mono (s1 base m H w e a x1 e1 H1 hr1 hr he hro hnt) fun ex a1 w1 hl => ?_
        refine sim_then s2 hro ?_ ?_ ?_ hl
        · intro hx x2 e2 H2 hr2 ex' a' w' hl'
          subst hx
          simp only [hr1] at h
          rw [hr2] at h
          simp only [Option.some.injEq, Prod.mk.injEq] at h
          obtain ⟨rfl, rfl, rfl⟩ := h
          exact hl'
        · intro hx
          subst hx
          simp only [hr1] at h
          exact ⟨_, h⟩
        · intro hx ex' a' w' hl'
          cases x1 with
          | normal => exact absurd rfl hx
          | exit i =>
            simp only [hr1, Option.some.injEq, Prod.mk.injEq] at h
            obtain ⟨rfl, rfl, rfl⟩ := h
            exact hl'
          | ret =>
            simp only [hr1, Option.some.injEq, Prod.mk.injEq] at h
            obtain ⟨rfl, rfl, rfl⟩ := h
            exact hl'
    · simp at hc
  | .cond o g1 g2, c, hc, F, n, hF => by
    simp only [cCode] at hc
    split at hc
    · rename_i p c1 c2 hp h1 h2
      simp only [Option.some.injEq] at hc; subst hc
      intro base m H w e a x e' H' h hr he hro hnt
      simp only [code] at h
      split at h
      · rename_i t ht
        have hv := opd_vr he hp ht
        have hval : a.eval o = .bool t := by
          cases hq : a.eval o <;> rw [hq] at hv <;> cases hv
          rfl
        refine wpIn_cond hval ?_
        cases t with
        | true => exact sim_code hS hmix k kp nt g1 c1 h1 F n hF base m H w e a x e' H' (by simpa using h) hr he hro hnt
        | false => exact sim_code hS hmix k kp nt g2 c2 h2 F n hF base m H w e a x e' H' (by simpa using h) hr he hro hnt
      · simp at h
    · simp at hc
  | .block id g1, c, hc, F, n, hF => by
    simp only [cCode, Option.map_eq_some_iff] at hc
    obtain ⟨c1, h1, rfl⟩ := hc
    intro base m H w e a x e' H' h hr he hro hnt
    simp only [code] at h
    refine wpIn_block ?_
    cases hr1 : code call k c1 e H with
    | none => simp [hr1] at h
    | some r1 =>
      obtain ⟨x1, e1, H1⟩ := r1
      refine wpIn_mono (sim_code hS hmix k kp nt g1 c1 h1 F n hF base m H w e a x1 e1 H1 hr1 hr he hro hnt) fun ex a1 w1 hl => ?_
      obtain ⟨hxr, hrest⟩ := hl
      cases x1 with
      | normal =>
        simp only [hr1, Option.some.injEq, Prod.mk.injEq] at h
        obtain ⟨rfl, rfl, rfl⟩ := h
        cases ex <;> first | exact hxr.elim | exact ⟨hxr, hrest⟩
      | ret =>
        simp only [hr1, Option.some.injEq, Prod.mk.injEq] at h
        obtain ⟨rfl, rfl, rfl⟩ := h
        cases ex <;> first | exact hxr.elim | exact ⟨hxr, hrest⟩
      | exit i =>
        simp only [hr1] at h
        cases ex <;> try exact hxr.elim
        rename_i j
        obtain rfl : i = j := hxr
        simp only [Exit.inBlock]
        split at h
        · rename_i hid
          simp only [Option.some.injEq, Prod.mk.injEq] at h
          obtain ⟨rfl, rfl, rfl⟩ := h
          rw [if_pos hid]
          exact ⟨trivial, hrest⟩
        · rename_i hid
          simp only [Option.some.injEq, Prod.mk.injEq] at h
          obtain ⟨rfl, rfl, rfl⟩ := h
          rw [if_neg hid]
          exact ⟨rfl, hrest⟩
  | .loop g1, c, hc, F, n, hF => by
    simp only [cCode, Option.map_eq_some_iff] at hc
    obtain ⟨c1, h1, rfl⟩ := hc
    exact sim_loop (sim_code hS hmix k kp nt g1 c1 h1 F n hF) k
  | .scope g1, c, hc, F, n, hF => by
    simp only [cCode] at hc
    intro base m H w e a x e' H' h hr he hro hnt
    refine wpIn_scope (wpIn_mono (sim_code hS hmix k kp nt g1 c hc F n hF base m H w e a x e' H' h hr he hro hnt) fun ex a' w' hl => ⟨fun l hl' => ?_, hl⟩)
    subst hl'
    obtain ⟨hxr, _⟩ := hl
    cases x <;> exact hxr
  | .rangeFunc g ps ga gb, c, hc, F, n, hF => by
    simp only [cCode] at hc
    split at hc
    · rename_i f ca cb hg ha hb
      split at hc
      · rename_i hps
        simp only [Option.some.injEq] at hc; subst hc
        exact sim_range hS hF hg ha hb hps
      · simp at hc
    · simp at hc
  | .exit id, c, hc, F, n, hF => by
    simp only [cCode, Option.some.injEq] at hc; subst hc
    intro base m H w e a x e' H' h hr he hro hnt
    simp only [code, Option.some.injEq, Prod.mk.injEq] at h
    obtain ⟨rfl, rfl, rfl⟩ := h
    exact wpIn_exit (Left.here rfl hr (Ext.refl _ _ _) he hnt rfl)
  | .ret, c, hc, F, n, hF => by
    simp only [cCode, Option.some.injEq] at hc; subst hc
    intro base m H w e a x e' H' h hr he hro hnt
    simp only [code, Option.some.injEq, Prod.mk.injEq] at h
    obtain ⟨rfl, rfl, rfl⟩ := h
    exact wpIn_ret (Left.here trivial hr (Ext.refl _ _ _) he hnt rfl)
  | .goto l, c, hc, F, n, hF => by simp [cCode] at hc
  | .refuse s, c, hc, F, n, hF => by simp [cCode] at hc
end
end Go.AM
namespace Go.AM
section
variable {P : Program} {base : Array Obj} {m : CM} {H H' : AH} {w : World} {nt : Nat} {e : Env} {a : Act} {v : AV} {F : Fence} {n : Nat}
theorem envFrom_get : ∀ (i : Nat) (vs : List AV) (k : Nat), (envFrom i vs).get k = if i ≤ k then vs[k - i]? else none
  | i, [], k => by simp [envFrom, Env.get]
  | i, v :: vs, k => by
    simp only [envFrom, Env.get, envFrom_get (i + 1) vs k]
    by_cases h : i = k
    · subst h; simp
    · rw [if_neg h]
      by_cases h2 : i ≤ k
      · rw [if_pos (by omega), if_pos h2, show k - i = (k - (i + 1)) + 1 from by omega, List.getElem?_cons_succ]
      · rw [if_neg (by omega), if_neg h2]
theorem env_enter {vs : List AV} {us : List Value} (h : VRs m vs us) : EnvR m (envFrom 0 vs) (us.toArray ++ Array.replicate (nt - us.toArray.size) undef) := fun t v hv => by
  rw [envFrom_get, if_pos (Nat.zero_le _), Nat.sub_zero] at hv
  obtain ⟨u, h1, h2⟩ := VRs.get h t v hv
  have hlt : t < us.length := by
    rcases Nat.lt_or_ge t us.length with h | h
    · exact h
    · rw [List.getElem?_eq_none h] at h1; simp at h1
  refine ⟨by simp; omega, ?_⟩
  have : (us.toArray ++ Array.replicate (nt - us.toArray.size) undef).getD t undef = u := by
    have h3 : (us.toArray ++ Array.replicate (nt - us.toArray.size) undef)[t]? = some u := by
      rw [Array.getElem?_append_left (by simpa using hlt)]; simpa using h1
    rw [Array.getD_eq_getD_getElem?, h3]; rfl
  rw [this]; exact h2
theorem bindAll_env : ∀ (ts : List Nat) (vs : List AV) (us : List Value) (e : Env) (tmps : Array Value), VRs m vs us → EnvR m e tmps → (∀ t ∈ ts, t < tmps.size) → vs.length = ts.length →
    EnvR m (bindAll e ts vs) ((ts.zip us).foldl (fun tmps (p : Nat × Value) => tmps.setIfInBounds p.1 p.2) tmps) ∧ ((ts.zip us).foldl (fun tmps (p : Nat × Value) => tmps.setIfInBounds p.1 p.2) tmps).size = tmps.size
  | [], vs, us, e, tmps, hv, he, hb, hl => by
    cases vs with
    | nil => exact ⟨he, rfl⟩
    | cons => simp at hl
  | t :: ts, vs, us, e, tmps, hv, he, hb, hl => by
    cases hv with
    | nil => simp at hl
    | cons h1 h2 =>
      simp only [bindAll, List.zip_cons_cons, List.foldl_cons]
      obtain ⟨q1, q2⟩ := bindAll_env ts _ _ _ _ h2 (he.put (hb t (by simp)) h1) (fun t' ht' => by simpa using hb t' (by simp [ht'])) (by simpa using hl)
      exact ⟨q1, by rw [q2]; simp⟩
theorem results_list (hr : Rel P base m H w) (he : EnvR m e a.tmps) : ∀ (rs : List ResultVar) (ars : List ARes) (vs : List AV), cRes P a.tmps.size rs = some ars → resVals e H ars = some vs →
    ∃ us, VRs m vs us ∧ (rs.mapM fun r => (match r with
      | .tmp t => pure (a.tmps.getD t undef)
      | .cell b t => do loadVar t (← asAddr (a.tmps.getD b undef)) : Sem Value)).run P w = .ok us w
  | [], ars, vs, hc, h => by
    simp only [cRes, Option.some.injEq] at hc; subst hc
    simp only [resVals, Option.some.injEq] at h; subst h
    exact ⟨[], .nil, by simp⟩
  | .tmp t :: rs, ars, vs, hc, h => by
    simp only [cRes] at hc
    split at hc
    · simp only [Option.map_eq_some_iff] at hc
      obtain ⟨ars', hc', rfl⟩ := hc
      simp only [resVals] at h
      split at h
      · rename_i v hv
        split at h
        · rename_i vs' hvs
          simp only [Option.some.injEq] at h; subst h
          obtain ⟨us, h1, h2⟩ := results_list hr he rs ars' vs' hc' hvs
          refine ⟨_, .cons (he t v hv).2 h1, ?_⟩
          rw [List.mapM_cons]
          simp only [Sem.run_bind, Sem.run_pure, Result.andThen_ok, h2]
        · simp at h
      · simp at h
    · simp at hc
  | .cell b t :: rs, ars, vs, hc, h => by
    simp only [cRes] at hc
    split at hc
    · split at hc
      · rename_i k hg hk
        simp only [Option.map_eq_some_iff] at hc
        obtain ⟨ars', hc', rfl⟩ := hc
        simp only [resVals] at h
        split at h
        · rename_i v hv
          split at h
          · rename_i vs' hvs
            simp only [Option.some.injEq] at h; subst h
            obtain ⟨us, h1, h2⟩ := results_list hr he rs ars' vs' hc' hvs
            split at hv
            · rename_i bb ii hgb
              split at hv
              · rename_i cs hread
                simp only [Option.some.injEq] at hv; subst hv
                obtain ⟨_, hpv⟩ := he b _ hgb
                cases hq : a.tmps.getD b undef <;> rw [hq] at hpv <;> cases hpv
                rename_i c o k' hmb
                obtain ⟨ls, h3, h4⟩ := hr.loadCells hmb hread
                refine ⟨_, .cons (.agg h3) h1, ?_⟩
                have hone : (do loadVar t (← asAddr (a.tmps.getD b undef)) : Sem Value).run P w = .ok (.agg ⟨ls⟩) w := by
                  simp only [Sem.run_bind, hq, asAddr, Sem.run_pure, Result.andThen_ok, loadVar, run_isAgg' hg, if_true, run_sizeOf' hk, h4]
                rw [List.mapM_cons, Sem.run_bind]
                erw [hone]
                simp only [Result.andThen_ok, Sem.run_bind, h2, Sem.run_pure]
              · simp at hv
            · simp at hv
          · simp at h
        · simp at h
      · rename_i hg _
        simp only [Option.map_eq_some_iff] at hc
        obtain ⟨ars', hc', rfl⟩ := hc
        simp only [resVals] at h
        split at h
        · rename_i v hv
          split at h
          · rename_i vs' hvs
            simp only [Option.some.injEq] at h; subst h
            obtain ⟨us, h1, h2⟩ := results_list hr he rs ars' vs' hc' hvs
            split at hv
            · rename_i bb ii hgb
              unfold AH.read1 at hv
              split at hv
              · rename_i ro cs hgc
                obtain ⟨_, hpv⟩ := he b _ hgb
                cases hq : a.tmps.getD b undef <;> rw [hq] at hpv <;> cases hpv
                rename_i c o k' hmb
                obtain ⟨u', hu1, hu2⟩ := hr.cell hmb hgc hv
                refine ⟨_, .cons hu2 h1, ?_⟩
                have hone : (do loadVar t (← asAddr (a.tmps.getD b undef)) : Sem Value).run P w = .ok u' w := by
                  simp only [Sem.run_bind, hq, asAddr, Sem.run_pure, Result.andThen_ok, loadVar, run_isAgg' ‹aggT P t = some false›, Bool.false_eq_true, if_false, run_load_cell hu1]
                rw [List.mapM_cons, Sem.run_bind]
                erw [hone]
                simp only [Result.andThen_ok, Sem.run_bind, h2, Sem.run_pure]
              · simp at hv
            · simp at hv
          · simp at h
        · simp at h
      · simp at hc
    · simp at hc
theorem results_run (hr : Rel P base m H w) (he : EnvR m e a.tmps) {fn : Func} {ars : List ARes} {vs : List AV} (hc : cRes P a.tmps.size fn.results.toList = some ars) (h : resVals e H ars = some vs) : ∃ u, VR m (oneOf vs) u ∧ (results fn a.tmps).run P w = .ok u w := by
  obtain ⟨us, h1, h2⟩ := results_list hr he _ _ _ hc h
  unfold results
  rw [Array.mapM_eq_mapM_toList]
  cases h1 with
  | nil => exact ⟨.tuple #[], .tuple .nil, by simp only [Sem.run_bind, Sem.run_map]; erw [h2]; rfl⟩
  | cons hv t =>
    cases t with
    | nil => exact ⟨_, hv, by simp only [Sem.run_bind, Sem.run_map]; erw [h2]; rfl⟩
    | cons hv2 t2 => exact ⟨_, .tuple (.cons hv (.cons hv2 t2)), by simp only [Sem.run_bind, Sem.run_map]; erw [h2]; rfl⟩
theorem leaves_marks {fn : Func} {R : Ending → World → Prop} {N : Nat} (hN : base.size ≤ N)
    (hres : ∀ w', Rel P base m H w' → (∀ c, c < N → w'.heap[c]? = w.heap[c]?) → w'.heap.size = w.heap.size → (w'.os = w.os ∧ w'.output = w.output) → ∃ u, (results fn a.tmps).run P w' = .ok u w' ∧ R (.returned u) w') :
    ∀ (rs : List Nat) (w' : World), Rel P base m H w' → (∀ c, c < N → w'.heap[c]? = w.heap[c]?) → w'.heap.size = w.heap.size → (w'.os = w.os ∧ w'.output = w.output) → rs.Nodup → (∀ r ∈ rs, N ≤ r ∧ r < w'.heap.size ∧ Free m r ∧ w'.heap[r]? = some (.deferred (some []))) →
      LeavesInM F n P fn a.tmps R (rs.map markOf) .returning w'
  | [], w', hr, hsame, hsz, hos, _, _ => hres w' hr hsame hsz hos
  | r :: rs, w', hr, hsame, hsz, hos, hnd, hm => by
    obtain ⟨h1, h2, h3, h4⟩ := hm r (by simp)
    refine ⟨by simp, .inl ⟨r, _, rfl, run_takeDeferred h4, ?_⟩⟩
    refine leaves_marks hN hres rs _ (hr.putFree _ h3 (by omega)) (fun c hc => ?_) (by simpa using hsz) hos (List.nodup_cons.1 hnd).2 fun r' hr' => ?_
    · rw [World.putObj_heap_other (by omega)]; exact hsame c hc
    · obtain ⟨q1, q2, q3, q4⟩ := hm r' (by simp [hr'])
      refine ⟨q1, by simpa using q2, q3, ?_⟩
      rw [World.putObj_heap_other (fun e => (List.nodup_cons.1 hnd).1 (by rw [← e]; exact hr'))]; exact q4
structure ProgOk (P : Program) (prog : Nat → Option AFunc) : Prop where
  mixed : P.follows .mixedOrders = true
  funcs : ∀ f af, prog f = some af → ∃ fn, P.funcs[f]? = some fn ∧ cFunc P fn = some af ∧ (fn.name == "runtime.NumGoroutine") = false
theorem cFunc_eq {fn : Func} {af : AFunc} (h : cFunc P fn = some af) : ∃ c, fn.body = some c ∧ af.nt = fn.ntmps ∧ (∃ kp, cCode P fn.ntmps kp c = some af.body) ∧ cRes P fn.ntmps fn.results.toList = some af.res := by
  unfold cFunc at h
  split at h
  · rename_i c hc
    split at h
    · rename_i b r hb hr
      simp only [Option.some.injEq] at h; subst h
      exact ⟨c, hc, rfl, ⟨_, hb⟩, hr⟩
    · simp at h
  · simp at h
theorem sim_acallv {prog : Nat → Option AFunc} (hP : ProgOk P prog) : ∀ k, SimCall P (acallv prog k) := by
  intro k
  induction k with
  | zero => intro base m H w fv uf args us v H' F n hF hro h; simp [acallv] at h
  | succ k ih =>
    intro base m H w fv uf args us v H' F n hF hro h hr hfv hargs
    cases hfv with
    | func f hv1 hv2 =>
      rename_i first captured us1 us2
      simp only [acallv] at h
      split at h
      · rename_i af haf
        split at h
        · rename_i hlen
          obtain ⟨fn, f1, f2, f3⟩ := hP.funcs f af haf
          obtain ⟨c, g1, g2, ⟨kp, g3⟩, g4⟩ := cFunc_eq f2
          refine ⟨⟨fn, f1, by rw [g1]; rfl, f3⟩, ?_⟩
          have hall : VRs m (first ++ args ++ captured) (us1 ++ us ++ us2) := (hv1.append hargs).append hv2
          have hul := VRs.length hall
          have harr : (⟨us1⟩ ++ us.toArray ++ ⟨us2⟩ : Array Value) = (us1 ++ us ++ us2).toArray := by simp
          rw [harr]
          refine callsIn_of_wp_marks f1 g1 (hF.fn f) ?_ hro
          let a0 : Act := { tmps := (us1 ++ us ++ us2).toArray ++ Array.replicate (fn.ntmps - (us1 ++ us ++ us2).toArray.size) undef, defers := [] }
          have hsz : a0.tmps.size = fn.ntmps := by
            show ((us1 ++ us ++ us2).toArray ++ Array.replicate (fn.ntmps - (us1 ++ us ++ us2).toArray.size) undef).size = fn.ntmps
            rw [g2] at hlen
            simp only [Array.size_append, Array.size_replicate, List.size_toArray]
            omega
          have henv : EnvR m (envFrom 0 (first ++ args ++ captured)) a0.tmps := env_enter hall
          have hround : RoundOk F m H := fun l hl => by rw [hro] at hl; simp at hl
          have fin : ∀ x e2 H2, (x = .normal ∨ x = .ret) → code (acallv prog k) k af.body (envFrom 0 (first ++ args ++ captured)) H = some (x, e2, H2) → ∀ vs, resVals e2 H2 af.res = some vs → v = oneOf vs → H' = H2 →
              c.wpIn F n P (bodyPostM F n P fn (After P base m H w v H')) a0 w := by
            intro x e2 H2 hx hrun vs hvs hv hH
            subst hv; subst hH
            refine wpIn_mono (sim_code ih hP.mixed k kp fn.ntmps c af.body g3 F n hF base m H w _ a0 x e2 H' hrun hr henv hround hsz) fun ex a1 w1 hl => ?_
            obtain ⟨hxr, m1, q1, q2, q3, q4, rs, q5, q6⟩ := hl
            have hl' : LeavesInM F n P fn a1.tmps (After P base m H w (oneOf vs) H') a1.defers .returning w1 := by
              have hd : a1.defers = rs.map markOf := by rw [q5]; simp [a0]
              rw [hd]
              refine leaves_marks (m := m1) (H := H') (w := w1) (N := w.heap.size) hr.size (fun w' hr' hsame hsz' hos' => ?_) rs w1 q1 (fun _ _ => rfl) rfl ⟨rfl, rfl⟩ q6.1 q6.2
              obtain ⟨u, hu1, hu2⟩ := results_run (a := a1) hr' q3 (by rw [q4]; exact g4) hvs
              refine ⟨u, hu2, u, m1, rfl, hu1, hr', ?_⟩
              exact ⟨q2.le, q2.next, by rw [hsz']; exact q2.heap, fun cc hcc hfc => ⟨(q2.free cc hcc hfc).1, by rw [hsame cc hcc]; exact (q2.free cc hcc hfc).2⟩, q2.unreal, q2.loops, hos'.1.trans q2.os.1, hos'.2.trans q2.os.2⟩
            rcases hx with rfl | rfl
            · cases ex <;> first | exact hxr.elim | exact hl'
            · cases ex <;> first | exact hxr.elim | exact hl'
          split at h
          · rename_i e2 H2 hrun
            split at h
            · rename_i vs hvs
              simp only [Option.some.injEq, Prod.mk.injEq] at h
              obtain ⟨rfl, rfl⟩ := h
              exact fin .normal e2 H2 (.inl rfl) hrun vs hvs rfl rfl
            · simp at h
          · rename_i e2 H2 hrun
            split at h
            · rename_i vs hvs
              simp only [Option.some.injEq, Prod.mk.injEq] at h
              obtain ⟨rfl, rfl⟩ := h
              exact fin .ret e2 H2 (.inr rfl) hrun vs hvs rfl rfl
            · simp at h
          · simp at h
        · simp at h
      · simp at h
    | yield hml =>
      rename_i l c nn
      simp only [acallv] at h
      split at h
      · rename_i L hL
        split at h
        · rename_i hlen
          obtain ⟨hc0, ho⟩ := hr.blk _ _ _ _ hml
          rw [hL] at ho
          obtain ⟨hN, _, L', hL', hLR⟩ := ho
          have hpl : L'.params.size = L.params.length := by rw [← hLR.params]; simp
          have hul := VRs.length hargs
          refine ⟨rfl, L', hL', by rw [List.size_toArray, hul, hlen, hpl], ?_⟩
          obtain ⟨kpa, hca⟩ := hLR.assign
          obtain ⟨kpb, hcb⟩ := hLR.body
          refine roundIn_of_wpIn (hF.fn _) ?_
          have hlb : l < H.next := by
            rcases Nat.lt_or_ge l H.next with hh | hh
            · exact hh
            · rw [hr.top l hh] at hml; simp at hml
          have hround : RoundOk (F.inRound c) m H := fun l0 hl0 => by
            obtain rfl : c = l0 := by simpa using hl0
            exact ⟨l, nn, hlb, hml, L, hL⟩
          obtain ⟨hbe, hbs⟩ := bindAll_env L.params args us L.env L'.tmps hargs hLR.env hLR.below hlen
          have hfold : (L'.params.zip us.toArray).foldl (fun tmps (x : Nat × Value) => tmps.setIfInBounds x.1 x.2) L'.tmps = (L.params.zip us).foldl (fun tmps (p : Nat × Value) => tmps.setIfInBounds p.1 p.2) L'.tmps := by
            rw [← hLR.params, ← Array.foldl_toList, Array.toList_zip]
          show L'.assign.wpIn (F.inRound c) n P _ { tmps := (L'.params.zip us.toArray).foldl (fun tmps (x : Nat × Value) => tmps.setIfInBounds x.1 x.2) L'.tmps, defers := [] } w
          rw [hfold]
          split at h
          · rename_i e1 H1 hrun1
            refine wpIn_mono (sim_code ih hP.mixed k kpa L'.tmps.size L'.assign L.assign hca (F.inRound c) n (hF.inRound c) base m H w _ _ .normal e1 H1 hrun1 hr hbe hround hbs) fun ex a1 w1 hl => ?_
            obtain rfl := hl.normal
            obtain ⟨_, m1, q1, q2, q3, q4, rs, q5, q6⟩ := hl
            have hml1 := q2.le _ _ hml
            split at h
            · rename_i L1 hL1
              split at h
              · rename_i hready
                obtain ⟨hc1, ho1⟩ := q1.blk _ _ _ _ hml1
                rw [hL1] at ho1
                obtain ⟨_, _, L1', hL1', hLR1⟩ := ho1
                have hst : L1'.state = .ready := by
                  have := hLR1.state
                  rw [hready] at this
                  cases hq : L1'.state <;> rw [hq] at this <;> first | rfl | exact this.elim
                obtain ⟨r2, x2⟩ := q1.turn (w' := w1.putObj c (.loop { L1' with state := .busy })) hml1 ⟨_, hL1, rfl⟩ hN (fun k hk => World.putObj_heap_other hk) (by simp) (oA := .loop { L1 with state := .busy })
                  ⟨hN, rfl, { L1' with state := .busy }, World.putObj_heap_same hc1, ⟨trivial, hLR1.pending, hLR1.env, hLR1.params, hLR1.below, hLR1.assign, hLR1.body⟩⟩ (fun _ _ => ⟨_, rfl⟩)
                refine ⟨_, run_beginRound hL1' hst, ?_⟩
                have hround2 : RoundOk (F.inRound c) m1 (H1.set l (.loop { L1 with state := .busy })) := hround.ext (q2.trans x2)
                have fin : ∀ x e2 H2 (jump : Option Code) (st : LState) (b : Bool), PendR x jump → st = (if jump.isNone then .ready else .done) → b = jump.isNone → (∀ ex, ExitR x ex → ∀ (R : Ending → World → Prop) a w, (∃ v w', (Instr.endRound c jump).run P w = .ok v w' ∧ R (.returned v) w') → roundPost P c R ex a w) →
                    code (acallv prog k) k L.body e1 (H1.set l (.loop { L1 with state := .busy })) = some (x, e2, H2) → ∀ L2, H2.get l = some (.loop L2) → v = .bool b → H' = H2.set l (.loop { L2 with state := st, pending := x }) →
                    L'.body.wpIn (F.inRound c) n P (roundPost P c (After P base m H w v H')) a1 (w1.putObj c (.loop { L1' with state := .busy })) := by
                  intro x e2 H2 jump st b hpend hst2 hb2 hpost hrun2 L2 hL2 hv hH
                  refine wpIn_mono (sim_code ih hP.mixed k kpb L'.tmps.size L'.body L.body hcb (F.inRound c) n (hF.inRound c) base m1 _ _ e1 a1 x e2 H2 hrun2 r2 (q3.mono (leR m1)) hround2 q4) fun ex a2 w2 hl2 => ?_
                  obtain ⟨hxr, m2, p1, p2, p3, p4, rs2, p5, p6⟩ := hl2
                  refine hpost ex hxr _ _ _ ?_
                  have hml2 := p2.le _ _ hml1
                  obtain ⟨hc2, ho2⟩ := p1.blk _ _ _ _ hml2
                  rw [hL2] at ho2
                  obtain ⟨_, _, L2', hL2', hLR2⟩ := ho2
                  obtain ⟨r3, x3⟩ := p1.turn (w' := w2.putObj c (.loop { L2' with state := if jump.isNone then .ready else .done, pending := jump })) hml2 ⟨_, hL2, rfl⟩ hN (fun k hk => World.putObj_heap_other hk) (by simp) (oA := .loop { L2 with state := st, pending := x })
                    ⟨hN, rfl, { L2' with state := if jump.isNone then .ready else .done, pending := jump }, World.putObj_heap_same hc2, ⟨by rw [hst2]; cases jump <;> trivial, hpend, hLR2.env, hLR2.params, hLR2.below, hLR2.assign, hLR2.body⟩⟩ (fun _ _ => ⟨_, rfl⟩)
                  refine ⟨_, _, run_endRound jump hL2', .bool jump.isNone, m2, rfl, ?_, ?_, ?_⟩
                  · rw [hv, hb2]; exact .bool _
                  · rw [hH]; exact r3
                  · rw [hH]; exact ((q2.trans x2).trans p2).trans x3
                split at h
                · rename_i e2 H2 hrun2
                  split at h
                  · rename_i L2 hL2
                    simp only [Option.some.injEq, Prod.mk.injEq] at h
                    obtain ⟨rfl, rfl⟩ := h
                    exact fin .normal e2 H2 none .ready true trivial rfl rfl (fun ex hex R a w hh => by cases ex <;> first | exact hex.elim | exact hh) hrun2 L2 hL2 rfl rfl
                  · simp at h
                · rename_i x e2 H2 hnn hrun2
                  split at h
                  · rename_i L2 hL2
                    simp only [Option.some.injEq, Prod.mk.injEq] at h
                    obtain ⟨rfl, rfl⟩ := h
                    cases x with
                    | normal => exact (hnn rfl).elim
                    | ret => exact fin .ret e2 H2 (some .ret) .done false trivial rfl rfl (fun ex hex R a w hh => by cases ex <;> first | exact hex.elim | exact hh) hrun2 L2 hL2 rfl rfl
                    | exit i => exact fin (.exit i) e2 H2 (some (.exit i)) .done false rfl rfl rfl (fun ex hex R a w hh => by cases ex <;> first | exact hex.elim | (obtain rfl := hex; exact hh)) hrun2 L2 hL2 rfl rfl
                  · simp at h
                · simp at h
              · simp at h
            · simp at h
          · simp at h
        · simp at h
      · simp at h
    | _ => simp [acallv] at h
end
end Go.AM
namespace Go.AM
inductive Sh where
  | bool
  | int (k : IntKind)
  | str
  | slice (sz : Nat) (e : Sh)
  | agg (fs : List Sh)
  deriving Inhabited
inductive Dat where
  | b (x : Bool)
  | i (n : Int)
  | s (x : ByteArray)
  | nil
  | sl (es : List Dat)
  | ag (es : List Dat)
  deriving Inhabited
def shapeFs (P : Program) (f : TypeId → Option Sh) : Nat → List Field → Option (List Sh × Nat)
  | k, [] => some ([], k)
  | k, x :: xs => if x.offset = k then match f x.type, shapeFs P f (k + P.cellsOf x.type) xs with
      | some s, some (l, n) => some (s :: l, n)
      | _, _ => none
    else none
def shapeOf (P : Program) : Nat → TypeId → Option Sh
  | 0, _ => none
  | n + 1, t => match P.underlying t with
    | some .bool => some .bool
    | some (.int k) => some (.int k)
    | some .string => some .str
    | some (.slice e) => if P.cellsOf e = 0 then none else (shapeOf P n e).map (.slice (P.cellsOf e))
    | some (.struct fs) => match shapeFs P (shapeOf P n) 0 fs.toList with
      | some (l, k) => if k = P.cellsOf t then some (.agg l) else none
      | none => none
    | some (.array k e) => if k * P.cellsOf e = P.cellsOf t then (shapeOf P n e).map fun s => .agg (List.replicate k s) else none
    | _ => none
mutual
def Fits : Sh → Dat → Prop
  | .bool, .b _ => True
  | .int k, .i n => k.min ≤ n ∧ n ≤ k.max
  | .str, .s x => x.size ≤ maxLen
  | .slice _ _, .nil => True
  | .slice _ e, .sl ds => ds.length ≤ maxLen ∧ FitsE e ds
  | .agg fs, .ag ds => FitsF fs ds
  | _, _ => False
def FitsE : Sh → List Dat → Prop
  | _, [] => True
  | e, d :: ds => Fits e d ∧ FitsE e ds
def FitsF : List Sh → List Dat → Prop
  | [], [] => True
  | f :: fs, d :: ds => Fits f d ∧ FitsF fs ds
  | _, _ => False
end
mutual
def inj : Sh → Dat → AH → List AV × AH
  | .bool, .b x, H => ([.bool x], H)
  | .int k, .i n, H => ([.int k n], H)
  | .str, .s x, H => ([.str x], H)
  | .slice _ _, .nil, H => ([.nilslice], H)
  | .slice sz e, .sl ds, H => ([.slice (injE e ds H).2.next 0 ds.length sz], (injE e ds H).2.alloc (.cells true (injE e ds H).1))
  | .agg fs, .ag ds, H => injF fs ds H
  | _, _, H => ([], H)
def injE : Sh → List Dat → AH → List AV × AH
  | _, [], H => ([], H)
  | e, d :: ds, H => ((inj e d H).1 ++ (injE e ds (inj e d H).2).1, (injE e ds (inj e d H).2).2)
def injF : List Sh → List Dat → AH → List AV × AH
  | f :: fs, d :: ds, H => ((inj f d H).1 ++ (injF fs ds (inj f d H).2).1, (injF fs ds (inj f d H).2).2)
  | _, _, H => ([], H)
end
def isAgg : Sh → Bool
  | .agg _ => true
  | _ => false
def injV (s : Sh) (d : Dat) (H : AH) : AV × AH :=
  match s with
  | .agg fs => (.agg (inj (.agg fs) d H).1, (inj (.agg fs) d H).2)
  | s => match inj s d H with
    | (v :: _, H') => (v, H')
    | (_, H') => (.tuple [], H')
def injAll : List Sh → List Dat → AH → List AV × AH
  | s :: ss, d :: ds, H => ((injV s d H).1 :: (injAll ss ds (injV s d H).2).1, (injAll ss ds (injV s d H).2).2)
  | _, _, H => ([], H)
section
variable {K : Type} {enc : TypeId × Value → K} {P : Program} {w : World} {m : CM} {H : AH}
theorem Rel.addRO (h : Rel P w.heap m H w) {c o n : Nat} {cs : List AV} (hc : c < w.heap.size) (hob : ∃ arr e fz, w.heap[c]? = some (.cells arr e fz) ∧ CellsR m cs o arr) :
    Rel P w.heap (CM.add m H.next (c, o, n)) (H.alloc (.cells true cs)) w ∧ m.le (CM.add m H.next (c, o, n)) := by
  have hm : m H.next = none := h.top _ (Nat.le_refl _)
  have hle := CM.add_le (x := (c, o, n)) hm
  refine ⟨⟨h.old, h.size, fun b hb => ?_, fun b c' o' n' hb => ?_, fun b b' c' o1 o2 n1 n2 h1 h2 l1 l2 => ?_⟩, hle⟩
  · simp at hb
    rw [CM.add_ne _ _ (by omega)]; exact h.top b (by omega)
  · by_cases hbn : b = H.next
    · subst hbn
      rw [CM.add_same] at hb
      simp only [Option.some.injEq, Prod.mk.injEq] at hb
      obtain ⟨rfl, rfl, rfl⟩ := hb
      refine ⟨hc, ?_⟩
      rw [AH.get_alloc, if_pos rfl]
      obtain ⟨arr, e, fz, k1, k2⟩ := hob
      exact ⟨hc, arr, e, fz, k1, k2.mono hle⟩
    · rw [CM.add_ne _ _ hbn] at hb
      obtain ⟨k1, k2⟩ := h.blk b c' o' n' hb
      refine ⟨k1, ?_⟩
      rw [AH.get_alloc, if_neg hbn]
      exact k2.mono hle rfl
  · have key : ∀ b, Live (H.alloc (.cells true cs)) b → b ≠ H.next ∧ Live H b := fun b ⟨x, hx, hl⟩ => by
      rw [AH.get_alloc] at hx
      by_cases hbn : b = H.next
      · rw [if_pos hbn] at hx
        simp only [Option.some.injEq] at hx
        subst hx
        simp [AObj.live] at hl
      · rw [if_neg hbn] at hx; exact ⟨hbn, x, hx, hl⟩
    obtain ⟨q1, q2⟩ := key b l1
    obtain ⟨q3, q4⟩ := key b' l2
    rw [CM.add_ne _ _ q1] at h1
    rw [CM.add_ne _ _ q3] at h2
    exact h.inj b b' c' o1 o2 n1 n2 h1 h2 q2 q4
def Opens (P : Program) (w : World) (sh : Sh) (cs : List Value) (D : Dat) : Prop :=
  Fits sh D ∧ ∀ m H, Rel P w.heap m H w → m 0 = some (0, 0, 0) → ∃ m', m.le m' ∧ VRs m' (inj sh D H).1 cs ∧ Rel P w.heap m' (inj sh D H).2 w
theorem VRs.join {m : CM} {xs ys : List AV} {us vs : List Value} (h1 : VRs m xs us) (h2 : VRs m ys vs) : VRs m (xs ++ ys) (us ++ vs) := h1.append h2
theorem opens_many {sh : Sh} {z : Nat} : ∀ (n : Nat) (f : Nat → List Value), (∀ i, i < n → (f i).length = z ∧ ∃ D, Opens P w sh (f i) D) →
    ∃ Ds, Ds.length = n ∧ FitsE sh Ds ∧ ∀ m H, Rel P w.heap m H w → m 0 = some (0, 0, 0) → ∃ m', m.le m' ∧ Rel P w.heap m' (injE sh Ds H).2 w ∧ VRs m' (injE sh Ds H).1 ((List.range n).flatMap f)
  | 0, f, _ => ⟨[], rfl, trivial, fun m H hr _ => ⟨m, leR m, hr, .nil⟩⟩
  | n + 1, f, h => by
    obtain ⟨_, D, hD, hO⟩ := h 0 (by omega)
    obtain ⟨Ds, h1, h2, h3⟩ := opens_many n (fun i => f (i + 1)) (fun i hi => h (i + 1) (by omega))
    refine ⟨D :: Ds, by simp [h1], ⟨hD, h2⟩, fun m H hr h0 => ?_⟩
    obtain ⟨m1, k1, k2, k3⟩ := hO m H hr h0
    obtain ⟨m2, q1, q2, q3⟩ := h3 m1 _ k3 (k1 _ _ h0)
    refine ⟨m2, leT k1 q1, q2, ?_⟩
    simp only [injE, List.range_succ_eq_map, List.flatMap_cons, List.flatMap_map]
    exact (VRs.mono q1 k2).append q3
theorem int_wf {k : IntKind} {n : Int} (h : (Lit.int k n).wf = true) : k.min ≤ n ∧ n ≤ k.max := by
  simpa [Lit.wf] using h
theorem trod_flat {t : TypeId} {n : Nat} {cs : List Value} {x : DataW K × List MemPlace} (h : DataW.trod enc P w 0 (fun _ => true) true n t cs = some x) :
    (P.underlying t = some .bool → ∃ b, cs = [.bool b]) ∧ (∀ k, P.underlying t = some (.int k) → ∃ i, cs = [.int k i] ∧ k.min ≤ i ∧ i ≤ k.max) ∧ (P.underlying t = some .string → ∃ s, cs = [.string s] ∧ s.size ≤ maxLen) := by
  cases n with
  | zero => simp [DataW.trod] at h
  | succ n =>
    unfold DataW.trod at h
    refine ⟨fun ht => ?_, fun k ht => ?_, fun ht => ?_⟩
    all_goals
      rw [ht] at h
      split at h <;> simp_all
    · exact int_wf h.1.2
theorem range_flatMap_get {α : Type} (z : Nat) : ∀ (n : Nat) (f : Nat → List α), (∀ i, i < n → (f i).length = z) → ∀ i j, i < n → j < z → ((List.range n).flatMap f)[i * z + j]? = (f i)[j]?
  | 0, _, _, i, j, hi, _ => by omega
  | n + 1, f, h, i, j, hi, hj => by
    simp only [List.range_succ_eq_map, List.flatMap_cons, List.flatMap_map]
    have h0 := h 0 (by omega)
    cases i with
    | zero => rw [List.getElem?_append_left (by omega)]; simp
    | succ i =>
      rw [List.getElem?_append_right (by rw [h0, Nat.add_mul]; omega)]
      have := range_flatMap_get z n (fun i => f (i + 1)) (fun i hi => h (i + 1) (by omega)) i j (by omega) hj
      rw [show (i + 1) * z + j - (f 0).length = i * z + j from by rw [h0, Nat.add_mul]; omega]
      exact this
theorem opens_fields {f : TypeId → Option Sh} {n : Nat} (ih : ∀ t sh cs x, f t = some sh → DataW.trod enc P w 0 (fun _ => true) true n t cs = some x → ∃ D, Opens P w sh cs D) (cs : List Value) :
    ∀ (fs : List Field) (k : Nat) (l : List Sh) (e : Nat) , shapeFs P f k fs = some (l, e) → (∀ x ∈ fs, ∃ y, DataW.trod enc P w 0 (fun _ => true) true n x.type ((cs.drop x.offset).take (P.cellsOf x.type)) = some y) → e ≤ cs.length →
      k ≤ e ∧ ∃ Ds, FitsF l Ds ∧ ∀ m H, Rel P w.heap m H w → m 0 = some (0, 0, 0) → ∃ m', m.le m' ∧ VRs m' (injF l Ds H).1 ((cs.drop k).take (e - k)) ∧ Rel P w.heap m' (injF l Ds H).2 w
  | [], k, l, e, h, _, _ => by
    simp only [shapeFs, Option.some.injEq, Prod.mk.injEq] at h
    obtain ⟨rfl, rfl⟩ := h
    exact ⟨Nat.le_refl _, [], trivial, fun m H hr _ => ⟨m, leR m, by simpa [injF] using VRs.nil, by simpa [injF] using hr⟩⟩
  | x :: xs, k, l, e, h, hall, he => by
    simp only [shapeFs] at h
    split at h
    · rename_i hk
      split at h
      · rename_i s l' n' hs hl
        simp only [Option.some.injEq, Prod.mk.injEq] at h
        obtain ⟨rfl, rfl⟩ := h
        obtain ⟨y, hy⟩ := hall x (by simp)
        obtain ⟨D, hD1, hD2⟩ := ih _ _ _ _ hs hy
        obtain ⟨hle, Ds, h1, h2⟩ := opens_fields ih cs xs _ _ _ hl (fun z hz => hall z (by simp [hz])) he
        refine ⟨by omega, D :: Ds, ⟨hD1, h1⟩, fun m H hr h0 => ?_⟩
        obtain ⟨m1, k1, k2, k3⟩ := hD2 m H hr h0
        obtain ⟨m2, q1, q2, q3⟩ := h2 m1 _ k3 (k1 _ _ h0)
        refine ⟨m2, leT k1 q1, ?_, q3⟩
        simp only [injF]
        have hcut : (cs.drop k).take (n' - k) = (cs.drop k).take (P.cellsOf x.type) ++ (cs.drop (k + P.cellsOf x.type)).take (n' - (k + P.cellsOf x.type)) := by
          rw [show n' - k = P.cellsOf x.type + (n' - (k + P.cellsOf x.type)) from by omega, List.take_add, List.drop_drop]
        rw [hcut]
        rw [hk] at k2
        exact (VRs.mono q1 k2).append q2
      · simp at h
    · simp at h
theorem cut_join {α : Type} (z : Nat) : ∀ (n : Nat) (l : List α), l.length = n * z → (List.range n).flatMap (fun i => (l.drop (i * z)).take z) = l
  | 0, l, h => by simp at h; subst h; rfl
  | n + 1, l, h => by
    simp only [List.range_succ_eq_map, List.flatMap_cons, List.flatMap_map]
    have := cut_join z n (l.drop z) (by rw [List.length_drop, h, Nat.add_mul]; omega)
    have e : ∀ i, ((l.drop z).drop (i * z)).take z = (l.drop ((i + 1) * z)).take z := fun i => by
      rw [List.drop_drop, Nat.add_mul, Nat.one_mul, Nat.add_comm]
    simp only [e] at this
    simp only [Nat.succ_eq_add_one, this]
    simp
theorem fitsF_rep {s : Sh} : ∀ {n : Nat} {Ds : List Dat}, Ds.length = n → FitsE s Ds → FitsF (List.replicate n s) Ds
  | 0, [], _, _ => trivial
  | n + 1, d :: ds, h, hf => ⟨hf.1, fitsF_rep (by simpa using h) hf.2⟩
theorem injF_rep {s : Sh} : ∀ {n : Nat} {Ds : List Dat}, Ds.length = n → ∀ H, injF (List.replicate n s) Ds H = injE s Ds H
  | 0, [], _, H => rfl
  | n + 1, d :: ds, h, H => by
    simp only [List.replicate_succ, injF, injE]
    rw [injF_rep (by simpa using h)]
theorem opens (hz : ∃ arr e fz, w.heap[0]? = some (.cells arr e fz)) : ∀ (k : Nat) (n : Nat) (t : TypeId) (sh : Sh) (cs : List Value) (x : DataW K × List MemPlace), shapeOf P k t = some sh → DataW.trod enc P w 0 (fun _ => true) true n t cs = some x → ∃ D, Opens P w sh cs D
  | 0, _, _, _, _, _, h, _ => by simp [shapeOf] at h
  | k + 1, n, t, sh, cs, x, h, ht => by
    simp only [shapeOf] at h
    obtain ⟨f1, f2, f3⟩ := trod_flat ht
    split at h
    · rename_i hu
      simp only [Option.some.injEq] at h; subst h
      obtain ⟨b, rfl⟩ := f1 hu
      exact ⟨.b b, trivial, fun m H hr _ => ⟨m, leR m, .cons (.bool b) .nil, hr⟩⟩
    · rename_i kd hu
      simp only [Option.some.injEq] at h; subst h
      obtain ⟨i, rfl, hi⟩ := f2 kd hu
      exact ⟨.i i, hi, fun m H hr _ => ⟨m, leR m, .cons (.int kd i) .nil, hr⟩⟩
    · rename_i hu
      simp only [Option.some.injEq] at h; subst h
      obtain ⟨s, rfl, hs⟩ := f3 hu
      exact ⟨.s s, hs, fun m H hr _ => ⟨m, leR m, .cons (.str s) .nil, hr⟩⟩
    · rename_i e hu
      split at h
      · simp at h
      · rename_i hne
        simp only [Option.map_eq_some_iff] at h
        obtain ⟨es, hes, rfl⟩ := h
        rcases DataW.trod_slice hu ht with ⟨rfl, _⟩ | ⟨a, len, cap, elems, rest, n', rfl, rfl, rfl, hb, hlc, hcm, hel, hget, hrest, _⟩
        · exact ⟨.nil, trivial, fun m H hr _ => ⟨m, leR m, .cons .nilslice .nil, hr⟩⟩
        · have hcells : ∀ i, i < len → ∃ cs', w.cells? 0 (a.add (i * P.cellsOf e)) (P.cellsOf e) = some cs' ∧ ∃ y, DataW.trod enc P w 0 (fun _ => true) true n' e cs' = some y := fun i hi => by
            have := hget i hi
            obtain ⟨y, hy⟩ : ∃ y, elems[i]? = some y := ⟨_, List.getElem?_eq_getElem (by omega)⟩
            rw [hy, Option.bind_eq_some_iff] at this
            obtain ⟨cs', h1, h2⟩ := this
            exact ⟨cs', h1, y, h2⟩
          let f : Nat → List Value := fun i => (w.cells? 0 (a.add (i * P.cellsOf e)) (P.cellsOf e)).getD []
          have hf : ∀ i, i < len → (f i).length = P.cellsOf e ∧ ∃ D, Opens P w es (f i) D := fun i hi => by
            obtain ⟨cs', h1, y, h2⟩ := hcells i hi
            obtain ⟨_, hl, _⟩ := World.cells?_some h1
            have hfi : f i = cs' := by simp only [f, h1, Option.getD_some]
            rw [hfi]
            exact ⟨hl, opens hz k n' e es cs' y hes h2⟩
          obtain ⟨Ds, hD1, hD2, hD3⟩ := opens_many len f hf
          have hplace : (cap = 0) ∨ (a.spot = none ∧ ∃ arr e' fz, w.heap[a.block]? = some (.cells arr e' fz) ∧ ∀ i j, i < len → j < P.cellsOf e → arr[a.off + (i * P.cellsOf e + j)]? = (f i)[j]?) := by
            by_cases hc0 : cap = 0
            · exact .inl hc0
            · right
              have hone : ∃ cs', w.cells? 0 (a.add 0) (P.cellsOf e) = some cs' := by
                by_cases hl0 : len = 0
                · have h1 := (hrest rfl).1
                  have h2 := (hrest rfl).2 0 (by omega)
                  obtain ⟨y, hy⟩ : ∃ y, rest[0]? = some y := ⟨_, List.getElem?_eq_getElem (by omega)⟩
                  rw [hy, Option.bind_eq_some_iff] at h2
                  obtain ⟨cs', h3, _⟩ := h2
                  refine ⟨cs', ?_⟩
                  simpa [hl0] using h3
                · obtain ⟨cs', h1, _⟩ := hcells 0 (by omega)
                  exact ⟨cs', by simpa using h1⟩
              obtain ⟨cs0, hcs0⟩ := hone
              obtain ⟨_, hl0, hg0⟩ := World.cells?_some hcs0
              have h0 := hg0 0 (by omega)
              obtain ⟨c0, hc0'⟩ : ∃ c, cs0[0]? = some c := ⟨_, List.getElem?_eq_getElem (by omega)⟩
              rw [hc0'] at h0
              have hadd0 : (a.add 0).add 0 = a := rfl
              rw [hadd0] at h0
              unfold World.cell? at h0
              split at h0
              · rename_i arr e' fz harr
                split at h0
                · simp at h0
                · rename_i hsp
                  have hspot : a.spot = none := by simpa using hsp
                  refine ⟨hspot, arr, e', fz, harr, fun i j hi hj => ?_⟩
                  obtain ⟨cs', h1, y, h2⟩ := hcells i hi
                  obtain ⟨_, _, hg⟩ := World.cells?_some h1
                  have hfi : f i = cs' := by simp only [f, h1, Option.getD_some]
                  rw [hfi, ← hg j hj]
                  have hoff : ((a.add (i * P.cellsOf e)).add j).off = a.off + (i * P.cellsOf e + j) ∧ ((a.add (i * P.cellsOf e)).add j).block = a.block ∧ ((a.add (i * P.cellsOf e)).add j).spot = none := by
                    unfold Addr.add
                    by_cases h1 : i * P.cellsOf e = 0
                    · by_cases h2 : j = 0 <;> simp [h1, h2, hspot]
                    · by_cases h2 : j = 0 <;> simp [h1, h2, hspot, Nat.add_assoc]
                  unfold World.cell?
                  rw [hoff.2.1, harr]
                  simp [hoff.1, hoff.2.2]
              · simp at h0
          refine ⟨.sl Ds, ⟨by omega, hD2⟩, fun m H hr h0 => ?_⟩
          obtain ⟨m1, k1, k2, k3⟩ := hD3 m H hr h0
          have hlt : ∀ {c : Nat} {arr : Array Value} {e'} {fz}, w.heap[c]? = some (.cells arr e' fz) → c < w.heap.size := fun h => by
            rcases Nat.lt_or_ge _ w.heap.size with h' | h'
            · exact h'
            · rw [Array.getElem?_eq_none h'] at h; cases h
          simp only [inj]
          rcases hplace with hc0 | ⟨hspot, arr, e', fz, harr, hcell⟩
          · subst hc0
            have hl0 : len = 0 := by omega
            subst hl0
            have hD0 : Ds = [] := List.length_eq_zero_iff.1 hD1
            subst hD0
            obtain ⟨arr, e', fz, harr⟩ := hz
            obtain ⟨r1, r2⟩ := k2.addRO (c := 0) (o := 0) (n := 0) (cs := (injE es [] H).1) (hlt harr) ⟨arr, e', fz, harr, fun i v hv => by simp [injE] at hv⟩
            exact ⟨_, leT k1 r2, .cons (.slice0 a (CM.add_same _ _ _)) .nil, r1⟩
          · have hvl := VRs.length k3
            have hfl : ((List.range len).flatMap f).length = len * P.cellsOf e := by
              rw [List.length_flatMap]
              have : (List.range len).map (fun i => (f i).length) = List.replicate len (P.cellsOf e) := by
                apply List.ext_getElem
                · simp
                · intro i h1 h2
                  simp at h1
                  simp [(hf i h1).1]
              rw [this]; simp
            obtain ⟨r1, r2⟩ := k2.addRO (c := a.block) (o := a.off) (n := a.off + 0 + cap * P.cellsOf e) (cs := (injE es Ds H).1) (hlt harr) ⟨arr, e', fz, harr, fun q v hv => by
              obtain ⟨u, hu1, hu2⟩ := VRs.get k3 q v hv
              have hq : q < len * P.cellsOf e := by
                rw [← hfl]
                rcases Nat.lt_or_ge q ((List.range len).flatMap f).length with h | h
                · exact h
                · rw [List.getElem?_eq_none h] at hu1; cases hu1
              have hpos : 0 < P.cellsOf e := by omega
              have hdm := Nat.div_add_mod q (P.cellsOf e)
              have hi : q / P.cellsOf e < len := by
                rw [Nat.div_lt_iff_lt_mul hpos]; exact hq
              have hj : q % P.cellsOf e < P.cellsOf e := Nat.mod_lt _ hpos
              have hqe : q = q / P.cellsOf e * P.cellsOf e + q % P.cellsOf e := by rw [Nat.mul_comm]; exact hdm.symm
              refine ⟨u, ?_, hu2⟩
              rw [hqe, range_flatMap_get (P.cellsOf e) len f (fun i hi => (hf i hi).1) _ _ hi hj, ← hcell _ _ hi hj, ← hqe] at hu1
              exact hu1⟩
            refine ⟨_, leT k1 r2, .cons ?_ .nil, r1⟩
            obtain ⟨ab, ao, asp⟩ := a
            simp only at hspot
            subst hspot
            rw [hD1]
            exact VR.slice (i := 0) (CM.add_same _ _ _) hlc (Nat.le_refl _)
    · rename_i fs hu
      obtain ⟨xs, n', rfl, rfl, hcl, hxl, hf⟩ := DataW.trod_struct hu ht
      split at h
      · rename_i l e hl
        split at h
        · rename_i he
          simp only [Option.some.injEq] at h; subst h
          have hall : ∀ y ∈ fs.toList, ∃ z, DataW.trod enc P w 0 (fun _ => true) true n' y.type ((cs.drop y.offset).take (P.cellsOf y.type)) = some z := fun y hy => by
            obtain ⟨i, hi, rfl⟩ := List.getElem_of_mem hy
            simp at hi
            have := hf i fs[i] (by simp [hi])
            obtain ⟨z, hz'⟩ : ∃ z, xs[i]? = some z := ⟨_, List.getElem?_eq_getElem (by omega)⟩
            refine ⟨z, ?_⟩
            rw [hz'] at this
            simpa using this
          obtain ⟨_, Ds, h1, h2⟩ := opens_fields (n := n') (fun t sh cs x h1 h2 => opens hz k n' t sh cs x h1 h2) cs fs.toList 0 l e hl hall (by omega)
          refine ⟨.ag Ds, h1, fun m H hr h0 => ?_⟩
          obtain ⟨m1, q1, q2, q3⟩ := h2 m H hr h0
          refine ⟨m1, q1, ?_, q3⟩
          have : (cs.drop 0).take (e - 0) = cs := by
            rw [List.drop_zero, Nat.sub_zero, he, ← hcl, List.take_length]
          rw [this] at q2
          exact q2
        · simp at h
      · simp at h
    · rename_i q e hu
      obtain ⟨xs, n', rfl, rfl, hcl, hxl, hf⟩ := DataW.trod_array hu ht
      split at h
      · rename_i hqe
        simp only [Option.map_eq_some_iff] at h
        obtain ⟨es, hes, rfl⟩ := h
        have hf' : ∀ i, i < q → ((cs.drop (i * P.cellsOf e)).take (P.cellsOf e)).length = P.cellsOf e ∧ ∃ D, Opens P w es ((cs.drop (i * P.cellsOf e)).take (P.cellsOf e)) D := fun i hi => by
          have h1 := hf i hi
          obtain ⟨z, hz'⟩ : ∃ z, xs[i]? = some z := ⟨_, List.getElem?_eq_getElem (by omega)⟩
          rw [hz'] at h1
          refine ⟨?_, opens hz k n' e es _ z hes h1⟩
          have h2 : (i + 1) * P.cellsOf e ≤ q * P.cellsOf e := Nat.mul_le_mul_right _ hi
          rw [Nat.add_mul] at h2
          simp only [List.length_take, List.length_drop]
          omega
        obtain ⟨Ds, h1, h2, h3⟩ := opens_many q _ hf'
        have hcs : (List.range q).flatMap (fun i => (cs.drop (i * P.cellsOf e)).take (P.cellsOf e)) = cs := cut_join _ _ _ (by omega)
        rw [hcs] at h3
        refine ⟨.ag Ds, fitsF_rep h1 h2, fun m H hr h0 => ?_⟩
        obtain ⟨m1, q1, q2, q3⟩ := h3 m H hr h0
        have hinj : inj (.agg (List.replicate q es)) (.ag Ds) H = injE es Ds H := by
          simp only [inj]
          exact injF_rep h1 H
        rw [hinj]
        exact ⟨m1, q1, q3, q2⟩
      · simp at h
    · simp at h
end
end Go.AM
