/- The row FactorTrue: counts as any past makes them deny nothing of that past, for every house and past. -/
import Derived.Laws.RangeAny
import Derived.Test.YtgncpbkedhchfaaA03
set_option linter.unusedVariables false
set_option linter.unusedSimpArgs false
namespace Go.Proofs.Ytgncpbkedhchfaa
open Go.AM Go.IntWalk
set_option maxRecDepth 100000
set_option maxHeartbeats 2000000
set_option linter.unusedSimpArgs false
variable {H : AH} {R : AV → AH → Prop}
theorem out_run (lo hi : Int) (v : AV) (l : List Int) (hv : IsInts (Old H) H v l) (hl : l.length < 1000000) (k : R (.bool (l.any fun n => decide (n < lo) || decide (hi < n))) H) : CallQ prog (.func 105 [] []) [I lo, I hi, v] H R := by
  refine CallQ_enter (fn:=c105) rfl (Nat.le_of_ble_eq_true rfl) ?_;simp(maxSteps:=9999999)(disch:=first|omega|(simp only[AN];omega))only[c105,envFrom,hv.len,↓KP,EK,↓reduceIte,reduceCtorEq,Nat.reduceEqDiff,Nat.reduceAdd,Nat.reduceLeDiff,Nat.reduceMul]
  refine K_loop (fun mz ez H1 => ∃ (i : Nat) (tail : Env), ez = (0, I lo) :: (1, I hi) :: (2, v) :: (6, .bool false) :: (9, v) :: (10, I l.length) :: (11, I i) :: tail ∧ (H1 = H) ∧ (i ≤ l.length) ∧ ((l.take i).any (fun n => decide (n < lo) || decide (hi < n)) = false) ∧ mz = l.length - i) _ ⟨0, _, rfl, ?_, ?_, ?_, rfl⟩ ?_
  iterate 3 (focus (first|(with_reducible rfl)|omega|(with_reducible(repeat first|exact Grew.refl _|assumption|apply Grew.alloc|refine Grew.set ?_ _ (by first|omega|(simp only[AN];omega)));done)|(simp(maxSteps:=9999999)(disch:=first|omega|(simp only[AN];omega))only[↓KP,EK,↓reduceIte,reduceCtorEq,Nat.reduceEqDiff,Nat.reduceAdd,Nat.reduceLeDiff,Nat.reduceMul]<;>first|omega|rfl)|(simp;done)|rfl))
  rintro mz ez H1 ⟨i, tail, rfl, hH, hil, hno, hmz⟩; subst mz
  subst H1
  simp(maxSteps:=9999999)(disch:=first|omega|(simp only[AN];omega))only[↓KP,EK,↓reduceIte,reduceCtorEq,Nat.reduceEqDiff,Nat.reduceAdd,Nat.reduceLeDiff,Nat.reduceMul]
  refine C_decide (fun hc => ?_) (fun hc => ?_)
  · have hi' : i < l.length := by omega
    obtain ⟨p_b, p_i, p_ro, p_vs, p_lt, p⟩ := hv.rdInt rfl hi'
    have e1 : IntKind.i64.wrap ((i : Int) + 1) = ((i + 1 : Nat) : Int) := i64_in _ (by omega)
    have hyes : (l[i] < lo ∨ hi < l[i]) → (l.any fun n => decide (n < lo) || decide (hi < n)) = true := fun h => by
      rw [List.any_eq_true]
      exact ⟨l[i], List.getElem_mem hi', by simpa using h⟩
    by_cases h1 : l[i] < lo
    · simp(maxSteps:=9999999)(disch:=first|omega|(simp only[AN];omega))only[p,h1,↓KP,EK,↓reduceIte,reduceCtorEq,Nat.reduceEqDiff,Nat.reduceAdd,Nat.reduceLeDiff,Nat.reduceMul]
      rw [hyes (.inl h1)] at k; exact k
    · by_cases h2 : hi < l[i]
      · simp(maxSteps:=9999999)(disch:=first|omega|(simp only[AN];omega))only[p,h1,h2,↓KP,EK,↓reduceIte,reduceCtorEq,Nat.reduceEqDiff,Nat.reduceAdd,Nat.reduceLeDiff,Nat.reduceMul]
        rw [hyes (.inr h2)] at k; exact k
      · simp(maxSteps:=9999999)(disch:=first|omega|(simp only[AN];omega))only[p,h1,h2,e1,↓KP,EK,↓reduceIte,reduceCtorEq,Nat.reduceEqDiff,Nat.reduceAdd,Nat.reduceLeDiff,Nat.reduceMul]
        refine ⟨_, ?_, i + 1, _, rfl, ?_, ?_, (by rw [any_take_succ hi', hno]; simp [h1, h2]), rfl⟩ <;> (first|omega|(with_reducible assumption)|(with_reducible(repeat first|exact Grew.refl _|assumption|apply Grew.alloc|refine Grew.set ?_ _ (by first|omega|(simp only[AN];omega)));done)|(simp(maxSteps:=9999999)(disch:=first|omega|(simp only[AN];omega))only[↓KP,EK,↓reduceIte,reduceCtorEq,Nat.reduceEqDiff,Nat.reduceAdd,Nat.reduceLeDiff,Nat.reduceMul]<;>first|omega|rfl))
  · have hie : i = l.length := by omega
    subst hie
    rw [List.take_length] at hno
    rw [hno] at k
    simp(maxSteps:=9999999)(disch:=first|omega|(simp only[AN];omega))only[↓KP,EK,↓reduceIte,reduceCtorEq,Nat.reduceEqDiff,Nat.reduceAdd,Nat.reduceLeDiff,Nat.reduceMul]
    exact k
theorem one_slice (H : AH) (x : Int) : IsInts (Old (H.alloc (.cells false [I x]))) (H.alloc (.cells false [I x])) (.slice H.next 0 1 1) [x] :=
  .inr ⟨_, _, [I x], rfl, (by show H.next < H.next + 1; omega), by simp [AH.read, get_alloc_new, readN], Rows.single rfl rfl⟩
theorem two_slice (H : AH) (x y : Int) : IsInts (Old (H.alloc (.cells false [I x, I y]))) (H.alloc (.cells false [I x, I y])) (.slice H.next 0 2 1) [x, y] :=
  .inr ⟨_, _, [I x, I y], rfl, (by show H.next < H.next + 1; omega), by simp [AH.read, get_alloc_new, readN], Rows.cons (cs := [I x]) rfl rfl (Rows.single rfl rfl)⟩
theorem getElem_toList {s : ByteArray} {k : Nat} (h : k < s.size) : s[k] = s.toList[k]'(by rw [toList_length]; exact h) := by
  simp only [ByteArray.toList_eq]
  rfl
def goodAt (j : Nat) (c : UInt8) : Bool := if j = 0 then isLetter c else isInner c
theorem isName_of {s : ByteArray} (h0 : 1 ≤ s.size) (h1 : s.size ≤ 16) (h : ∀ j (hj : j < s.toList.length), goodAt j s.toList[j] = true) : isName s = true := by
  have hlen := toList_length s
  have hh : 0 < s.toList.length := by omega
  have g0 : s.toList.head? = some s.toList[0] := by rw [List.head?_eq_getElem?, List.getElem?_eq_getElem hh]
  have a := h 0 hh
  have b : s.toList.tail.all isInner = true := all_tail fun j hj h1 => by
    have := h j hj
    unfold goodAt at this
    rw [if_neg (by omega)] at this
    exact this
  unfold goodAt at a
  rw [if_pos rfl] at a
  have c0 : (1 : Int) ≤ s.size := by omega
  have c1 : (s.size : Int) ≤ 16 := by omega
  simp [isName, g0, a, b, c0, c1]
theorem isName_good {s : ByteArray} (h : isName s = true) {j : Nat} (hj : j < s.toList.length) : goodAt j s.toList[j] = true := by
  simp only [isName, Bool.and_eq_true] at h
  obtain ⟨⟨_, h2⟩, h3⟩ := h
  unfold goodAt
  split
  · rename_i h0; subst h0
    rw [List.head?_eq_getElem?, List.getElem?_eq_getElem hj] at h2
    simpa using h2
  · rename_i h0
    rw [List.all_eq_true] at h3
    exact h3 _ (by
      rw [List.mem_iff_getElem]
      exact ⟨j - 1, by rw [List.length_tail]; omega, by rw [List.getElem_tail]; congr 1; omega⟩)
theorem isName_len {s : ByteArray} (h : isName s = true) : 1 ≤ s.size ∧ s.size ≤ 16 := by
  simp only [isName, Bool.and_eq_true, decide_eq_true_eq] at h
  omega
theorem dName_run (s : ByteArray) (k : ∀ H', Grew H H' → R (.bool (isName s)) H') : CallQ prog (.func 90 [] []) [.str s] H R := by
  have hlen := toList_length s
  refine CallQ_enter (fn:=c90) rfl (Nat.le_of_ble_eq_true rfl) ?_;simp(maxSteps:=9999999)(disch:=first|omega|(simp only[AN];omega))only[c90,envFrom,opRangeStr,↓KP,EK,↓reduceIte,reduceCtorEq,Nat.reduceEqDiff,Nat.reduceAdd,Nat.reduceLeDiff,Nat.reduceMul]
  refine K_loop (fun mz ez H1 => ∃ (i : Nat) (tail : Env), ez = (0, .str s) :: (2, .bool false) :: (6, .ptr H.next 0) :: tail ∧ (Grew H H1) ∧ (H.next < H1.next) ∧ (H1.get H.next = some (.strIter s i)) ∧ (i ≤ s.size) ∧ (∀ j (hj : j < s.toList.length), j < i → goodAt j s.toList[j] = true) ∧ mz = s.size - i) _ ⟨0, _, rfl, ?_, ?_, ?_, ?_, ?_, rfl⟩ ?_
  iterate 5 (focus (first|(with_reducible rfl)|omega|(with_reducible(repeat first|exact Grew.refl _|assumption|apply Grew.alloc|refine Grew.set ?_ _ (by first|omega|(simp only[AN];omega)));done)|(simp(maxSteps:=9999999)(disch:=first|omega|(simp only[AN];omega))only[↓KP,EK,↓reduceIte,reduceCtorEq,Nat.reduceEqDiff,Nat.reduceAdd,Nat.reduceLeDiff,Nat.reduceMul]<;>first|omega|rfl)|(simp;done)|rfl))
  rintro mz ez H1 ⟨i, tail, rfl, hG, hlt, hit, hil, hno, hmz⟩; subst mz; have hGn := hG.next
  have hGn := hG.next
  by_cases hi : i < s.size
  · have hi' : i < s.toList.length := by omega
    have hge : s[i] = s.toList[i] := getElem_toList hi
    have hbad : goodAt i s.toList[i] = false → isName s = false := fun hb => by
      cases hn : isName s with
      | false => rfl
      | true => have := isName_good hn hi'; rw [hb] at this; cases this
    have hstep : ∀ {d w : Nat}, Utf8.decode s i = (d, w) → opNextStr (.ptr H.next 0) H1 = some (.tuple [.bool true, I i, .int .i32 d], H1.set H.next (.strIter s (i + w))) := fun {d w} h => by
      simp only [opNextStr, hit, hi, if_true, h]
    by_cases ha : (s[i]).toNat < 128
    · have hn := hstep (decode_ascii s i hi ha)
      rw [hge] at hn ha
      have ok : goodAt i s.toList[i] = true → ∀ j (hj : j < s.toList.length), j < i + 1 → goodAt j s.toList[j] = true := fun hg j hj hlt => by
        by_cases hji : j = i
        · subst hji; exact hg
        · exact hno j hj (by omega)
      generalize hC : s.toList[i] = C at hn ha ok hbad
      have hsame : ∀ b, b < H.next → (H1.set H.next (.strIter s (i + 1))).get b = H.get b := fun b hb => by simp(maxSteps:=9999999)(disch:=first|omega|(simp only[AN];omega))only[hG.get,↓KP,EK,↓reduceIte,reduceCtorEq,Nat.reduceEqDiff,Nat.reduceAdd,Nat.reduceLeDiff,Nat.reduceMul]
      by_cases h97 : 97 ≤ (C.toNat : Int)
      · by_cases h122 : (C.toNat : Int) ≤ 122
        · simp(maxSteps:=9999999)(disch:=first|omega|(simp only[AN];omega))only[hn,h97,h122,↓KP,EK,↓reduceIte,reduceCtorEq,Nat.reduceEqDiff,Nat.reduceAdd,Nat.reduceLeDiff,Nat.reduceMul]
          refine ⟨_, ?_, i + 1, _, rfl, (by exact ⟨by simp(maxSteps:=9999999)(disch:=first|omega|(simp only[AN];omega))only[↓KP,EK,↓reduceIte,reduceCtorEq,Nat.reduceEqDiff,Nat.reduceAdd,Nat.reduceLeDiff,Nat.reduceMul]; omega, hsame⟩), ?_, ?_, ?_, (by exact ok (by simp [goodAt, isInner, isLetter, h97, h122])), rfl⟩ <;> (first|omega|(with_reducible assumption)|(with_reducible(repeat first|exact Grew.refl _|assumption|apply Grew.alloc|refine Grew.set ?_ _ (by first|omega|(simp only[AN];omega)));done)|(simp(maxSteps:=9999999)(disch:=first|omega|(simp only[AN];omega))only[↓KP,EK,↓reduceIte,reduceCtorEq,Nat.reduceEqDiff,Nat.reduceAdd,Nat.reduceLeDiff,Nat.reduceMul]<;>first|omega|rfl))
        · have hlf : isLetter C = false := by simp only [isLetter, Bool.and_eq_false_iff, decide_eq_false_iff_not]; omega
          by_cases hi0 : (0 : Int) < i
          · have hgi : goodAt i C = (isDigit C || decide ((C.toNat : Int) = 46)) := by unfold goodAt; rw [if_neg (by omega)]; simp [isInner, hlf]
            by_cases h46 : (C.toNat : Int) = 46
            · simp(maxSteps:=9999999)(disch:=first|omega|(simp only[AN];omega))only[hn,h97,h122,hi0,eq_true h46,↓KP,EK,↓reduceIte,reduceCtorEq,Nat.reduceEqDiff,Nat.reduceAdd,Nat.reduceLeDiff,Nat.reduceMul]
              refine ⟨_, ?_, i + 1, _, rfl, (by exact ⟨by simp(maxSteps:=9999999)(disch:=first|omega|(simp only[AN];omega))only[↓KP,EK,↓reduceIte,reduceCtorEq,Nat.reduceEqDiff,Nat.reduceAdd,Nat.reduceLeDiff,Nat.reduceMul]; omega, hsame⟩), ?_, ?_, ?_, (by exact ok (by rw [hgi, h46]; simp)), rfl⟩ <;> (first|omega|(with_reducible assumption)|(with_reducible(repeat first|exact Grew.refl _|assumption|apply Grew.alloc|refine Grew.set ?_ _ (by first|omega|(simp only[AN];omega)));done)|(simp(maxSteps:=9999999)(disch:=first|omega|(simp only[AN];omega))only[↓KP,EK,↓reduceIte,reduceCtorEq,Nat.reduceEqDiff,Nat.reduceAdd,Nat.reduceLeDiff,Nat.reduceMul]<;>first|omega|rfl))
            · by_cases h48 : 48 ≤ (C.toNat : Int)
              · by_cases h57 : (C.toNat : Int) ≤ 57
                · simp(maxSteps:=9999999)(disch:=first|omega|(simp only[AN];omega))only[hn,h97,h122,hi0,h46,h48,h57,↓KP,EK,↓reduceIte,reduceCtorEq,Nat.reduceEqDiff,Nat.reduceAdd,Nat.reduceLeDiff,Nat.reduceMul]
                  refine ⟨_, ?_, i + 1, _, rfl, (by exact ⟨by simp(maxSteps:=9999999)(disch:=first|omega|(simp only[AN];omega))only[↓KP,EK,↓reduceIte,reduceCtorEq,Nat.reduceEqDiff,Nat.reduceAdd,Nat.reduceLeDiff,Nat.reduceMul]; omega, hsame⟩), ?_, ?_, ?_, (by exact ok (by rw [hgi]; simp [isDigit, h48, h57])), rfl⟩ <;> (first|omega|(with_reducible assumption)|(with_reducible(repeat first|exact Grew.refl _|assumption|apply Grew.alloc|refine Grew.set ?_ _ (by first|omega|(simp only[AN];omega)));done)|(simp(maxSteps:=9999999)(disch:=first|omega|(simp only[AN];omega))only[↓KP,EK,↓reduceIte,reduceCtorEq,Nat.reduceEqDiff,Nat.reduceAdd,Nat.reduceLeDiff,Nat.reduceMul]<;>first|omega|rfl))
                · simp(maxSteps:=9999999)(disch:=first|omega|(simp only[AN];omega))only[hn,h97,h122,hi0,h46,h48,h57,↓KP,EK,↓reduceIte,reduceCtorEq,Nat.reduceEqDiff,Nat.reduceAdd,Nat.reduceLeDiff,Nat.reduceMul]
                  rw [hbad (by rw [hgi]; simp [isDigit, h46, h57])] at k
                  exact k _ ⟨by simp(maxSteps:=9999999)(disch:=first|omega|(simp only[AN];omega))only[↓KP,EK,↓reduceIte,reduceCtorEq,Nat.reduceEqDiff,Nat.reduceAdd,Nat.reduceLeDiff,Nat.reduceMul]; omega, hsame⟩
              · simp(maxSteps:=9999999)(disch:=first|omega|(simp only[AN];omega))only[hn,h97,h122,hi0,h46,h48,↓KP,EK,↓reduceIte,reduceCtorEq,Nat.reduceEqDiff,Nat.reduceAdd,Nat.reduceLeDiff,Nat.reduceMul]
                rw [hbad (by rw [hgi]; simp [isDigit, h46, h48])] at k
                exact k _ ⟨by simp(maxSteps:=9999999)(disch:=first|omega|(simp only[AN];omega))only[↓KP,EK,↓reduceIte,reduceCtorEq,Nat.reduceEqDiff,Nat.reduceAdd,Nat.reduceLeDiff,Nat.reduceMul]; omega, hsame⟩
          · simp(maxSteps:=9999999)(disch:=first|omega|(simp only[AN];omega))only[hn,h97,h122,hi0,↓KP,EK,↓reduceIte,reduceCtorEq,Nat.reduceEqDiff,Nat.reduceAdd,Nat.reduceLeDiff,Nat.reduceMul]
            rw [hbad (by unfold goodAt; rw [if_pos (by omega)]; exact hlf)] at k
            exact k _ ⟨by simp(maxSteps:=9999999)(disch:=first|omega|(simp only[AN];omega))only[↓KP,EK,↓reduceIte,reduceCtorEq,Nat.reduceEqDiff,Nat.reduceAdd,Nat.reduceLeDiff,Nat.reduceMul]; omega, hsame⟩
      · have hlf : isLetter C = false := by simp only [isLetter, Bool.and_eq_false_iff, decide_eq_false_iff_not]; omega
        by_cases hi0 : (0 : Int) < i
        · have hgi : goodAt i C = (isDigit C || decide ((C.toNat : Int) = 46)) := by unfold goodAt; rw [if_neg (by omega)]; simp [isInner, hlf]
          by_cases h46 : (C.toNat : Int) = 46
          · simp(maxSteps:=9999999)(disch:=first|omega|(simp only[AN];omega))only[hn,h97,hi0,eq_true h46,↓KP,EK,↓reduceIte,reduceCtorEq,Nat.reduceEqDiff,Nat.reduceAdd,Nat.reduceLeDiff,Nat.reduceMul]
            refine ⟨_, ?_, i + 1, _, rfl, (by exact ⟨by simp(maxSteps:=9999999)(disch:=first|omega|(simp only[AN];omega))only[↓KP,EK,↓reduceIte,reduceCtorEq,Nat.reduceEqDiff,Nat.reduceAdd,Nat.reduceLeDiff,Nat.reduceMul]; omega, hsame⟩), ?_, ?_, ?_, (by exact ok (by rw [hgi, h46]; simp)), rfl⟩ <;> (first|omega|(with_reducible assumption)|(with_reducible(repeat first|exact Grew.refl _|assumption|apply Grew.alloc|refine Grew.set ?_ _ (by first|omega|(simp only[AN];omega)));done)|(simp(maxSteps:=9999999)(disch:=first|omega|(simp only[AN];omega))only[↓KP,EK,↓reduceIte,reduceCtorEq,Nat.reduceEqDiff,Nat.reduceAdd,Nat.reduceLeDiff,Nat.reduceMul]<;>first|omega|rfl))
          · by_cases h48 : 48 ≤ (C.toNat : Int)
            · by_cases h57 : (C.toNat : Int) ≤ 57
              · simp(maxSteps:=9999999)(disch:=first|omega|(simp only[AN];omega))only[hn,h97,hi0,h46,h48,h57,↓KP,EK,↓reduceIte,reduceCtorEq,Nat.reduceEqDiff,Nat.reduceAdd,Nat.reduceLeDiff,Nat.reduceMul]
                refine ⟨_, ?_, i + 1, _, rfl, (by exact ⟨by simp(maxSteps:=9999999)(disch:=first|omega|(simp only[AN];omega))only[↓KP,EK,↓reduceIte,reduceCtorEq,Nat.reduceEqDiff,Nat.reduceAdd,Nat.reduceLeDiff,Nat.reduceMul]; omega, hsame⟩), ?_, ?_, ?_, (by exact ok (by rw [hgi]; simp [isDigit, h48, h57])), rfl⟩ <;> (first|omega|(with_reducible assumption)|(with_reducible(repeat first|exact Grew.refl _|assumption|apply Grew.alloc|refine Grew.set ?_ _ (by first|omega|(simp only[AN];omega)));done)|(simp(maxSteps:=9999999)(disch:=first|omega|(simp only[AN];omega))only[↓KP,EK,↓reduceIte,reduceCtorEq,Nat.reduceEqDiff,Nat.reduceAdd,Nat.reduceLeDiff,Nat.reduceMul]<;>first|omega|rfl))
              · simp(maxSteps:=9999999)(disch:=first|omega|(simp only[AN];omega))only[hn,h97,hi0,h46,h48,h57,↓KP,EK,↓reduceIte,reduceCtorEq,Nat.reduceEqDiff,Nat.reduceAdd,Nat.reduceLeDiff,Nat.reduceMul]
                rw [hbad (by rw [hgi]; simp [isDigit, h46, h57])] at k
                exact k _ ⟨by simp(maxSteps:=9999999)(disch:=first|omega|(simp only[AN];omega))only[↓KP,EK,↓reduceIte,reduceCtorEq,Nat.reduceEqDiff,Nat.reduceAdd,Nat.reduceLeDiff,Nat.reduceMul]; omega, hsame⟩
            · simp(maxSteps:=9999999)(disch:=first|omega|(simp only[AN];omega))only[hn,h97,hi0,h46,h48,↓KP,EK,↓reduceIte,reduceCtorEq,Nat.reduceEqDiff,Nat.reduceAdd,Nat.reduceLeDiff,Nat.reduceMul]
              rw [hbad (by rw [hgi]; simp [isDigit, h46, h48])] at k
              exact k _ ⟨by simp(maxSteps:=9999999)(disch:=first|omega|(simp only[AN];omega))only[↓KP,EK,↓reduceIte,reduceCtorEq,Nat.reduceEqDiff,Nat.reduceAdd,Nat.reduceLeDiff,Nat.reduceMul]; omega, hsame⟩
        · simp(maxSteps:=9999999)(disch:=first|omega|(simp only[AN];omega))only[hn,h97,hi0,↓KP,EK,↓reduceIte,reduceCtorEq,Nat.reduceEqDiff,Nat.reduceAdd,Nat.reduceLeDiff,Nat.reduceMul]
          rw [hbad (by unfold goodAt; rw [if_pos (by omega)]; exact hlf)] at k
          exact k _ ⟨by simp(maxSteps:=9999999)(disch:=first|omega|(simp only[AN];omega))only[↓KP,EK,↓reduceIte,reduceCtorEq,Nat.reduceEqDiff,Nat.reduceAdd,Nat.reduceLeDiff,Nat.reduceMul]; omega, hsame⟩
    · obtain ⟨hd, _⟩ := decode_high s i hi (by omega)
      have hn := hstep (d := (Utf8.decode s i).1) (w := (Utf8.decode s i).2) rfl
      have hbad' := hbad (by rw [← hge]; simp only [goodAt, isInner, isLetter, isDigit]; split <;> simp <;> omega)
      generalize (Utf8.decode s i).1 = D at hd hn
      rw [hbad'] at k
      have c1 : 97 ≤ (D : Int) := by omega
      have c2 : ¬ (D : Int) ≤ 122 := by omega
      have c3 : ¬ (D : Int) = 46 := by omega
      have c4 : 48 ≤ (D : Int) := by omega
      have c5 : ¬ (D : Int) ≤ 57 := by omega
      by_cases hi0 : (0 : Int) < i
      · simp(maxSteps:=9999999)(disch:=first|omega|(simp only[AN];omega))only[hn,c1,c2,c3,c4,c5,hi0,↓KP,EK,↓reduceIte,reduceCtorEq,Nat.reduceEqDiff,Nat.reduceAdd,Nat.reduceLeDiff,Nat.reduceMul]
        exact k _ ⟨by simp(maxSteps:=9999999)(disch:=first|omega|(simp only[AN];omega))only[↓KP,EK,↓reduceIte,reduceCtorEq,Nat.reduceEqDiff,Nat.reduceAdd,Nat.reduceLeDiff,Nat.reduceMul]; omega, fun b hb => by simp(maxSteps:=9999999)(disch:=first|omega|(simp only[AN];omega))only[hG.get,↓KP,EK,↓reduceIte,reduceCtorEq,Nat.reduceEqDiff,Nat.reduceAdd,Nat.reduceLeDiff,Nat.reduceMul]⟩
      · simp(maxSteps:=9999999)(disch:=first|omega|(simp only[AN];omega))only[hn,c1,c2,c3,c4,c5,hi0,↓KP,EK,↓reduceIte,reduceCtorEq,Nat.reduceEqDiff,Nat.reduceAdd,Nat.reduceLeDiff,Nat.reduceMul]
        exact k _ ⟨by simp(maxSteps:=9999999)(disch:=first|omega|(simp only[AN];omega))only[↓KP,EK,↓reduceIte,reduceCtorEq,Nat.reduceEqDiff,Nat.reduceAdd,Nat.reduceLeDiff,Nat.reduceMul]; omega, fun b hb => by simp(maxSteps:=9999999)(disch:=first|omega|(simp only[AN];omega))only[hG.get,↓KP,EK,↓reduceIte,reduceCtorEq,Nat.reduceEqDiff,Nat.reduceAdd,Nat.reduceLeDiff,Nat.reduceMul]⟩
  · have hn : opNextStr (.ptr H.next 0) H1 = some (.tuple [.bool false], H1) := by simp only [opNextStr, hit, hi, if_false]
    have hv := one_slice H1 (s.size : Int)
    simp(maxSteps:=9999999)(disch:=first|omega|(simp only[AN];omega))only[hn,↓KP,EK,↓reduceIte,reduceCtorEq,Nat.reduceEqDiff,Nat.reduceAdd,Nat.reduceLeDiff,Nat.reduceMul]
    first|refine C_call ?_|refine C_calld ?_
    refine out_run 1 16 _ _ hv (by simp) ?_
    simp(maxSteps:=9999999)(disch:=first|omega|(simp only[AN];omega))only[↓KP,EK,↓reduceIte,reduceCtorEq,Nat.reduceEqDiff,Nat.reduceAdd,Nat.reduceLeDiff,Nat.reduceMul]
    have : (!([(s.size : Int)].any fun n => decide (n < 1) || decide (16 < n))) = isName s := by
      by_cases h1 : 1 ≤ s.size ∧ s.size ≤ 16
      · rw [isName_of h1.1 h1.2 fun j hj => hno j hj (by omega)]
        have e1 : ¬ (s.size : Int) < 1 := by omega
        have e2 : ¬ 16 < (s.size : Int) := by omega
        simp [e1, e2]
      · have : isName s = false := by
          cases hn : isName s with
          | false => rfl
          | true => exact absurd (isName_len hn) h1
        rw [this]
        simp only [List.any_cons, List.any_nil, Bool.or_false, Bool.not_eq_false', Bool.or_eq_true, decide_eq_true_eq]
        omega
    rw [this]
    exact k _ (hG.alloc _)
def Answers {α : Type} (H : AH) (fv : AV) (enc : α → AV) (l : List α) (p : α → Bool) : Prop :=
  ∀ (H1 : AH) (x : α) (R : AV → AH → Prop), x ∈ l → Grew H H1 → (∀ H2, Grew H1 H2 → R (.bool (p x)) H2) → CallQ prog fv [enc x] H1 R
theorem IndexInt_run (v fv : AV) (l : List Int) (p : Int → Bool) (hv : IsInts (Old H) H v l) (hl : l.length < 1000000) (hf : Answers H fv I l p) (k : ∀ H' (n : Int), Grew H H' → (0 ≤ n ↔ l.any p = true) → R (I n) H') : CallQ prog (.func 107 [] []) [v, fv] H R := by
  refine CallQ_enter (fn:=c107) rfl (Nat.le_of_ble_eq_true rfl) ?_;simp(maxSteps:=9999999)(disch:=first|omega|(simp only[AN];omega))only[c107,envFrom,hv.len,↓KP,EK,↓reduceIte,reduceCtorEq,Nat.reduceEqDiff,Nat.reduceAdd,Nat.reduceLeDiff,Nat.reduceMul]
  refine K_loop (fun mz ez H1 => ∃ (i : Nat) (tail : Env), ez = (0, v) :: (1, fv) :: (4, I 0) :: (7, I l.length) :: (8, I i) :: tail ∧ (Grew H H1) ∧ (i ≤ l.length) ∧ ((l.take i).any p = false) ∧ mz = l.length - i) _ ⟨0, _, rfl, ?_, ?_, ?_, rfl⟩ ?_
  iterate 3 (focus (first|(with_reducible rfl)|omega|(with_reducible(repeat first|exact Grew.refl _|assumption|apply Grew.alloc|refine Grew.set ?_ _ (by first|omega|(simp only[AN];omega)));done)|(simp(maxSteps:=9999999)(disch:=first|omega|(simp only[AN];omega))only[↓KP,EK,↓reduceIte,reduceCtorEq,Nat.reduceEqDiff,Nat.reduceAdd,Nat.reduceLeDiff,Nat.reduceMul]<;>first|omega|rfl)|(simp;done)|rfl))
  rintro mz ez H1 ⟨i, tail, rfl, hG, hil, hno, hmz⟩; subst mz; have hGn := hG.next
  simp(maxSteps:=9999999)(disch:=first|omega|(simp only[AN];omega))only[↓KP,EK,↓reduceIte,reduceCtorEq,Nat.reduceEqDiff,Nat.reduceAdd,Nat.reduceLeDiff,Nat.reduceMul]
  refine C_decide (fun hc => ?_) (fun hc => ?_)
  · have hi' : i < l.length := by omega
    obtain ⟨q_b, q_i, q_ro, q_vs, q_lt, q⟩ := hv.rdInt rfl hi'
    have e1 : IntKind.i64.wrap ((i : Int) + 1) = ((i + 1 : Nat) : Int) := i64_in _ (by omega)
    simp(maxSteps:=9999999)(disch:=first|omega|(simp only[AN];omega))only[hG.get,q,↓KP,EK,↓reduceIte,reduceCtorEq,Nat.reduceEqDiff,Nat.reduceAdd,Nat.reduceLeDiff,Nat.reduceMul]
    refine C_call (hf _ l[i] _ (List.getElem_mem hi') hG fun H2 hg2 => ?_)
    have hg2n := hg2.next
    cases hp : p l[i] with
    | true =>
      simp(maxSteps:=9999999)(disch:=first|omega|(simp only[AN];omega))only[↓KP,EK,↓reduceIte,reduceCtorEq,Nat.reduceEqDiff,Nat.reduceAdd,Nat.reduceLeDiff,Nat.reduceMul]
      refine k _ _ (hG.trans hg2) ⟨fun _ => ?_, fun _ => by omega⟩
      rw [List.any_eq_true]; exact ⟨_, List.getElem_mem hi', hp⟩
    | false =>
      simp(maxSteps:=9999999)(disch:=first|omega|(simp only[AN];omega))only[e1,↓KP,EK,↓reduceIte,reduceCtorEq,Nat.reduceEqDiff,Nat.reduceAdd,Nat.reduceLeDiff,Nat.reduceMul]
      refine ⟨_, ?_, i + 1, _, rfl, ?_, ?_, (by rw [any_take_succ hi', hno, hp]; rfl), rfl⟩ <;> (first|omega|(with_reducible assumption)|(with_reducible(repeat first|exact Grew.refl _|assumption|apply Grew.alloc|refine Grew.set ?_ _ (by first|omega|(simp only[AN];omega))|refine Grew.trans ?_ hg2|refine Grew.trans ?_ hG);done)|(simp(maxSteps:=9999999)(disch:=first|omega|(simp only[AN];omega))only[hg2.get,hG.get,↓KP,EK,↓reduceIte,reduceCtorEq,Nat.reduceEqDiff,Nat.reduceAdd,Nat.reduceLeDiff,Nat.reduceMul]<;>first|omega|rfl))
  · have hie : i = l.length := by omega
    subst hie
    rw [List.take_length] at hno
    simp(maxSteps:=9999999)(disch:=first|omega|(simp only[AN];omega))only[↓KP,EK,↓reduceIte,reduceCtorEq,Nat.reduceEqDiff,Nat.reduceAdd,Nat.reduceLeDiff,Nat.reduceMul]
    exact k _ _ hG ⟨fun h => by omega, fun h => by rw [hno] at h; cases h⟩
theorem ContainsInt_run (v fv : AV) (l : List Int) (p : Int → Bool) (hv : IsInts (Old H) H v l) (hl : l.length < 1000000) (hf : Answers H fv I l p) (k : ∀ H', Grew H H' → R (.bool (l.any p)) H') : CallQ prog (.func 96 [] []) [v, fv] H R := by
  refine CallQ_enter (fn:=c96) rfl (Nat.le_of_ble_eq_true rfl) ?_;simp(maxSteps:=9999999)(disch:=first|omega|(simp only[AN];omega))only[c96,envFrom,↓KP,EK,↓reduceIte,reduceCtorEq,Nat.reduceEqDiff,Nat.reduceAdd,Nat.reduceLeDiff,Nat.reduceMul]
  refine C_call (IndexInt_run v fv l p hv hl hf fun H1 n hg hn => ?_)
  by_cases h0 : 0 ≤ n
  · simp(maxSteps:=9999999)(disch:=first|omega|(simp only[AN];omega))only[h0,↓KP,EK,↓reduceIte,reduceCtorEq,Nat.reduceEqDiff,Nat.reduceAdd,Nat.reduceLeDiff,Nat.reduceMul]
    rw [hn.1 h0] at k; exact k _ hg
  · simp(maxSteps:=9999999)(disch:=first|omega|(simp only[AN];omega))only[h0,↓KP,EK,↓reduceIte,reduceCtorEq,Nat.reduceEqDiff,Nat.reduceAdd,Nat.reduceLeDiff,Nat.reduceMul]
    rw [Bool.eq_false_iff.2 (fun h => h0 (hn.2 h))] at k; exact k _ hg
theorem IndexW_run (v fv : AV) (l : List Watcher) (p : Watcher → Bool) (hv : IsSl 4 EWatcher (Old H) H v l) (hl : l.length < 1000000) (hf : Answers H fv (fun w => .agg w.cells) l p) (k : ∀ H' (n : Int), Grew H H' → (0 ≤ n ↔ l.any p = true) → R (I n) H') : CallQ prog (.func 106 [] []) [v, fv] H R := by
  refine CallQ_enter (fn:=c106) rfl (Nat.le_of_ble_eq_true rfl) ?_;simp(maxSteps:=9999999)(disch:=first|omega|(simp only[AN];omega))only[c106,envFrom,hv.len,↓KP,EK,↓reduceIte,reduceCtorEq,Nat.reduceEqDiff,Nat.reduceAdd,Nat.reduceLeDiff,Nat.reduceMul]
  refine K_loop (fun mz ez H1 => ∃ (i : Nat) (tail : Env), ez = (0, v) :: (1, fv) :: (4, I 0) :: (7, I l.length) :: (8, I i) :: tail ∧ (Grew H H1) ∧ (i ≤ l.length) ∧ ((l.take i).any p = false) ∧ mz = l.length - i) _ ⟨0, _, rfl, ?_, ?_, ?_, rfl⟩ ?_
  iterate 3 (focus (first|(with_reducible rfl)|omega|(with_reducible(repeat first|exact Grew.refl _|assumption|apply Grew.alloc|refine Grew.set ?_ _ (by first|omega|(simp only[AN];omega)));done)|(simp(maxSteps:=9999999)(disch:=first|omega|(simp only[AN];omega))only[↓KP,EK,↓reduceIte,reduceCtorEq,Nat.reduceEqDiff,Nat.reduceAdd,Nat.reduceLeDiff,Nat.reduceMul]<;>first|omega|rfl)|(simp;done)|rfl))
  rintro mz ez H1 ⟨i, tail, rfl, hG, hil, hno, hmz⟩; subst mz; have hGn := hG.next
  simp(maxSteps:=9999999)(disch:=first|omega|(simp only[AN];omega))only[↓KP,EK,↓reduceIte,reduceCtorEq,Nat.reduceEqDiff,Nat.reduceAdd,Nat.reduceLeDiff,Nat.reduceMul]
  refine C_decide (fun hc => ?_) (fun hc => ?_)
  · have hi' : i < l.length := by omega
    obtain ⟨q_b, q_i, q_ro, q_vs, q_lt, q⟩ := rdW hv (k := i) rfl hi'
    have e1 : IntKind.i64.wrap ((i : Int) + 1) = ((i + 1 : Nat) : Int) := i64_in _ (by omega)
    simp(maxSteps:=9999999)(disch:=first|omega|(simp only[AN];omega))only[hG.get,q,↓KP,EK,↓reduceIte,reduceCtorEq,Nat.reduceEqDiff,Nat.reduceAdd,Nat.reduceLeDiff,Nat.reduceMul]
    refine C_call (hf _ l[i] _ (List.getElem_mem hi') hG fun H2 hg2 => ?_)
    have hg2n := hg2.next
    cases hp : p l[i] with
    | true =>
      simp(maxSteps:=9999999)(disch:=first|omega|(simp only[AN];omega))only[↓KP,EK,↓reduceIte,reduceCtorEq,Nat.reduceEqDiff,Nat.reduceAdd,Nat.reduceLeDiff,Nat.reduceMul]
      refine k _ _ (hG.trans hg2) ⟨fun _ => ?_, fun _ => by omega⟩
      rw [List.any_eq_true]; exact ⟨_, List.getElem_mem hi', hp⟩
    | false =>
      simp(maxSteps:=9999999)(disch:=first|omega|(simp only[AN];omega))only[e1,↓KP,EK,↓reduceIte,reduceCtorEq,Nat.reduceEqDiff,Nat.reduceAdd,Nat.reduceLeDiff,Nat.reduceMul]
      refine ⟨_, ?_, i + 1, _, rfl, ?_, ?_, (by rw [any_take_succ hi', hno, hp]; rfl), rfl⟩ <;> (first|omega|(with_reducible assumption)|(with_reducible(repeat first|exact Grew.refl _|assumption|apply Grew.alloc|refine Grew.set ?_ _ (by first|omega|(simp only[AN];omega))|refine Grew.trans ?_ hg2|refine Grew.trans ?_ hG);done)|(simp(maxSteps:=9999999)(disch:=first|omega|(simp only[AN];omega))only[hg2.get,hG.get,↓KP,EK,↓reduceIte,reduceCtorEq,Nat.reduceEqDiff,Nat.reduceAdd,Nat.reduceLeDiff,Nat.reduceMul]<;>first|omega|rfl))
  · have hie : i = l.length := by omega
    subst hie
    rw [List.take_length] at hno
    simp(maxSteps:=9999999)(disch:=first|omega|(simp only[AN];omega))only[↓KP,EK,↓reduceIte,reduceCtorEq,Nat.reduceEqDiff,Nat.reduceAdd,Nat.reduceLeDiff,Nat.reduceMul]
    exact k _ _ hG ⟨fun h => by omega, fun h => by rw [hno] at h; cases h⟩
theorem ContainsW_run (v fv : AV) (l : List Watcher) (p : Watcher → Bool) (hv : IsSl 4 EWatcher (Old H) H v l) (hl : l.length < 1000000) (hf : Answers H fv (fun w => .agg w.cells) l p) (k : ∀ H', Grew H H' → R (.bool (l.any p)) H') : CallQ prog (.func 92 [] []) [v, fv] H R := by
  refine CallQ_enter (fn:=c92) rfl (Nat.le_of_ble_eq_true rfl) ?_;simp(maxSteps:=9999999)(disch:=first|omega|(simp only[AN];omega))only[c92,envFrom,↓KP,EK,↓reduceIte,reduceCtorEq,Nat.reduceEqDiff,Nat.reduceAdd,Nat.reduceLeDiff,Nat.reduceMul]
  refine C_call (IndexW_run v fv l p hv hl hf fun H1 n hg hn => ?_)
  by_cases h0 : 0 ≤ n
  · simp(maxSteps:=9999999)(disch:=first|omega|(simp only[AN];omega))only[h0,↓KP,EK,↓reduceIte,reduceCtorEq,Nat.reduceEqDiff,Nat.reduceAdd,Nat.reduceLeDiff,Nat.reduceMul]
    rw [hn.1 h0] at k; exact k _ hg
  · simp(maxSteps:=9999999)(disch:=first|omega|(simp only[AN];omega))only[h0,↓KP,EK,↓reduceIte,reduceCtorEq,Nat.reduceEqDiff,Nat.reduceAdd,Nat.reduceLeDiff,Nat.reduceMul]
    rw [Bool.eq_false_iff.2 (fun h => h0 (hn.2 h))] at k; exact k _ hg
def offP (lo hi n : Int) : Bool := decide (n < lo) || decide (hi < n)
theorem off1_run (b1 b2 : Nat) (lo hi n : Int) (h1 : H.get b1 = some (.cells false [I lo])) (h2 : H.get b2 = some (.cells false [I hi])) (k : R (.bool (offP lo hi n)) H) : CallQ prog (.func 97 [] [.ptr b1 0, .ptr b2 0]) [I n] H R := by
  by_cases c1 : n < lo
  · refine CallQ_enter (fn:=c97) rfl (Nat.le_of_ble_eq_true rfl) ?_;simp(maxSteps:=9999999)(disch:=first|omega|(simp only[AN];omega))only[c97,envFrom,h1,h2,c1,↓KP,EK,↓reduceIte,reduceCtorEq,Nat.reduceEqDiff,Nat.reduceAdd,Nat.reduceLeDiff,Nat.reduceMul]
    simpa [offP, c1] using k
  · refine CallQ_enter (fn:=c97) rfl (Nat.le_of_ble_eq_true rfl) ?_;simp(maxSteps:=9999999)(disch:=first|omega|(simp only[AN];omega))only[c97,envFrom,h1,h2,c1,↓KP,EK,↓reduceIte,reduceCtorEq,Nat.reduceEqDiff,Nat.reduceAdd,Nat.reduceLeDiff,Nat.reduceMul]
    simpa [offP, c1] using k
theorem off_run (lo hi : Int) (v : AV) (l : List Int) (hv : IsInts (Old H) H v l) (hl : l.length < 1000000) (k : ∀ H', Grew H H' → R (.bool (l.any (offP lo hi))) H') : CallQ prog (.func 60 [] []) [I lo, I hi, v] H R := by
  have hg0 : Grew H ((H.alloc (.cells false [I lo])).alloc (.cells false [I hi])) := GW
  refine CallQ_enter (fn:=c60) rfl (Nat.le_of_ble_eq_true rfl) ?_;simp(maxSteps:=9999999)(disch:=first|omega|(simp only[AN];omega))only[c60,envFrom,↓KP,EK,↓reduceIte,reduceCtorEq,Nat.reduceEqDiff,Nat.reduceAdd,Nat.reduceLeDiff,Nat.reduceMul]
  refine C_call (ContainsInt_run v _ l (offP lo hi) (hv.grow EInt.stays hg0) hl (fun H1 x R hx hg hk => ?_) fun H2 hg2 => ?_)
  · exact off1_run _ _ lo hi x (by simp(maxSteps:=9999999)(disch:=first|omega|(simp only[AN];omega))only[hg.get,↓KP,EK,↓reduceIte,reduceCtorEq,Nat.reduceEqDiff,Nat.reduceAdd,Nat.reduceLeDiff,Nat.reduceMul]) (by simp(maxSteps:=9999999)(disch:=first|omega|(simp only[AN];omega))only[hg.get,↓KP,EK,↓reduceIte,reduceCtorEq,Nat.reduceEqDiff,Nat.reduceAdd,Nat.reduceLeDiff,Nat.reduceMul]) (hk _ (Grew.refl _))
  · simp(maxSteps:=9999999)(disch:=first|omega|(simp only[AN];omega))only[↓KP,EK,↓reduceIte,reduceCtorEq,Nat.reduceEqDiff,Nat.reduceAdd,Nat.reduceLeDiff,Nat.reduceMul]
    exact k _ (hg0.trans hg2)
end Go.Proofs.Ytgncpbkedhchfaa
namespace Go.Proofs.Ytgncpbkedhchfaa
open Go.AM Go.IntWalk
set_option maxRecDepth 100000
set_option maxHeartbeats 2000000
set_option linter.unusedSimpArgs false
variable {H : AH} {R : AV → AH → Prop}
theorem flaws_run (k : R (.slice H.next 0 4 2) (H.alloc (.cells false [I 6, .func 89 [] [], I 5, .func 91 [] [], I 7, .func 94 [] [], I 2, .func 95 [] []]))) : CallQ prog (.func 57 [] []) [] H R := by
  refine CallQ_enter (fn:=c57) rfl (Nat.le_of_ble_eq_true rfl) ?_;simp(maxSteps:=9999999)(disch:=first|omega|(simp only[AN];omega))only[c57,envFrom,↓KP,EK,↓reduceIte,reduceCtorEq,Nat.reduceEqDiff,Nat.reduceAdd,Nat.reduceLeDiff,Nat.reduceMul]
  exact k
theorem flaw1_run (w : Watcher) (v : AV) (k : ∀ H', Grew H H' → R (.bool (!isName w.name)) H') : CallQ prog (.func 89 [] []) [.agg w.cells, v] H R := by
  refine CallQ_enter (fn:=c89) rfl (Nat.le_of_ble_eq_true rfl) ?_;simp(maxSteps:=9999999)(disch:=first|omega|(simp only[AN];omega))only[c89,envFrom,Watcher.cells,↓KP,EK,↓reduceIte,reduceCtorEq,Nat.reduceEqDiff,Nat.reduceAdd,Nat.reduceLeDiff,Nat.reduceMul]
  first|refine C_call ?_|refine C_calld ?_
  refine dName_run w.name fun H1 hg1 => ?_
  have hg1n:=hg1.next;try simp only[AN]at hg1n
  simp(maxSteps:=9999999)(disch:=first|omega|(simp only[AN];omega))only[↓KP,EK,↓reduceIte,reduceCtorEq,Nat.reduceEqDiff,Nat.reduceAdd,Nat.reduceLeDiff,Nat.reduceMul]
  exact k _ (((Grew.refl H).alloc _).trans hg1)
theorem flaw2_run (w : Watcher) (v : AV) (l : List Watcher) (hv : IsSl 4 EWatcher (Old H) H v l) (hl : l.length < 1000000) (k : ∀ H', Grew H H' → R (.bool (l.any fun x => x.name.toList == w.name.toList)) H') : CallQ prog (.func 91 [] []) [.agg w.cells, v] H R := by
  have hg0 : Grew H (H.alloc (.cells false w.cells)) := GW
  refine CallQ_enter (fn:=c91) rfl (Nat.le_of_ble_eq_true rfl) ?_;simp(maxSteps:=9999999)(disch:=first|omega|(simp only[AN];omega))only[c91,envFrom,↓KP,EK,↓reduceIte,reduceCtorEq,Nat.reduceEqDiff,Nat.reduceAdd,Nat.reduceLeDiff,Nat.reduceMul]
  refine C_call (ContainsW_run v _ l (fun x => x.name.toList == w.name.toList) (hv.grow EWatcher.stays hg0) hl (fun H1 x R hx hg hk => ?_) fun H2 hg2 => ?_)
  · have e2 : binA .eql (.str x.name) (.str w.name) = some (.bool (x.name.toList == w.name.toList)) := rfl
    have hb : H1.get H.next = some (.cells false w.cells) := by simp(maxSteps:=9999999)(disch:=first|omega|(simp only[AN];omega))only[hg.get,↓KP,EK,↓reduceIte,reduceCtorEq,Nat.reduceEqDiff,Nat.reduceAdd,Nat.reduceLeDiff,Nat.reduceMul]
    refine CallQ_enter (fn:=c93) rfl (Nat.le_of_ble_eq_true rfl) ?_;simp(maxSteps:=9999999)(disch:=first|omega|(simp only[AN];omega))only[c93,envFrom,Watcher.cells,↓KP,EK,↓reduceIte,reduceCtorEq,Nat.reduceEqDiff,Nat.reduceAdd,Nat.reduceLeDiff,Nat.reduceMul]
    simp only [Watcher.cells] at hb
    have hgn := hg.next; simp only [AH.next_alloc] at hgn
    simp(maxSteps:=9999999)(disch:=first|omega|(simp only[AN];omega))only[hb,e2,↓KP,EK,↓reduceIte,reduceCtorEq,Nat.reduceEqDiff,Nat.reduceAdd,Nat.reduceLeDiff,Nat.reduceMul]
    exact hk _ ((Grew.refl _).alloc _)
  · simp(maxSteps:=9999999)(disch:=first|omega|(simp only[AN];omega))only[↓KP,EK,↓reduceIte,reduceCtorEq,Nat.reduceEqDiff,Nat.reduceAdd,Nat.reduceLeDiff,Nat.reduceMul]
    exact k _ (hg0.trans hg2)
def flaw3 (w : Watcher) : Bool := [w.lo, w.hi].any (offP 1 300) || [w.off].any (offP 0 9)
theorem flaw3_run (w : Watcher) (v : AV) (k : ∀ H', Grew H H' → R (.bool (flaw3 w)) H') : CallQ prog (.func 94 [] []) [.agg w.cells, v] H R := by
  refine CallQ_enter (fn:=c94) rfl (Nat.le_of_ble_eq_true rfl) ?_;simp(maxSteps:=9999999)(disch:=first|omega|(simp only[AN];omega))only[c94,envFrom,Watcher.cells,↓KP,EK,↓reduceIte,reduceCtorEq,Nat.reduceEqDiff,Nat.reduceAdd,Nat.reduceLeDiff,Nat.reduceMul]
  refine C_call (off_run 1 300 _ _ (two_slice _ w.lo w.hi) (by simp) fun H1 hg1 => ?_)
  have hg1' : Grew H H1 := (((Grew.refl H).alloc _).alloc _).trans hg1
  have hgn := hg1.next; simp only [AH.next_alloc] at hgn
  have hb : H1.get H.next = some (.cells false [.str w.name, I w.lo, I w.hi, I w.off]) := by simp(maxSteps:=9999999)(disch:=first|omega|(simp only[AN];omega))only[hg1.get,↓KP,EK,↓reduceIte,reduceCtorEq,Nat.reduceEqDiff,Nat.reduceAdd,Nat.reduceLeDiff,Nat.reduceMul]
  unfold flaw3 at k
  cases h1 : [w.lo, w.hi].any (offP 1 300) with
  | true =>
    rw [h1] at k
    simp(maxSteps:=9999999)(disch:=first|omega|(simp only[AN];omega))only[↓KP,EK,↓reduceIte,reduceCtorEq,Nat.reduceEqDiff,Nat.reduceAdd,Nat.reduceLeDiff,Nat.reduceMul]
    exact k _ hg1'
  | false =>
    rw [h1] at k
    simp(maxSteps:=9999999)(disch:=first|omega|(simp only[AN];omega))only[hb,↓KP,EK,↓reduceIte,reduceCtorEq,Nat.reduceEqDiff,Nat.reduceAdd,Nat.reduceLeDiff,Nat.reduceMul]
    refine C_call (off_run 0 9 _ _ (one_slice _ w.off) (by simp) fun H2 hg2 => ?_)
    simp(maxSteps:=9999999)(disch:=first|omega|(simp only[AN];omega))only[↓KP,EK,↓reduceIte,reduceCtorEq,Nat.reduceEqDiff,Nat.reduceAdd,Nat.reduceLeDiff,Nat.reduceMul]
    exact k _ ((hg1'.alloc _).trans hg2)
theorem flaw4_run (w : Watcher) (v : AV) (hlo : 1 ≤ w.lo ∧ w.lo ≤ 300) (hhi : 1 ≤ w.hi ∧ w.hi ≤ 300) (k : ∀ H', Grew H H' → R (.bool ([w.hi - w.lo].any (offP 0 6))) H') : CallQ prog (.func 95 [] []) [.agg w.cells, v] H R := by
  have e1 : IntKind.i64.wrap (w.hi - w.lo) = w.hi - w.lo := i64_in _ (by omega)
  refine CallQ_enter (fn:=c95) rfl (Nat.le_of_ble_eq_true rfl) ?_;simp(maxSteps:=9999999)(disch:=first|omega|(simp only[AN];omega))only[c95,envFrom,Watcher.cells,e1,↓KP,EK,↓reduceIte,reduceCtorEq,Nat.reduceEqDiff,Nat.reduceAdd,Nat.reduceLeDiff,Nat.reduceMul]
  refine C_call (off_run 0 6 _ _ (one_slice _ (w.hi - w.lo)) (by simp) fun H1 hg1 => ?_)
  simp(maxSteps:=9999999)(disch:=first|omega|(simp only[AN];omega))only[↓KP,EK,↓reduceIte,reduceCtorEq,Nat.reduceEqDiff,Nat.reduceAdd,Nat.reduceLeDiff,Nat.reduceMul]
  exact k _ ((((Grew.refl H).alloc _).alloc _).trans hg1)
theorem wE_cases (h : House) (i : Nat) (w : Watcher) : wE h i w =
    if isName w.name = false then 6 else if ((h.ws.take i).any fun x => x.name.toList == w.name.toList) = true then 5 else if flaw3 w = true then 7 else if [w.hi - w.lo].any (offP 0 6) = true then 2 else 0 := by
  unfold wE freshE
  cases hn : isName w.name with
  | false => simp
  | true =>
    simp only [if_true, List.any_map, Function.comp_def]
    cases ha : ((h.ws.take i).any fun x => x.name.toList == w.name.toList) with
    | true => simp
    | false =>
      simp only [Bool.false_eq_true, if_false, if_true, reduceCtorEq]
      unfold watcherE endsE flaw3 offP
      by_cases h1 : 1 ≤ w.lo ∧ w.lo ≤ 300 ∧ 1 ≤ w.hi ∧ w.hi ≤ 300
      · rw [if_pos h1]
        by_cases h2 : 0 ≤ w.off ∧ w.off ≤ 9
        · have e1 : ¬ w.lo < 1 := by omega
          have e2 : ¬ 300 < w.lo := by omega
          have e3 : ¬ w.hi < 1 := by omega
          have e4 : ¬ 300 < w.hi := by omega
          have e5 : ¬ w.off < 0 := by omega
          have e6 : ¬ 9 < w.off := by omega
          by_cases h3 : w.hi < w.lo
          · have e7 : w.hi - w.lo < 0 := by omega
            simp [e1, e2, e3, e4, e5, e6, h2, h3, e7]
          · have e7 : ¬ w.hi - w.lo < 0 := by omega
            simp [e1, e2, e3, e4, e5, e6, h2, h3, e7]
        · have e5 : w.off < 0 ∨ 9 < w.off := by omega
          rcases e5 with e5 | e5 <;> simp [e5] <;> omega
      · rw [if_neg h1]
        have e5 : w.lo < 1 ∨ 300 < w.lo ∨ w.hi < 1 ∨ 300 < w.hi := by omega
        rcases e5 with e5 | e5 | e5 | e5 <;> simp [e5]
theorem checkW_run (b : Nat) (v1 v2 : AV) (h : House) (i : Nat) (hb : H.get b = some (.cells false [v1, v2])) (hh : IsHouse (Old H) H v1 v2 h) (hi : i < h.ws.length) (hw : h.ws.length ≤ 3) (hblt : b < H.next)
    (k : ∀ H', Grew H H' → R (I (wE h i h.ws[i])) H') : CallQ prog (.func 56 [] [.ptr b 0]) [I i, .agg h.ws[i].cells] H R := by
  obtain ⟨vf, hfs, hvf⟩ := hh.1.front (n := i) (k := i) rfl (by omega)
  rw [wE_cases] at k
  generalize h.ws[i] = w at k ⊢
  have hwl : w.cells.length = 4 := rfl
  have hwt : w.cells.take 4 = w.cells := rfl
  refine CallQ_enter (fn:=c56) rfl (Nat.le_of_ble_eq_true rfl) ?_;simp(maxSteps:=9999999)(disch:=first|omega|(simp only[AN];omega))only[c56,envFrom,↓KP,EK,↓reduceIte,reduceCtorEq,Nat.reduceEqDiff,Nat.reduceAdd,Nat.reduceLeDiff,Nat.reduceMul]
  refine C_call (flaws_run ?_)
  simp(maxSteps:=9999999)(disch:=first|omega|(simp only[AN];omega))only[↓KP,EK,↓reduceIte,reduceCtorEq,Nat.reduceEqDiff,Nat.reduceAdd,Nat.reduceLeDiff,Nat.reduceMul]
  refine K_loop (fun mz ez H1 => ∃ (j : Nat) (tail : Env), ez = (0, I i) :: (1, .agg w.cells) :: (2, .ptr b 0) :: (4, .ptr H.next 0) :: (5, I 0) :: (8, .slice (H.next + 1) 0 4 2) :: (9, I 4) :: (10, I j) :: tail ∧ (Grew H H1) ∧ (H.next + 1 < H1.next) ∧ (H1.get H.next = some (.cells false w.cells)) ∧ (H1.get (H.next + 1) = some (.cells false [I 6, .func 89 [] [], I 5, .func 91 [] [], I 7, .func 94 [] [], I 2, .func 95 [] []])) ∧ (j ≤ 4) ∧ (1 ≤ j → isName w.name = true) ∧ (2 ≤ j → ((h.ws.take i).any fun x => x.name.toList == w.name.toList) = false) ∧ (3 ≤ j → flaw3 w = false) ∧ (4 ≤ j → [w.hi - w.lo].any (offP 0 6) = false) ∧ mz = 4 - j) _ ⟨0, _, rfl, ?_, (by simp(maxSteps:=9999999)(disch:=first|omega|(simp only[AN];omega))only[↓KP,EK,↓reduceIte,reduceCtorEq,Nat.reduceEqDiff,Nat.reduceAdd,Nat.reduceLeDiff,Nat.reduceMul]; omega), ?_, ?_, ?_, (by intro h; omega), (by intro h; omega), (by intro h; omega), (by intro h; omega), rfl⟩ ?_
  iterate 4 (focus (first|(with_reducible rfl)|omega|(with_reducible(repeat first|exact Grew.refl _|assumption|apply Grew.alloc|refine Grew.set ?_ _ (by first|omega|(simp only[AN];omega)));done)|(simp(maxSteps:=9999999)(disch:=first|omega|(simp only[AN];omega))only[↓KP,EK,↓reduceIte,reduceCtorEq,Nat.reduceEqDiff,Nat.reduceAdd,Nat.reduceLeDiff,Nat.reduceMul]<;>first|omega|rfl)|(simp;done)|rfl))
  rintro mz ez H1 ⟨j, tail, rfl, hG, hlt, hb4, hfl, hj, h1, h2, h3, h4, hmz⟩; subst mz; have hGn := hG.next
  have hGn := hG.next
  rcases (show j = 0 ∨ j = 1 ∨ j = 2 ∨ j = 3 ∨ j = 4 by omega) with rfl | rfl | rfl | rfl | rfl
  · have c0 : ((0 : Nat) : Int) = 0 := rfl
    have d0 : (0 : Int) < 4 := by decide
    have q0 : ∀ S, opIdxSl 2 (.slice (H.next + 1) 0 4 2) (I 0) S = some (.ptr (H.next + 1) (0 * 2), S) := fun S => rfl
    have e1 : IntKind.i64.wrap (0 + 1) = ((0 + 1 : Nat) : Int) := rfl
    simp(maxSteps:=9999999)(disch:=first|omega|(simp only[AN];omega))only[c0,d0,q0,hfl,↓KP,EK,↓reduceIte,reduceCtorEq,Nat.reduceEqDiff,Nat.reduceAdd,Nat.reduceLeDiff,Nat.reduceMul]
    refine K_draw ?_;simp(maxSteps:=9999999)(disch:=first|omega|(simp only[AN];omega))only[hb4,hfl,hfs,hb,hG.get,hwl,hwt,↓KP,EK,↓reduceIte,reduceCtorEq,Nat.reduceEqDiff,Nat.reduceAdd,Nat.reduceLeDiff,Nat.reduceMul]
    refine C_calld (flaw1_run w vf fun H2 hg2 => ?_)
    have hg2n := hg2.next; simp only [AH.next_alloc, AH.next_set] at hg2n
    have hg2' : Grew H H2 := Grew.trans GW hg2
    simp(maxSteps:=9999999)(disch:=first|omega|(simp only[AN];omega))only[hg2.get,↓KP,EK,↓reduceIte,reduceCtorEq,Nat.reduceEqDiff,Nat.reduceAdd,Nat.reduceLeDiff,Nat.reduceMul]
    refine C_bool (fun hx => ?_) (fun hx => ?_)
    · simp(maxSteps:=9999999)(disch:=first|omega|(simp only[AN];omega))only[hg2.get,↓KP,EK,↓reduceIte,reduceCtorEq,Nat.reduceEqDiff,Nat.reduceAdd,Nat.reduceLeDiff,Nat.reduceMul]
      rw [if_pos (by simpa using hx)] at k
      exact k _ hg2'
    · simp(maxSteps:=9999999)(disch:=first|omega|(simp only[AN];omega))only[hg2.get,e1,↓KP,EK,↓reduceIte,reduceCtorEq,Nat.reduceEqDiff,Nat.reduceAdd,Nat.reduceLeDiff,Nat.reduceMul]
      refine ⟨_, ?_, 0 + 1, _, rfl, ?_, ?_, ?_, ?_, ?_, (by exact fun _ => by simpa using hx), (by intro h; omega), (by intro h; omega), (by intro h; omega), rfl⟩ <;> (first|omega|(with_reducible assumption)|(with_reducible(repeat first|exact Grew.refl _|assumption|apply Grew.alloc|refine Grew.set ?_ _ (by first|omega|(simp only[AN];omega))|refine Grew.trans ?_ hg2|refine Grew.trans ?_ hG);done)|(simp(maxSteps:=9999999)(disch:=first|omega|(simp only[AN];omega))only[hb4,hfl,hg2.get,hG.get,↓KP,EK,↓reduceIte,reduceCtorEq,Nat.reduceEqDiff,Nat.reduceAdd,Nat.reduceLeDiff,Nat.reduceMul]<;>first|omega|rfl))
  · have c0 : ((1 : Nat) : Int) = 1 := rfl
    have d0 : (1 : Int) < 4 := by decide
    have q0 : ∀ S, opIdxSl 2 (.slice (H.next + 1) 0 4 2) (I 1) S = some (.ptr (H.next + 1) (1 * 2), S) := fun S => rfl
    have e1 : IntKind.i64.wrap (1 + 1) = ((1 + 1 : Nat) : Int) := rfl
    simp(maxSteps:=9999999)(disch:=first|omega|(simp only[AN];omega))only[c0,d0,q0,hfl,↓KP,EK,↓reduceIte,reduceCtorEq,Nat.reduceEqDiff,Nat.reduceAdd,Nat.reduceLeDiff,Nat.reduceMul]
    refine K_draw ?_;simp(maxSteps:=9999999)(disch:=first|omega|(simp only[AN];omega))only[hb4,hfl,hfs,hb,hG.get,hwl,hwt,↓KP,EK,↓reduceIte,reduceCtorEq,Nat.reduceEqDiff,Nat.reduceAdd,Nat.reduceLeDiff,Nat.reduceMul]
    refine C_calld (flaw2_run w vf _ (hvf.move EWatcher.stays (F' := Old _) fun b hb => ⟨(by show b < H1.next + 1; have : b < H.next := hb; omega), (by have : b < H.next := hb; simp(maxSteps:=9999999)(disch:=first|omega|(simp only[AN];omega))only[hG.get,↓KP,EK,↓reduceIte,reduceCtorEq,Nat.reduceEqDiff,Nat.reduceAdd,Nat.reduceLeDiff,Nat.reduceMul])⟩) (by rw [List.length_take]; omega) fun H2 hg2 => ?_)
    have hg2n := hg2.next; simp only [AH.next_alloc, AH.next_set] at hg2n
    have hg2' : Grew H H2 := Grew.trans GW hg2
    simp(maxSteps:=9999999)(disch:=first|omega|(simp only[AN];omega))only[hg2.get,↓KP,EK,↓reduceIte,reduceCtorEq,Nat.reduceEqDiff,Nat.reduceAdd,Nat.reduceLeDiff,Nat.reduceMul]
    refine C_bool (fun hx => ?_) (fun hx => ?_)
    · simp(maxSteps:=9999999)(disch:=first|omega|(simp only[AN];omega))only[hg2.get,↓KP,EK,↓reduceIte,reduceCtorEq,Nat.reduceEqDiff,Nat.reduceAdd,Nat.reduceLeDiff,Nat.reduceMul]
      rw [if_neg (by simp [h1]), if_pos hx] at k
      exact k _ hg2'
    · simp(maxSteps:=9999999)(disch:=first|omega|(simp only[AN];omega))only[hg2.get,e1,↓KP,EK,↓reduceIte,reduceCtorEq,Nat.reduceEqDiff,Nat.reduceAdd,Nat.reduceLeDiff,Nat.reduceMul]
      refine ⟨_, ?_, 1 + 1, _, rfl, ?_, ?_, ?_, ?_, ?_, (by exact fun _ => h1 (by omega)), (by exact fun _ => hx), (by intro h; omega), (by intro h; omega), rfl⟩ <;> (first|omega|(with_reducible assumption)|(with_reducible(repeat first|exact Grew.refl _|assumption|apply Grew.alloc|refine Grew.set ?_ _ (by first|omega|(simp only[AN];omega))|refine Grew.trans ?_ hg2|refine Grew.trans ?_ hG);done)|(simp(maxSteps:=9999999)(disch:=first|omega|(simp only[AN];omega))only[hb4,hfl,hg2.get,hG.get,↓KP,EK,↓reduceIte,reduceCtorEq,Nat.reduceEqDiff,Nat.reduceAdd,Nat.reduceLeDiff,Nat.reduceMul]<;>first|omega|rfl))
  · have c0 : ((2 : Nat) : Int) = 2 := rfl
    have d0 : (2 : Int) < 4 := by decide
    have q0 : ∀ S, opIdxSl 2 (.slice (H.next + 1) 0 4 2) (I 2) S = some (.ptr (H.next + 1) (2 * 2), S) := fun S => rfl
    have e1 : IntKind.i64.wrap (2 + 1) = ((2 + 1 : Nat) : Int) := rfl
    simp(maxSteps:=9999999)(disch:=first|omega|(simp only[AN];omega))only[c0,d0,q0,hfl,↓KP,EK,↓reduceIte,reduceCtorEq,Nat.reduceEqDiff,Nat.reduceAdd,Nat.reduceLeDiff,Nat.reduceMul]
    refine K_draw ?_;simp(maxSteps:=9999999)(disch:=first|omega|(simp only[AN];omega))only[hb4,hfl,hfs,hb,hG.get,hwl,hwt,↓KP,EK,↓reduceIte,reduceCtorEq,Nat.reduceEqDiff,Nat.reduceAdd,Nat.reduceLeDiff,Nat.reduceMul]
    refine C_calld (flaw3_run w vf fun H2 hg2 => ?_)
    have hg2n := hg2.next; simp only [AH.next_alloc, AH.next_set] at hg2n
    have hg2' : Grew H H2 := Grew.trans GW hg2
    simp(maxSteps:=9999999)(disch:=first|omega|(simp only[AN];omega))only[hg2.get,↓KP,EK,↓reduceIte,reduceCtorEq,Nat.reduceEqDiff,Nat.reduceAdd,Nat.reduceLeDiff,Nat.reduceMul]
    refine C_bool (fun hx => ?_) (fun hx => ?_)
    · simp(maxSteps:=9999999)(disch:=first|omega|(simp only[AN];omega))only[hg2.get,↓KP,EK,↓reduceIte,reduceCtorEq,Nat.reduceEqDiff,Nat.reduceAdd,Nat.reduceLeDiff,Nat.reduceMul]
      rw [if_neg (by simp [h1]), if_neg (by simp [h2]), if_pos hx] at k
      exact k _ hg2'
    · simp(maxSteps:=9999999)(disch:=first|omega|(simp only[AN];omega))only[hg2.get,e1,↓KP,EK,↓reduceIte,reduceCtorEq,Nat.reduceEqDiff,Nat.reduceAdd,Nat.reduceLeDiff,Nat.reduceMul]
      refine ⟨_, ?_, 2 + 1, _, rfl, ?_, ?_, ?_, ?_, ?_, (by exact fun _ => h1 (by omega)), (by exact fun _ => h2 (by omega)), (by exact fun _ => hx), (by intro h; omega), rfl⟩ <;> (first|omega|(with_reducible assumption)|(with_reducible(repeat first|exact Grew.refl _|assumption|apply Grew.alloc|refine Grew.set ?_ _ (by first|omega|(simp only[AN];omega))|refine Grew.trans ?_ hg2|refine Grew.trans ?_ hG);done)|(simp(maxSteps:=9999999)(disch:=first|omega|(simp only[AN];omega))only[hb4,hfl,hg2.get,hG.get,↓KP,EK,↓reduceIte,reduceCtorEq,Nat.reduceEqDiff,Nat.reduceAdd,Nat.reduceLeDiff,Nat.reduceMul]<;>first|omega|rfl))
  · have hf3 := h3 (by omega)
    have hf3' : (1 ≤ w.lo ∧ w.lo ≤ 300) ∧ (1 ≤ w.hi ∧ w.hi ≤ 300) := by
      simp [flaw3, offP] at hf3; omega
    · have c0 : ((3 : Nat) : Int) = 3 := rfl
      have d0 : (3 : Int) < 4 := by decide
      have q0 : ∀ S, opIdxSl 2 (.slice (H.next + 1) 0 4 2) (I 3) S = some (.ptr (H.next + 1) (3 * 2), S) := fun S => rfl
      have e1 : IntKind.i64.wrap (3 + 1) = ((3 + 1 : Nat) : Int) := rfl
      simp(maxSteps:=9999999)(disch:=first|omega|(simp only[AN];omega))only[c0,d0,q0,hfl,↓KP,EK,↓reduceIte,reduceCtorEq,Nat.reduceEqDiff,Nat.reduceAdd,Nat.reduceLeDiff,Nat.reduceMul]
      refine K_draw ?_;simp(maxSteps:=9999999)(disch:=first|omega|(simp only[AN];omega))only[hb4,hfl,hfs,hb,hG.get,hwl,hwt,↓KP,EK,↓reduceIte,reduceCtorEq,Nat.reduceEqDiff,Nat.reduceAdd,Nat.reduceLeDiff,Nat.reduceMul]
      refine C_calld (flaw4_run w vf hf3'.1 hf3'.2 fun H2 hg2 => ?_)
      have hg2n := hg2.next; simp only [AH.next_alloc, AH.next_set] at hg2n
      have hg2' : Grew H H2 := Grew.trans GW hg2
      simp(maxSteps:=9999999)(disch:=first|omega|(simp only[AN];omega))only[hg2.get,↓KP,EK,↓reduceIte,reduceCtorEq,Nat.reduceEqDiff,Nat.reduceAdd,Nat.reduceLeDiff,Nat.reduceMul]
      refine C_bool (fun hx => ?_) (fun hx => ?_)
      · simp(maxSteps:=9999999)(disch:=first|omega|(simp only[AN];omega))only[hg2.get,↓KP,EK,↓reduceIte,reduceCtorEq,Nat.reduceEqDiff,Nat.reduceAdd,Nat.reduceLeDiff,Nat.reduceMul]
        rw [if_neg (by simp [h1]), if_neg (by simp [h2]), if_neg (by simp [h3]), if_pos hx] at k
        exact k _ hg2'
      · simp(maxSteps:=9999999)(disch:=first|omega|(simp only[AN];omega))only[hg2.get,e1,↓KP,EK,↓reduceIte,reduceCtorEq,Nat.reduceEqDiff,Nat.reduceAdd,Nat.reduceLeDiff,Nat.reduceMul]
        refine ⟨_, ?_, 3 + 1, _, rfl, ?_, ?_, ?_, ?_, ?_, (by exact fun _ => h1 (by omega)), (by exact fun _ => h2 (by omega)), (by exact fun _ => hf3), (by exact fun _ => hx), rfl⟩ <;> (first|omega|(with_reducible assumption)|(with_reducible(repeat first|exact Grew.refl _|assumption|apply Grew.alloc|refine Grew.set ?_ _ (by first|omega|(simp only[AN];omega))|refine Grew.trans ?_ hg2|refine Grew.trans ?_ hG);done)|(simp(maxSteps:=9999999)(disch:=first|omega|(simp only[AN];omega))only[hb4,hfl,hg2.get,hG.get,↓KP,EK,↓reduceIte,reduceCtorEq,Nat.reduceEqDiff,Nat.reduceAdd,Nat.reduceLeDiff,Nat.reduceMul]<;>first|omega|rfl))
  · have c0 : ((4 : Nat) : Int) = 4 := rfl
    have d0 : ¬ (4 : Int) < 4 := by decide
    simp(maxSteps:=9999999)(disch:=first|omega|(simp only[AN];omega))only[c0,d0,↓KP,EK,↓reduceIte,reduceCtorEq,Nat.reduceEqDiff,Nat.reduceAdd,Nat.reduceLeDiff,Nat.reduceMul]
    rw [if_neg (by simp [h1]), if_neg (by simp [h2]), if_neg (by simp [h3]), if_neg (by simp [h4])] at k
    exact k _ hG
end Go.Proofs.Ytgncpbkedhchfaa
namespace Go.Proofs.Ytgncpbkedhchfaa
open Go.AM Go.IntWalk
set_option maxRecDepth 100000
set_option maxHeartbeats 2000000
set_option linter.unusedSimpArgs false
variable {H : AH} {R : AV → AH → Prop}
theorem IsHouse.grow {H H' : AH} {v1 v2 : AV} {h : House} (hg : Grew H H') (hh : IsHouse (Old H) H v1 v2 h) : IsHouse (Old H') H' v1 v2 h := hh.move hg.keeps
def failE {α : Type} (f : Nat → α → Int) (l : List α) (most : Nat) : Int × Int :=
  if most < l.length then (0, 3) else match firstErr f 0 l with
    | some (i, e) => (i, e)
    | none => (0, 0)
theorem failW_run (b : Nat) (v1 v2 : AV) (h : House) (hb : H.get b = some (.cells false [v1, v2])) (hh : IsHouse (Old H) H v1 v2 h) (hblt : b < H.next)
    (k : ∀ H', Grew H H' → R (.tuple [I (failE (wE h) h.ws 3).1, I (failE (wE h) h.ws 3).2]) H') : CallQ prog (.func 55 [] []) [v1, I 3, .func 56 [] [.ptr b 0]] H R := by
  refine CallQ_enter (fn:=c55) rfl (Nat.le_of_ble_eq_true rfl) ?_;simp(maxSteps:=9999999)(disch:=first|omega|(simp only[AN];omega))only[c55,envFrom,hh.1.len,↓KP,EK,↓reduceIte,reduceCtorEq,Nat.reduceEqDiff,Nat.reduceAdd,Nat.reduceLeDiff,Nat.reduceMul]
  refine C_decide (fun hc => ?_) (fun hc => ?_)
  · simp(maxSteps:=9999999)(disch:=first|omega|(simp only[AN];omega))only[↓KP,EK,↓reduceIte,reduceCtorEq,Nat.reduceEqDiff,Nat.reduceAdd,Nat.reduceLeDiff,Nat.reduceMul]
    rw [failE, if_pos (by omega)] at k
    exact k _ (Grew.refl _)
  · have hw3 : h.ws.length ≤ 3 := by omega
    simp(maxSteps:=9999999)(disch:=first|omega|(simp only[AN];omega))only[hh.1.len,↓KP,EK,↓reduceIte,reduceCtorEq,Nat.reduceEqDiff,Nat.reduceAdd,Nat.reduceLeDiff,Nat.reduceMul]
    refine K_loop (fun mz ez H1 => ∃ (i : Nat) (tail : Env), ez = (0, v1) :: (1, I 3) :: (2, .func 56 [] [.ptr b 0]) :: (6, I 0) :: (7, I 0) :: (14, .bool (decide ((3 : Int) < h.ws.length))) :: (15, v1) :: (16, I h.ws.length) :: (17, I i) :: tail ∧ (Grew H H1) ∧ (i ≤ h.ws.length) ∧ (∀ j (hj : j < h.ws.length), j < i → wE h j h.ws[j] = 0) ∧ mz = h.ws.length - i) _ ⟨0, _, rfl, ?_, ?_, (by intro j hj h0; omega), rfl⟩ ?_
    iterate 2 (focus (first|(with_reducible rfl)|omega|(with_reducible(repeat first|exact Grew.refl _|assumption|apply Grew.alloc|refine Grew.set ?_ _ (by first|omega|(simp only[AN];omega)));done)|(simp(maxSteps:=9999999)(disch:=first|omega|(simp only[AN];omega))only[↓KP,EK,↓reduceIte,reduceCtorEq,Nat.reduceEqDiff,Nat.reduceAdd,Nat.reduceLeDiff,Nat.reduceMul]<;>first|omega|rfl)|(simp;done)|rfl))
    rintro mz ez H1 ⟨i, tail, rfl, hG, hil, hno, hmz⟩; subst mz; have hGn := hG.next
    simp(maxSteps:=9999999)(disch:=first|omega|(simp only[AN];omega))only[↓KP,EK,↓reduceIte,reduceCtorEq,Nat.reduceEqDiff,Nat.reduceAdd,Nat.reduceLeDiff,Nat.reduceMul]
    refine C_decide (fun hc1 => ?_) (fun hc1 => ?_)
    · have hi' : i < h.ws.length := by omega
      obtain ⟨q_b, q_i, q_ro, q_vs, q_lt, q⟩ := rdW hh.1 (k := i) rfl hi'
      have e1 : IntKind.i64.wrap ((i : Int) + 1) = ((i + 1 : Nat) : Int) := i64_in _ (by omega)
      simp(maxSteps:=9999999)(disch:=first|omega|(simp only[AN];omega))only[hG.get,q,Watcher.cells,↓KP,EK,↓reduceIte,reduceCtorEq,Nat.reduceEqDiff,Nat.reduceAdd,Nat.reduceLeDiff,Nat.reduceMul]
      first|refine C_call ?_|refine C_calld ?_
      refine checkW_run b v1 v2 h i (by simp(maxSteps:=9999999)(disch:=first|omega|(simp only[AN];omega))only[hG.get,hb,↓KP,EK,↓reduceIte,reduceCtorEq,Nat.reduceEqDiff,Nat.reduceAdd,Nat.reduceLeDiff,Nat.reduceMul]) (hh.grow GW) hi' hw3 (by have := hG.next; show b < H1.next + 1; omega) fun H2 hg2 => ?_
      have hg2n:=hg2.next;try simp only[AN]at hg2n
      have hg2' : Grew H H2 := Grew.trans GW hg2
      simp(maxSteps:=9999999)(disch:=first|omega|(simp only[AN];omega))only[↓KP,EK,↓reduceIte,reduceCtorEq,Nat.reduceEqDiff,Nat.reduceAdd,Nat.reduceLeDiff,Nat.reduceMul]
      refine C_ndecide (fun hz => ?_) (fun hz => ?_)
      rotate_left
      · simp(maxSteps:=9999999)(disch:=first|omega|(simp only[AN];omega))only[e1,↓KP,EK,↓reduceIte,reduceCtorEq,Nat.reduceEqDiff,Nat.reduceAdd,Nat.reduceLeDiff,Nat.reduceMul]
        refine ⟨_, ?_, i + 1, _, rfl, ?_, ?_, (by intro j hj hjn; by_cases hji : j = i; (subst hji; exact hz); exact hno j hj (by omega)), rfl⟩ <;> (first|omega|(with_reducible assumption)|(with_reducible(repeat first|exact Grew.refl _|assumption|apply Grew.alloc|refine Grew.set ?_ _ (by first|omega|(simp only[AN];omega)));done)|(simp(maxSteps:=9999999)(disch:=first|omega|(simp only[AN];omega))only[↓KP,EK,↓reduceIte,reduceCtorEq,Nat.reduceEqDiff,Nat.reduceAdd,Nat.reduceLeDiff,Nat.reduceMul]<;>first|omega|rfl))
      · simp(maxSteps:=9999999)(disch:=first|omega|(simp only[AN];omega))only[↓KP,EK,↓reduceIte,reduceCtorEq,Nat.reduceEqDiff,Nat.reduceAdd,Nat.reduceLeDiff,Nat.reduceMul]
        have hz' : (wE h) (0 + i) h.ws[i] ≠ 0 := by simpa using hz
        have hf := firstErr_some (f := wE h) (l := h.ws) (i := 0) (k := i) hi' (fun j hj hjn => by simpa using hno j hj hjn) hz'
        rw [failE, if_neg (by omega), hf] at k
        simp only [Nat.zero_add] at k
        exact k _ hg2'
    · simp(maxSteps:=9999999)(disch:=first|omega|(simp only[AN];omega))only[↓KP,EK,↓reduceIte,reduceCtorEq,Nat.reduceEqDiff,Nat.reduceAdd,Nat.reduceLeDiff,Nat.reduceMul]
      have hf : firstErr (wE h) 0 h.ws = none := firstErr_none fun j hj => by simpa using hno j hj (by omega)
      rw [failE, if_neg (by omega), hf] at k
      exact k _ hG
theorem checkD_run (b : Nat) (v1 v2 vd : AV) (h : House) (i : Nat) (n : Int) (day : List Int) (hb : H.get b = some (.cells false [v1, v2])) (hh : IsHouse (Old H) H v1 v2 h) (hd : IsInts (Old H) H vd day) (hw : h.ws.length ≤ 3)
    (k : ∀ H', Grew H H' → R (I (dE h i day)) H') : CallQ prog (.func 59 [] [.ptr b 0]) [I n, vd] H R := by
  by_cases hl : (day.length : Int) = h.ws.length
  · refine CallQ_enter (fn:=c59) rfl (Nat.le_of_ble_eq_true rfl) ?_;simp(maxSteps:=9999999)(disch:=first|omega|(simp only[AN];omega))only[c59,envFrom,hd.len,hb,hh.1.len,hl,↓KP,EK,↓reduceIte,reduceCtorEq,Nat.reduceEqDiff,Nat.reduceAdd,Nat.reduceLeDiff,Nat.reduceMul]
    refine C_call (off_run (-1) 120 vd day hd (by omega) fun H1 hg1 => ?_)
    have hdE : dE h i day = if day.any (offP (-1) 120) = true then 7 else 0 := by
      rw [dE, if_neg (by omega)]
      have : (day.all fun n => decide (-1 ≤ n) && decide (n ≤ 120)) = !day.any (offP (-1) 120) := by
        rw [List.all_eq_not_any_not]
        congr 2
        funext n
        simp only [offP, Bool.not_and]
        by_cases h1 : -1 ≤ n <;> by_cases h2 : n ≤ 120 <;> simp [h1, h2] <;> omega
      rw [this]
      cases day.any (offP (-1) 120) <;> rfl
    rw [hdE] at k
    simp(maxSteps:=9999999)(disch:=first|omega|(simp only[AN];omega))only[↓KP,EK,↓reduceIte,reduceCtorEq,Nat.reduceEqDiff,Nat.reduceAdd,Nat.reduceLeDiff,Nat.reduceMul]
    refine C_bool (fun hx => ?_) (fun hx => ?_)
    · simp(maxSteps:=9999999)(disch:=first|omega|(simp only[AN];omega))only[↓KP,EK,↓reduceIte,reduceCtorEq,Nat.reduceEqDiff,Nat.reduceAdd,Nat.reduceLeDiff,Nat.reduceMul]
      rw [if_pos hx] at k; exact k _ hg1
    · simp(maxSteps:=9999999)(disch:=first|omega|(simp only[AN];omega))only[↓KP,EK,↓reduceIte,reduceCtorEq,Nat.reduceEqDiff,Nat.reduceAdd,Nat.reduceLeDiff,Nat.reduceMul]
      rw [if_neg (by simp [hx])] at k; exact k _ hg1
  · refine CallQ_enter (fn:=c59) rfl (Nat.le_of_ble_eq_true rfl) ?_;simp(maxSteps:=9999999)(disch:=first|omega|(simp only[AN];omega))only[c59,envFrom,hd.len,hb,hh.1.len,hl,↓KP,EK,↓reduceIte,reduceCtorEq,Nat.reduceEqDiff,Nat.reduceAdd,Nat.reduceLeDiff,Nat.reduceMul]
    have : dE h i day = 3 := by rw [dE, if_pos (by omega)]
    rw [this] at k
    exact k _ (Grew.refl _)
theorem failD_run (b : Nat) (v1 v2 : AV) (h : House) (hb : H.get b = some (.cells false [v1, v2])) (hh : IsHouse (Old H) H v1 v2 h) (hblt : b < H.next) (hw : h.ws.length ≤ 3)
    (k : ∀ H', Grew H H' → R (.tuple [I (failE (dE h) h.days 4).1, I (failE (dE h) h.days 4).2]) H') : CallQ prog (.func 58 [] []) [v2, I 4, .func 59 [] [.ptr b 0]] H R := by
  refine CallQ_enter (fn:=c58) rfl (Nat.le_of_ble_eq_true rfl) ?_;simp(maxSteps:=9999999)(disch:=first|omega|(simp only[AN];omega))only[c58,envFrom,hh.2.len,↓KP,EK,↓reduceIte,reduceCtorEq,Nat.reduceEqDiff,Nat.reduceAdd,Nat.reduceLeDiff,Nat.reduceMul]
  refine C_decide (fun hc => ?_) (fun hc => ?_)
  · simp(maxSteps:=9999999)(disch:=first|omega|(simp only[AN];omega))only[↓KP,EK,↓reduceIte,reduceCtorEq,Nat.reduceEqDiff,Nat.reduceAdd,Nat.reduceLeDiff,Nat.reduceMul]
    rw [failE, if_pos (by omega)] at k
    exact k _ (Grew.refl _)
  · have hw4 : h.days.length ≤ 4 := by omega
    simp(maxSteps:=9999999)(disch:=first|omega|(simp only[AN];omega))only[hh.2.len,↓KP,EK,↓reduceIte,reduceCtorEq,Nat.reduceEqDiff,Nat.reduceAdd,Nat.reduceLeDiff,Nat.reduceMul]
    refine K_loop (fun mz ez H1 => ∃ (i : Nat) (tail : Env), ez = (0, v2) :: (1, I 4) :: (2, .func 59 [] [.ptr b 0]) :: (6, I 0) :: (7, I 0) :: (14, .bool (decide ((4 : Int) < h.days.length))) :: (15, v2) :: (16, I h.days.length) :: (17, I i) :: tail ∧ (Grew H H1) ∧ (i ≤ h.days.length) ∧ (∀ j (hj : j < h.days.length), j < i → dE h j h.days[j] = 0) ∧ mz = h.days.length - i) _ ⟨0, _, rfl, ?_, ?_, (by intro j hj h0; omega), rfl⟩ ?_
    iterate 2 (focus (first|(with_reducible rfl)|omega|(with_reducible(repeat first|exact Grew.refl _|assumption|apply Grew.alloc|refine Grew.set ?_ _ (by first|omega|(simp only[AN];omega)));done)|(simp(maxSteps:=9999999)(disch:=first|omega|(simp only[AN];omega))only[↓KP,EK,↓reduceIte,reduceCtorEq,Nat.reduceEqDiff,Nat.reduceAdd,Nat.reduceLeDiff,Nat.reduceMul]<;>first|omega|rfl)|(simp;done)|rfl))
    rintro mz ez H1 ⟨i, tail, rfl, hG, hil, hno, hmz⟩; subst mz; have hGn := hG.next
    simp(maxSteps:=9999999)(disch:=first|omega|(simp only[AN];omega))only[↓KP,EK,↓reduceIte,reduceCtorEq,Nat.reduceEqDiff,Nat.reduceAdd,Nat.reduceLeDiff,Nat.reduceMul]
    refine C_decide (fun hc1 => ?_) (fun hc1 => ?_)
    · have hi' : i < h.days.length := by omega
      obtain ⟨q_b, q_i, q_ro, q_vs, vo, q_lt, hvo, q⟩ := hh.2.rdSl rfl hi'
      have e1 : IntKind.i64.wrap ((i : Int) + 1) = ((i + 1 : Nat) : Int) := i64_in _ (by omega)
      simp(maxSteps:=9999999)(disch:=first|omega|(simp only[AN];omega))only[hG.get,q,↓KP,EK,↓reduceIte,reduceCtorEq,Nat.reduceEqDiff,Nat.reduceAdd,Nat.reduceLeDiff,Nat.reduceMul]
      first|refine C_call ?_|refine C_calld ?_
      refine checkD_run b v1 v2 vo h i i h.days[i] (by simp(maxSteps:=9999999)(disch:=first|omega|(simp only[AN];omega))only[hG.get,hb,↓KP,EK,↓reduceIte,reduceCtorEq,Nat.reduceEqDiff,Nat.reduceAdd,Nat.reduceLeDiff,Nat.reduceMul]) (hh.grow hG) (hvo.grow EInt.stays hG) hw fun H2 hg2 => ?_
      have hg2n:=hg2.next;try simp only[AN]at hg2n
      simp(maxSteps:=9999999)(disch:=first|omega|(simp only[AN];omega))only[↓KP,EK,↓reduceIte,reduceCtorEq,Nat.reduceEqDiff,Nat.reduceAdd,Nat.reduceLeDiff,Nat.reduceMul]
      refine C_ndecide (fun hz => ?_) (fun hz => ?_)
      rotate_left
      · simp(maxSteps:=9999999)(disch:=first|omega|(simp only[AN];omega))only[e1,↓KP,EK,↓reduceIte,reduceCtorEq,Nat.reduceEqDiff,Nat.reduceAdd,Nat.reduceLeDiff,Nat.reduceMul]
        refine ⟨_, ?_, i + 1, _, rfl, ?_, ?_, (by intro j hj hjn; by_cases hji : j = i; (subst hji; exact hz); exact hno j hj (by omega)), rfl⟩ <;> (first|omega|(with_reducible assumption)|(with_reducible(repeat first|exact Grew.refl _|assumption|apply Grew.alloc|refine Grew.set ?_ _ (by first|omega|(simp only[AN];omega))|refine Grew.trans ?_ hg2|refine Grew.trans ?_ hG);done)|(simp(maxSteps:=9999999)(disch:=first|omega|(simp only[AN];omega))only[hg2.get,hG.get,↓KP,EK,↓reduceIte,reduceCtorEq,Nat.reduceEqDiff,Nat.reduceAdd,Nat.reduceLeDiff,Nat.reduceMul]<;>first|omega|rfl))
      · simp(maxSteps:=9999999)(disch:=first|omega|(simp only[AN];omega))only[↓KP,EK,↓reduceIte,reduceCtorEq,Nat.reduceEqDiff,Nat.reduceAdd,Nat.reduceLeDiff,Nat.reduceMul]
        have hz' : (dE h) (0 + i) h.days[i] ≠ 0 := by simpa using hz
        have hf := firstErr_some (f := dE h) (l := h.days) (i := 0) (k := i) hi' (fun j hj hjn => by simpa using hno j hj hjn) hz'
        rw [failE, if_neg (by omega), hf] at k
        simp only [Nat.zero_add] at k
        exact k _ (hG.trans hg2)
    · simp(maxSteps:=9999999)(disch:=first|omega|(simp only[AN];omega))only[↓KP,EK,↓reduceIte,reduceCtorEq,Nat.reduceEqDiff,Nat.reduceAdd,Nat.reduceLeDiff,Nat.reduceMul]
      have hf : firstErr (dE h) 0 h.days = none := firstErr_none fun j hj => by simpa using hno j hj (by omega)
      rw [failE, if_neg (by omega), hf] at k
      exact k _ hG
theorem Check_run (v1 v2 : AV) (h : House) (hh : IsHouse (Old H) H v1 v2 h)
    (k : ∀ H', Grew H H' → R (.tuple [I (checkE h).1, I (checkE h).2.1, I (checkE h).2.2]) H') : CallQ prog (.func 16 [] []) [.agg [v1, v2]] H R := by
  refine CallQ_enter (fn:=c16) rfl (Nat.le_of_ble_eq_true rfl) ?_;simp(maxSteps:=9999999)(disch:=first|omega|(simp only[AN];omega))only[c16,envFrom,↓KP,EK,↓reduceIte,reduceCtorEq,Nat.reduceEqDiff,Nat.reduceAdd,Nat.reduceLeDiff,Nat.reduceMul]
  first|refine C_call ?_|refine C_calld ?_
  refine failW_run H.next v1 v2 h (by simp(maxSteps:=9999999)(disch:=first|omega|(simp only[AN];omega))only[↓KP,EK,↓reduceIte,reduceCtorEq,Nat.reduceEqDiff,Nat.reduceAdd,Nat.reduceLeDiff,Nat.reduceMul]) (hh.grow GW) (by simp(maxSteps:=9999999)(disch:=first|omega|(simp only[AN];omega))only[↓KP,EK,↓reduceIte,reduceCtorEq,Nat.reduceEqDiff,Nat.reduceAdd,Nat.reduceLeDiff,Nat.reduceMul]; omega) fun H1 hg1 => ?_
  have hg1n:=hg1.next;try simp only[AN]at hg1n
  have hg1' : Grew H H1 := ((Grew.refl H).alloc _).trans hg1
  have hb : H1.get H.next = some (.cells false [v1, v2]) := by simp(maxSteps:=9999999)(disch:=first|omega|(simp only[AN];omega))only[hg1.get,↓KP,EK,↓reduceIte,reduceCtorEq,Nat.reduceEqDiff,Nat.reduceAdd,Nat.reduceLeDiff,Nat.reduceMul]
  by_cases h3 : 3 < h.ws.length
  · have hf : failE (wE h) h.ws 3 = (0, 3) := by rw [failE, if_pos h3]
    rw [checkE, if_pos h3] at k
    have e3 : ¬ (3 : Int) = 0 := by decide
    simp(maxSteps:=9999999)(disch:=first|omega|(simp only[AN];omega))only[hf,e3,↓KP,EK,↓reduceIte,reduceCtorEq,Nat.reduceEqDiff,Nat.reduceAdd,Nat.reduceLeDiff,Nat.reduceMul]
    exact k _ hg1'
  · cases hf : firstErr (wE h) 0 h.ws with
    | some x =>
      obtain ⟨i, e⟩ := x
      have hf' : failE (wE h) h.ws 3 = ((i : Int), e) := by rw [failE, if_neg h3, hf]
      have he := firstErr_ne hf
      rw [checkE, if_neg h3, hf] at k
      simp(maxSteps:=9999999)(disch:=first|omega|(simp only[AN];omega))only[hf',he,↓KP,EK,↓reduceIte,reduceCtorEq,Nat.reduceEqDiff,Nat.reduceAdd,Nat.reduceLeDiff,Nat.reduceMul]
      exact k _ hg1'
    | none =>
      have hf' : failE (wE h) h.ws 3 = (0, 0) := by rw [failE, if_neg h3, hf]
      rw [checkE, if_neg h3, hf] at k
      simp(maxSteps:=9999999)(disch:=first|omega|(simp only[AN];omega))only[hf',hb,↓KP,EK,↓reduceIte,reduceCtorEq,Nat.reduceEqDiff,Nat.reduceAdd,Nat.reduceLeDiff,Nat.reduceMul]
      first|refine C_call ?_|refine C_calld ?_
      refine failD_run H.next v1 v2 h hb (hh.grow hg1') (by omega) (by omega) fun H2 hg2 => ?_
      have hg2n:=hg2.next;try simp only[AN]at hg2n
      have hg2' := hg1'.trans hg2
      simp only at k
      by_cases h4 : 4 < h.days.length
      · have hq : failE (dE h) h.days 4 = (0, 3) := by rw [failE, if_pos h4]
        rw [if_pos h4] at k
        have e3 : ¬ (3 : Int) = 0 := by decide
        simp(maxSteps:=9999999)(disch:=first|omega|(simp only[AN];omega))only[hq,e3,↓KP,EK,↓reduceIte,reduceCtorEq,Nat.reduceEqDiff,Nat.reduceAdd,Nat.reduceLeDiff,Nat.reduceMul]
        exact k _ hg2'
      · cases hd : firstErr (dE h) 0 h.days with
        | some x =>
          obtain ⟨i, e⟩ := x
          have hq : failE (dE h) h.days 4 = ((i : Int), e) := by rw [failE, if_neg h4, hd]
          have he := firstErr_ne hd
          rw [if_neg h4, hd] at k
          simp(maxSteps:=9999999)(disch:=first|omega|(simp only[AN];omega))only[hq,he,↓KP,EK,↓reduceIte,reduceCtorEq,Nat.reduceEqDiff,Nat.reduceAdd,Nat.reduceLeDiff,Nat.reduceMul]
          exact k _ hg2'
        | none =>
          have hq : failE (dE h) h.days 4 = (0, 0) := by rw [failE, if_neg h4, hd]
          rw [if_neg h4, hd] at k
          simp(maxSteps:=9999999)(disch:=first|omega|(simp only[AN];omega))only[hq,↓KP,EK,↓reduceIte,reduceCtorEq,Nat.reduceEqDiff,Nat.reduceAdd,Nat.reduceLeDiff,Nat.reduceMul]
          exact k _ hg2'
end Go.Proofs.Ytgncpbkedhchfaa
namespace Go.AM
def Kept (K : Nat → Prop) (l : Nat) (H1 H2 : AH) : Prop := H1.next ≤ H2.next ∧ ∀ b, b < H1.next → (K b ∨ l < b) → H2.get b = H1.get b
theorem Kept.refl {K : Nat → Prop} {l : Nat} {H : AH} : Kept K l H H := ⟨Nat.le_refl _, fun _ _ _ => rfl⟩
theorem Kept.trans {K : Nat → Prop} {l : Nat} {H1 H2 H3 : AH} (h : Kept K l H1 H2) (h' : Kept K l H2 H3) : Kept K l H1 H3 := ⟨Nat.le_trans h.1 h'.1, fun b hb hc => (h'.2 b (Nat.lt_of_lt_of_le hb h.1) hc).trans (h.2 b hb hc)⟩
def On (K : Nat → Prop) (M : Nat) (P : AH → Prop) : Prop := ∀ H1 H2 : AH, H1.next ≤ H2.next → (∀ b, ¬ K b → b < M → H2.get b = H1.get b) → P H1 → P H2
def Below (K : Nat → Prop) (P : AH → Prop) : Prop := ∀ H1 H2 : AH, H1.next ≤ H2.next → (∀ b, K b → H2.get b = H1.get b) → P H1 → P H2
def Iter (prog : Nat → Option AFunc) (g : AV) (L : List (List AV)) (K : Nat → Prop) (Inv : AH → Prop) : Prop :=
  Below K Inv ∧ (∀ H, Inv H → ∀ b, K b → b < H.next) ∧ ∀ (H : AH) (l : Nat) (Y : List (List AV) → AH → Prop) (S : AH → Prop) (R : AV → AH → Prop), (∀ b, K b → b < l) → l < H.next → Inv H →
    (∀ done, On K (l + 1) (Y done)) → On K (l + 1) S →
    (∀ done a rest H1, L = done ++ a :: rest → l < H1.next → Inv H1 → Y done H1 → CallQ prog (.yield l) a H1 fun v H2 => Kept K l H1 H2 ∧ ((v = .bool true ∧ Y (done ++ [a]) H2) ∨ (v = .bool false ∧ S H2))) →
    (∀ H2, H.next ≤ H2.next → Inv H2 → (Y L H2 ∨ S H2) → R (.tuple []) H2) →
    Y [] H → CallQ prog g [.yield l] H R
def AsgQ (prog : Nat → Option AFunc) (l : Nat) (bd : ACode) (Q : AExit → Env → AH → Prop) : AExit → Env → AH → Prop
  | .normal, e, H => ∃ L, H.get l = some (.loop L) ∧ L.state = .ready ∧ WpK prog bd e (H.set l (.loop { L with state := .busy })) [] Q
  | _, _, _ => False
def BodQ (P : AExit → AH → Prop) : AExit → Env → AH → Prop := fun x _ H => P x H
def BodE (x : Option AObj) (prog : Nat → Option AFunc) (l : Nat) (bd : ACode) (e : Env) (H : AH) (Q : AExit → Env → AH → Prop) : Prop := match x with
  | some (.loop L) => L.state = .ready ∧ WpK prog bd e (H.set l (.loop { L with state := .busy })) [] Q
  | _ => False
theorem K7 :
    (∀ {prog : Nat → Option AFunc} {l : Nat} {bd : ACode} {Q : AExit → Env → AH → Prop} {e : Env} {H : AH}, EndK prog .normal e H [] (AsgQ prog l bd Q) ↔ BodE (H.get l) prog l bd e H Q) ∧
    (∀ {prog : Nat → Option AFunc} {l : Nat} {bd : ACode} {Q : AExit → Env → AH → Prop} {e : Env} {H : AH} {L : ALoop}, BodE (some (.loop L)) prog l bd e H Q ↔ L.state = .ready ∧ WpK prog bd e (H.set l (.loop { L with state := .busy })) [] Q) ∧
    (∀ {prog : Nat → Option AFunc} {P : AExit → AH → Prop} {x : AExit} {e : Env} {H : AH}, EndK prog x e H [] (BodQ P) ↔ P x H) ∧
    (∀ {e : Env} {ts : List Nat} {vs : List AV} {t : Nat} {v : AV}, bindAll e (t :: ts) (v :: vs) = bindAll (e.put t v) ts vs) ∧
    (∀ {e : Env} {vs : List AV}, bindAll e [] vs = e) := by
  refine ⟨?_, Iff.rfl, Iff.rfl, rfl, ?_⟩
  · intro prog l bd Q e H
    constructor
    · rintro ⟨L, h1, h2, h3⟩
      unfold BodE; rw [h1]; exact ⟨h2, h3⟩
    · intro h
      unfold BodE at h
      split at h
      · rename_i L hL; exact ⟨L, hL, h⟩
      · exact h.elim
  · intro e vs; unfold bindAll; rfl
theorem K8 :
    (∀ {prog : Nat → Option AFunc} {l : Nat} {bd : ACode} {Q : AExit → Env → AH → Prop} {e : Env} {H : AH}, EndK prog .normal e H [] (AsgQ prog l bd Q) ↔ BodE (H.get l) prog l bd e H Q) ∧
    (∀ {prog : Nat → Option AFunc} {l : Nat} {bd : ACode} {Q : AExit → Env → AH → Prop} {e : Env} {H : AH} {L : ALoop}, BodE (some (.loop L)) prog l bd e H Q ↔ L.state = .ready ∧ WpK prog bd e (H.set l (.loop { L with state := .busy })) [] Q) ∧
    (∀ {e : Env} {ts : List Nat} {vs : List AV} {t : Nat} {v : AV}, bindAll e (t :: ts) (v :: vs) = bindAll (e.put t v) ts vs) ∧
    (∀ {e : Env} {vs : List AV}, bindAll e [] vs = e) := ⟨K7.1, K7.2.1, K7.2.2.2.1, K7.2.2.2.2⟩
theorem K_bod {prog : Nat → Option AFunc} {P : AExit → AH → Prop} {x : AExit} {e : Env} {H : AH} (h : P x H) : EndK prog x e H [] (BodQ P) := h
section
variable {prog : Nat → Option AFunc} {e : Env} {H : AH} {ks : List Kont} {Q : AExit → Env → AH → Prop}
theorem K_range {f : AOpd} {ps : List Nat} {as bd : ACode} {g : Nat} {fs cs : List AV} (hf : f.val e = some (.func g fs cs))
    (h : CallQ prog (.func g fs cs) [.yield H.next] (H.alloc (.loop { state := .ready, pending := .normal, env := e, params := ps, assign := as, body := bd })) fun _ H2 =>
      ∃ L, H2.get H.next = some (.loop L) ∧ L.state ≠ .busy ∧ EndK prog L.pending e (H2.set H.next (.loop { L with state := .over })) ks Q) : WpK prog (.range f ps as bd) e H ks Q := Wp_range hf h
theorem K_iter {f : AOpd} {ps : List Nat} {as bd : ACode} {g : Nat} {fs cs : List AV} {L : List (List AV)} {K : Nat → Prop} {Inv : AH → Prop} (hf : f.val e = some (.func g fs cs)) (hI : Iter prog (.func g fs cs) L K Inv) (hi : Inv H) (hps : ∀ a ∈ L, a.length = ps.length)
    (Y : List (List AV) → AH → Prop) (S : AExit → AH → Prop) (hY : ∀ done, On K H.next (Y done)) (hS : ∀ x, On K H.next (S x)) (h0 : Y [] H)
    (step : ∀ done a rest H1, L = done ++ a :: rest → H.next < H1.next → Inv H1 → Y done H1 → H1.get H.next = some (.loop { state := .ready, pending := .normal, env := e, params := ps, assign := as, body := bd }) →
      WpK prog as (bindAll e ps a) H1 [] (AsgQ prog H.next bd (BodQ fun x H3 => H3.get H.next = some (.loop { state := .busy, pending := .normal, env := e, params := ps, assign := as, body := bd }) ∧ Kept K H.next H1 H3 ∧ match x with
        | .normal => Y (done ++ [a]) H3
        | x => S x H3)))
    (fin : ∀ H2, H.next < H2.next → Inv H2 → Y L H2 → EndK prog .normal e H2 ks Q)
    (stop : ∀ x H2, x ≠ .normal → H.next < H2.next → Inv H2 → S x H2 → EndK prog x e H2 ks Q) : WpK prog (.range f ps as bd) e H ks Q := by
  obtain ⟨hB, hN, hI⟩ := hI
  have hNH := hN H hi
  let L0 : ALoop := { state := .ready, pending := .normal, env := e, params := ps, assign := as, body := bd }
  have old : ∀ {H1 : AH} {o : AObj} {b : Nat}, b < H.next → (H1.set H.next o).get b = H1.get b := fun hb => get_set_other (by omega)
  have st : ∀ {P : AH → Prop}, On K H.next P → ∀ (H3 : AH) (o : AObj), P H3 → P (H3.set H.next o) := fun hP H3 o h => hP H3 (H3.set H.next o) (Nat.le_refl _) (fun b _ hb => old hb) h
  have sb : ∀ (H3 : AH) (o : AObj), Inv H3 → Inv (H3.set H.next o) := fun H3 o h => hB H3 (H3.set H.next o) (Nat.le_refl _) (fun b hb => get_set_other (by have := hNH b hb; omega)) h
  refine K_range hf (hI (H.alloc (.loop L0)) H.next (fun done H' => Y done H' ∧ H'.get H.next = some (.loop L0)) (fun H' => ∃ x, x ≠ .normal ∧ S x H' ∧ H'.get H.next = some (.loop { L0 with state := .done, pending := x })) _ hNH (by simp) (hB _ _ (by simp) (fun b hb => get_alloc_old (hNH b hb)) hi) ?_ ?_ ?_ ?_ ?_)
  · rintro done H1 H2 hn hs ⟨h1, h2⟩
    exact ⟨hY done H1 H2 hn (fun b h3 h4 => hs b h3 (by omega)) h1, by rw [hs _ (fun hk => by have := hNH _ hk; omega) (by omega)]; exact h2⟩
  · rintro H1 H2 hn hs ⟨x, hx, h1, h2⟩
    exact ⟨x, hx, hS x H1 H2 hn (fun b h3 h4 => hs b h3 (by omega)) h1, by rw [hs _ (fun hk => by have := hNH _ hk; omega) (by omega)]; exact h2⟩
  · rintro done a rest H1 hL hl hi1 ⟨hy, hlo⟩
    have ha := hps a (by rw [hL]; simp)
    have hst := step done a rest H1 hL hl hi1 hy hlo
    refine CallQ_yield hlo (by simpa using ha) (hst.mono fun x e1 H2 hx => ?_)
    have hx : AsgQ prog H.next bd _ x e1 H2 := hx
    cases x with
    | exit i => exact hx.elim
    | ret => exact hx.elim
    | normal =>
      obtain ⟨L1, q1, q2, q3⟩ := hx
      refine ⟨rfl, L1, q1, q2, Wp.mono q3 fun y e3 H3 hy3 => ?_⟩
      obtain ⟨r1, r2, r3⟩ : H3.get H.next = _ ∧ Kept K H.next H1 H3 ∧ _ := hy3
      refine ⟨_, r1, ?_⟩
      have hk : ∀ o, Kept K H.next H1 (H3.set H.next o) := fun o => ⟨r2.1, fun b hb hc => by rw [get_set_other (by rcases hc with h | h; have := hNH b h; omega; omega)]; exact r2.2 b hb hc⟩
      cases y with
      | normal => exact ⟨hk _, .inl ⟨rfl, st (hY _) _ _ r3, get_set_same _ _ _⟩⟩
      | exit i => exact ⟨hk _, .inr ⟨rfl, .exit i, by simp, st (hS _) _ _ r3, get_set_same _ _ _⟩⟩
      | ret => exact ⟨hk _, .inr ⟨rfl, .ret, by simp, st (hS _) _ _ r3, get_set_same _ _ _⟩⟩
  · intro H2 hn hi2 hor
    simp only [AH.next_alloc] at hn
    rcases hor with ⟨hy, hlo⟩ | ⟨x, hx, hs, hlo⟩
    · exact ⟨L0, hlo, by simp [L0], fin _ (by simp; omega) (sb _ _ hi2) (st (hY _) _ _ hy)⟩
    · exact ⟨_, hlo, by simp, stop x _ hx (by simp; omega) (sb _ _ hi2) (st (hS _) _ _ hs)⟩
  · exact ⟨hY _ _ _ (by simp) (fun b _ hb => get_alloc_old hb) h0, get_alloc_new _ _⟩
end
end Go.AM
namespace Go.Proofs.Ytgncpbkedhchfaa
open Go.AM Go.IntWalk
set_option maxRecDepth 100000
set_option maxHeartbeats 2000000
set_option linter.unusedSimpArgs false
variable {H : AH} {R : AV → AH → Prop}
theorem shr_nat (b k : Nat) (hk : k < 64) : binA .shr (I b) (I k) = some (I (b / 2 ^ k : Nat)) := by
  have h1 : ¬ (k : Int) < 0 := by omega
  have h2 : min ((k : Int).toNat) IntKind.i64.bits = k := by simp only [IntKind.bits, Int.toNat_natCast]; omega
  show (if (k : Int) < 0 then none else some (I ((b : Int).fdiv (2 ^ (min ((k : Int).toNat) IntKind.i64.bits))))) = _
  rw [if_neg h1, h2]
  congr 2
  have : ((2 : Int) ^ k) = ((2 ^ k : Nat) : Int) := by simp
  rw [this, Int.fdiv_eq_ediv_of_nonneg _ (Int.natCast_nonneg _)]
  rfl
theorem and_one (x : Nat) (hx : x < 9223372036854775808) : binA .and (I x) (I 1) = some (I (x % 2 : Nat)) := by
  show (if IntKind.i64 = IntKind.i64 then some (I (IntKind.i64.wrap (BitVec.ofInt IntKind.i64.bits (x : Int) &&& BitVec.ofInt IntKind.i64.bits 1).toNat)) else none) = _
  rw [if_pos rfl]
  have h1 : (BitVec.ofInt IntKind.i64.bits (x : Int) &&& BitVec.ofInt IntKind.i64.bits 1).toNat = x % 2 := by
    have e : BitVec.ofInt 64 (x : Int) = BitVec.ofNat 64 x := BitVec.ofInt_natCast 64 x
    show (BitVec.ofInt 64 (x : Int) &&& BitVec.ofInt 64 1).toNat = x % 2
    rw [e, BitVec.toNat_and]
    have : (BitVec.ofInt 64 1).toNat = 1 := by decide
    rw [this, BitVec.toNat_ofNat, Nat.and_one_is_mod]
    omega
  rw [h1, i64_in _ (by omega)]
structure Looked (N p m : Nat) (v1 v2 : AV) (h : House) (but : Nat) (H : AH) : Prop where
  box : H.get p = some (.cells false [v1, v2, I but, .map m])
  hs : IsHouse (fun b => b < N ∧ b ≠ m) H v1 v2 h
  plt : p < N
  mlt : m < N
  pm : p ≠ m
  nle : N ≤ H.next
theorem Looked.old {N p m : Nat} {v1 v2 : AV} {h : House} {but : Nat} (hl : Looked N p m v1 v2 h but H) : IsHouse (Old H) H v1 v2 h := hl.hs.move fun b hb => ⟨Nat.lt_of_lt_of_le hb.1 hl.nle, rfl⟩
theorem Looked.up {N p m : Nat} {v1 v2 : AV} {h : House} {but : Nat} {H H' : AH} (hl : Looked N p m v1 v2 h but H) (hg : Grew H H') : Looked N p m v1 v2 h but H' := by
  have := hg.next
  have hn := hl.nle
  exact ⟨by rw [hg.get _ (by have := hl.plt; omega)]; exact hl.box, hl.hs.move fun b hb => ⟨hb, hg.get _ (by omega)⟩, hl.plt, hl.mlt, hl.pm, by omega⟩
theorem maskRow_get {p : Nat → Bool} {row : List Int} {base n : Nat} (hn : n < row.length) : (maskRow p row base row.length)[n]'(by rw [maskRow_length]; exact hn) = if p (base + n) = true then -1 else row[n] := by
  simp only [maskRow, List.getElem_map, List.getElem_range, hn, true_and, getI_eq hn]
theorem three_get (a b c : Int) {n : Nat} (hn : n < 3) : [I a, I b, I c][n]? = some (I ([a, b, c][n]'(by simpa using hn))) := by
  match n, hn with
  | 0, _ => rfl
  | 1, _ => rfl
  | 2, _ => rfl
theorem max_times {lo f x : Int} (hlo : 0 ≤ lo) (hf : 0 ≤ f) : max lo (f * max 0 x) = max lo (f * x) := by
  by_cases hx : 0 ≤ x
  · rw [show max 0 x = x from by omega]
  · rw [show max 0 x = 0 from by omega]
    have h1 : f * x ≤ 0 := Int.mul_nonpos_of_nonneg_of_nonpos hf (by omega)
    have h2 : f * 0 = 0 := Int.mul_zero f
    omega
theorem narrowAll_short : ∀ {ws : List Watcher} {cs fs : List Int} {s : Int × Int} {k : Nat}, ws.length ≤ k → narrowAll s (ws.take k) cs (fs.take k) = narrowAll s ws cs fs
  | [], _, _, _, _, _ => by simp [narrowAll]
  | w :: ws, cs, fs, s, 0, h => by simp at h
  | w :: ws, [], fs, s, k + 1, _ => by simp [narrowAll]
  | w :: ws, c :: cs, [], s, k + 1, _ => by simp [narrowAll]
  | w :: ws, c :: cs, f :: fs, s, k + 1, h => by
    simp only [List.take_succ_cons, narrowAll]
    exact narrowAll_short (by simpa using h)
theorem day_run {N p m : Nat} {v1 v2 : AV} {h : House} {but : Nat} (a b c : Int) (d : Nat) (hl : Looked N p m v1 v2 h but H) (hfine : Fine h) (hbut : but < 4096) (hd : d < h.days.length) (ha : 0 ≤ a ∧ a ≤ 1000) (hb : 0 ≤ b ∧ b ≤ 1000) (hc : 0 ≤ c ∧ c ≤ 1000)
    (k : ∀ H', Grew H H' → R (.agg [I (numbersE (maskE h but.testBit) d [a, b, c]).1, I (numbersE (maskE h but.testBit) d [a, b, c]).2]) H') : CallQ prog (.func 102 [.ptr p 0] []) [I d, .agg [I a, I b, I c]] H R := by
  have hbox := hl.box
  have hp := hl.plt
  have hN := hl.nle
  have hh := hl.old
  have hw3 := hfine.ws
  have hd4 := hfine.days
  have hdl := hfine.len _ (List.getElem_mem hd)
  obtain ⟨q_b, q_i, q_ro, q_vs, vo, q_lt, hvo, q⟩ := hh.2.rdSl rfl hd
  refine CallQ_enter (fn:=c102) rfl (Nat.le_of_ble_eq_true rfl) ?_;simp(maxSteps:=9999999)(disch:=first|omega|(simp only[AN];omega))only[c102,envFrom,hbox,q,hvo.len,↓KP,EK,↓reduceIte,reduceCtorEq,Nat.reduceEqDiff,Nat.reduceAdd,Nat.reduceLeDiff,Nat.reduceMul]
  refine K_loop (fun mz ez H1 => ∃ (n : Nat) (lo hi : Int) (tail : Env), ez = (0, .ptr p 0) :: (1, I d) :: (2, .agg [I a, I b, I c]) :: (5, .ptr H.next 0) :: (6, .ptr (H.next + 1) 0) :: (18, vo) :: (19, I h.days[d].length) :: (20, I n) :: tail ∧ (Grew H H1) ∧ (H.next + 1 < H1.next) ∧ (H1.get H.next = some (.cells false [I a, I b, I c])) ∧ (H1.get (H.next + 1) = some (.cells false [I lo, I hi])) ∧ (n ≤ h.ws.length) ∧ (0 ≤ lo) ∧ ((lo, hi) = narrowAll (0, 39999) (h.ws.take n) ((maskRow but.testBit h.days[d] (d * h.ws.length) h.ws.length).take n) ([a, b, c].take n)) ∧ mz = h.ws.length - n) _ ⟨0, 0, 39999, _, rfl, ?_, (by simp(maxSteps:=9999999)(disch:=first|omega|(simp only[AN];omega))only[↓KP,EK,↓reduceIte,reduceCtorEq,Nat.reduceEqDiff,Nat.reduceAdd,Nat.reduceLeDiff,Nat.reduceMul]; omega), ?_, ?_, ?_, ?_, ?_, rfl⟩ ?_
  iterate 6 (focus (first|(with_reducible rfl)|omega|(with_reducible(repeat first|exact Grew.refl _|assumption|apply Grew.alloc|refine Grew.set ?_ _ (by first|omega|(simp only[AN];omega)));done)|(simp(maxSteps:=9999999)(disch:=first|omega|(simp only[AN];omega))only[↓KP,EK,↓reduceIte,reduceCtorEq,Nat.reduceEqDiff,Nat.reduceAdd,Nat.reduceLeDiff,Nat.reduceMul]<;>first|omega|rfl)|(simp;done)|rfl))
  rintro mz ez H1 ⟨n, lo, hi, tail, rfl, hG, hlt, h5, h6, hn, hlo, hs, hmz⟩; subst mz; have hGn := hG.next
  simp(maxSteps:=9999999)(disch:=first|omega|(simp only[AN];omega))only[hdl,↓KP,EK,↓reduceIte,reduceCtorEq,Nat.reduceEqDiff,Nat.reduceAdd,Nat.reduceLeDiff,Nat.reduceMul]
  refine C_decide (fun hc1 => ?_) (fun hc1 => ?_)
  · have hn' : n < h.ws.length := by omega
    obtain ⟨r_b, r_i, r_ro, r_vs, r_lt, r⟩ := hvo.rdInt (k := n) rfl (by omega)
    obtain ⟨t_b, t_i, t_ro, t_vs, t_lt, t⟩ := rdW hh.1 (k := n) rfl hn'
    have hwf := hfine.w hn'
    have hcf := hfine.count _ (List.getElem_mem hd) _ (List.getElem_mem (l := h.days[d]) (n := n) (by omega))
    have e1 : IntKind.i64.wrap ((n : Int) + 1) = ((n + 1 : Nat) : Int) := i64_in _ (by omega)
    have hmul : d * h.ws.length ≤ 3 * 3 := Nat.mul_le_mul (by omega) (by omega)
    have hstep := narrowAll_take (s := (0, 39999)) hn' (show n < (maskRow but.testBit h.days[d] (d * h.ws.length) h.ws.length).length by rw [maskRow_length]; omega) (show n < [a, b, c].length by simp; omega)
    rw [← hs] at hstep
    have hmg : (maskRow but.testBit h.days[d] (d * h.ws.length) h.ws.length)[n]'(by rw [maskRow_length]; omega) = if but.testBit (d * h.ws.length + n) = true then -1 else h.days[d][n]'(by omega) := by
      rw [← maskRow_get (by omega)]; simp only [hdl]
    rw [hmg] at hstep
    have hf3 := three_get a b c (n := n) (by omega)
    have hix : ∀ S, opIdxArr 3 1 (.ptr H.next 0) (I n) S = some (.ptr H.next n, S) := fun S => by
      have : n < 3 := by omega
      simp [opIdxArr, natOf, this]
    have hfb : 0 ≤ [a, b, c][n]'(by simp; omega) ∧ [a, b, c][n]'(by simp; omega) ≤ 1000 := by
      rcases (show n = 0 ∨ n = 1 ∨ n = 2 by omega) with rfl | rfl | rfl <;> assumption
    generalize [a, b, c][n]'(by simp; omega) = f at hstep hf3 hfb
    generalize h.days[d][n]'(by omega) = x at r hcf hstep
    by_cases hx : x = -1
    · have hst : narrow (lo, hi) h.ws[n] (if but.testBit (d * h.ws.length + n) = true then -1 else x) f = (lo, hi) := by rw [narrow, if_pos (by split <;> omega)]
      rw [hst] at hstep
      simp(maxSteps:=9999999)(disch:=first|omega|(simp only[AN];omega))only[hG.get,r,↓KP,EK,↓reduceIte,reduceCtorEq,Nat.reduceEqDiff,Nat.reduceAdd,Nat.reduceLeDiff,Nat.reduceMul]
      refine K_draw ?_;simp(maxSteps:=9999999)(disch:=first|omega|(simp only[AN];omega))only[eq_true hx,e1,↓KP,EK,↓reduceIte,reduceCtorEq,Nat.reduceEqDiff,Nat.reduceAdd,Nat.reduceLeDiff,Nat.reduceMul]
      refine ⟨_, ?_, n + 1, lo, hi, _, rfl, ?_, ?_, ?_, ?_, ?_, ?_, (by exact hstep.symm), rfl⟩ <;> (first|omega|(with_reducible assumption)|(with_reducible(repeat first|exact Grew.refl _|assumption|apply Grew.alloc|refine Grew.set ?_ _ (by first|omega|(simp only[AN];omega)));done)|(simp(maxSteps:=9999999)(disch:=first|omega|(simp only[AN];omega))only[↓KP,EK,↓reduceIte,reduceCtorEq,Nat.reduceEqDiff,Nat.reduceAdd,Nat.reduceLeDiff,Nat.reduceMul]<;>first|omega|rfl))
    · have hk : d * h.ws.length + n < 64 := by omega
      have hdm : (d : Int) * h.ws.length = ((d * h.ws.length : Nat) : Int) := by simp
      have e2 : IntKind.i64.wrap ((d : Int) * h.ws.length) = ((d * h.ws.length : Nat) : Int) := by rw [hdm, i64_in _ (by omega)]
      have e3 : IntKind.i64.wrap (((d * h.ws.length : Nat) : Int) + n) = ((d * h.ws.length + n : Nat) : Int) := i64_in _ (by omega)
      have s1 := shr_nat but (d * h.ws.length + n) hk
      have hdiv : but / 2 ^ (d * h.ws.length + n) ≤ but := Nat.div_le_self _ _
      have s2 := and_one (but / 2 ^ (d * h.ws.length + n)) (by omega)
      have hbit : but.testBit (d * h.ws.length + n) = decide (((but / 2 ^ (d * h.ws.length + n) % 2 : Nat) : Int) = 1) := by
        rw [Nat.testBit_eq_decide_div_mod_eq, decide_eq_decide]; omega
      by_cases hbt : ((but / 2 ^ (d * h.ws.length + n) % 2 : Nat) : Int) = 1
      · have hst : narrow (lo, hi) h.ws[n] (if but.testBit (d * h.ws.length + n) = true then -1 else x) f = (lo, hi) := by rw [narrow, if_pos (by rw [hbit, decide_eq_true hbt]; rfl)]
        rw [hst] at hstep
        simp(maxSteps:=9999999)(disch:=first|omega|(simp only[AN];omega))only[hG.get,r,↓KP,EK,↓reduceIte,reduceCtorEq,Nat.reduceEqDiff,Nat.reduceAdd,Nat.reduceLeDiff,Nat.reduceMul]
        refine K_draw ?_;simp(maxSteps:=9999999)(disch:=first|omega|(simp only[AN];omega))only[hx,hG.get,hbox,hh.1.len,e1,e2,e3,s1,s2,hbt,↓KP,EK,↓reduceIte,reduceCtorEq,Nat.reduceEqDiff,Nat.reduceAdd,Nat.reduceLeDiff,Nat.reduceMul]
        refine ⟨_, ?_, n + 1, lo, hi, _, rfl, ?_, ?_, ?_, ?_, ?_, ?_, (by exact hstep.symm), rfl⟩ <;> (first|omega|(with_reducible assumption)|(with_reducible(repeat first|exact Grew.refl _|assumption|apply Grew.alloc|refine Grew.set ?_ _ (by first|omega|(simp only[AN];omega)));done)|(simp(maxSteps:=9999999)(disch:=first|omega|(simp only[AN];omega))only[↓KP,EK,↓reduceIte,reduceCtorEq,Nat.reduceEqDiff,Nat.reduceAdd,Nat.reduceLeDiff,Nat.reduceMul]<;>first|omega|rfl))
      · have hst : narrow (lo, hi) h.ws[n] (if but.testBit (d * h.ws.length + n) = true then -1 else x) f = (max lo (f * (x - h.ws[n].off)), min hi (f * (x + h.ws[n].off))) := by
          rw [if_neg (by rw [hbit, decide_eq_false hbt]; decide), narrow, if_neg hx, max_times hlo hfb.1]
        rw [hst] at hstep
        have e4 : IntKind.i64.wrap (x - h.ws[n].off) = x - h.ws[n].off := i64_in _ (by omega)
        have e5 : IntKind.i64.wrap (x + h.ws[n].off) = x + h.ws[n].off := i64_in _ (by omega)
        have b1 := abs_mul_le f (x - h.ws[n].off) 1000 1000 (by omega) (by omega)
        have b2 := abs_mul_le f (x + h.ws[n].off) 1000 1000 (by omega) (by omega)
        have e6 : IntKind.i64.wrap (f * (x - h.ws[n].off)) = f * (x - h.ws[n].off) := i64_in _ (by omega)
        have e7 : IntKind.i64.wrap (f * (x + h.ws[n].off)) = f * (x + h.ws[n].off) := i64_in _ (by omega)
        simp(maxSteps:=9999999)(disch:=first|omega|(simp only[AN];omega))only[hG.get,r,↓KP,EK,↓reduceIte,reduceCtorEq,Nat.reduceEqDiff,Nat.reduceAdd,Nat.reduceLeDiff,Nat.reduceMul]
        refine K_draw ?_;simp(maxSteps:=9999999)(disch:=first|omega|(simp only[AN];omega))only[hx,hG.get,hbox,hh.1.len,e1,e2,e3,s1,s2,hbt,↓KP,EK,↓reduceIte,reduceCtorEq,Nat.reduceEqDiff,Nat.reduceAdd,Nat.reduceLeDiff,Nat.reduceMul]
        simp(maxSteps:=9999999)(disch:=first|omega|(simp only[AN];omega))only[hG.get,hbox,t,Watcher.cells,↓KP,EK,↓reduceIte,reduceCtorEq,Nat.reduceEqDiff,Nat.reduceAdd,Nat.reduceLeDiff,Nat.reduceMul]
        refine K_draw ?_;simp(maxSteps:=9999999)(disch:=first|omega|(simp only[AN];omega))only[h5,h6,hix,hf3,e1,e4,e5,e6,e7,↓KP,EK,↓reduceIte,reduceCtorEq,Nat.reduceEqDiff,Nat.reduceAdd,Nat.reduceLeDiff,Nat.reduceMul]
        exact ⟨_, by omega, n + 1, _, _, _, rfl, (by first|omega|(with_reducible assumption)|(with_reducible(repeat first|exact Grew.refl _|assumption|apply Grew.alloc|refine Grew.set ?_ _ (by first|omega|(simp only[AN];omega)));done)|(simp(maxSteps:=9999999)(disch:=first|omega|(simp only[AN];omega))only[h5,h6,↓KP,EK,↓reduceIte,reduceCtorEq,Nat.reduceEqDiff,Nat.reduceAdd,Nat.reduceLeDiff,Nat.reduceMul]<;>first|omega|rfl)), (by first|omega|(with_reducible assumption)|(with_reducible(repeat first|exact Grew.refl _|assumption|apply Grew.alloc|refine Grew.set ?_ _ (by first|omega|(simp only[AN];omega)));done)|(simp(maxSteps:=9999999)(disch:=first|omega|(simp only[AN];omega))only[h5,h6,↓KP,EK,↓reduceIte,reduceCtorEq,Nat.reduceEqDiff,Nat.reduceAdd,Nat.reduceLeDiff,Nat.reduceMul]<;>first|omega|rfl)), (by first|omega|(with_reducible assumption)|(with_reducible(repeat first|exact Grew.refl _|assumption|apply Grew.alloc|refine Grew.set ?_ _ (by first|omega|(simp only[AN];omega)));done)|(simp(maxSteps:=9999999)(disch:=first|omega|(simp only[AN];omega))only[h5,h6,↓KP,EK,↓reduceIte,reduceCtorEq,Nat.reduceEqDiff,Nat.reduceAdd,Nat.reduceLeDiff,Nat.reduceMul]<;>first|omega|rfl)), (by first|omega|(with_reducible assumption)|(with_reducible(repeat first|exact Grew.refl _|assumption|apply Grew.alloc|refine Grew.set ?_ _ (by first|omega|(simp only[AN];omega)));done)|(simp(maxSteps:=9999999)(disch:=first|omega|(simp only[AN];omega))only[h5,h6,↓KP,EK,↓reduceIte,reduceCtorEq,Nat.reduceEqDiff,Nat.reduceAdd,Nat.reduceLeDiff,Nat.reduceMul]<;>first|omega|rfl)), (by first|omega|(with_reducible assumption)|(with_reducible(repeat first|exact Grew.refl _|assumption|apply Grew.alloc|refine Grew.set ?_ _ (by first|omega|(simp only[AN];omega)));done)|(simp(maxSteps:=9999999)(disch:=first|omega|(simp only[AN];omega))only[h5,h6,↓KP,EK,↓reduceIte,reduceCtorEq,Nat.reduceEqDiff,Nat.reduceAdd,Nat.reduceLeDiff,Nat.reduceMul]<;>first|omega|rfl)), (by first|omega|(with_reducible assumption)|(with_reducible(repeat first|exact Grew.refl _|assumption|apply Grew.alloc|refine Grew.set ?_ _ (by first|omega|(simp only[AN];omega)));done)|(simp(maxSteps:=9999999)(disch:=first|omega|(simp only[AN];omega))only[h5,h6,↓KP,EK,↓reduceIte,reduceCtorEq,Nat.reduceEqDiff,Nat.reduceAdd,Nat.reduceLeDiff,Nat.reduceMul]<;>first|omega|rfl)), (by exact hstep.symm), rfl⟩
  · have hne : n = h.ws.length := by omega
    subst hne
    have hend : narrowAll (0, 39999) (h.ws.take h.ws.length) ((maskRow but.testBit h.days[d] (d * h.ws.length) h.ws.length).take h.ws.length) ([a, b, c].take h.ws.length) = numbersE (maskE h but.testBit) d [a, b, c] := by
      rw [numbersE, narrowAll_short (Nat.le_refl _), getD_eq (by rw [maskE_length]; exact hd), maskE_day hd, List.take_of_length_le (by rw [maskRow_length]; omega), hdl]
      rfl
    rw [hend] at hs
    simp(maxSteps:=9999999)(disch:=first|omega|(simp only[AN];omega))only[h6,↓KP,EK,↓reduceIte,reduceCtorEq,Nat.reduceEqDiff,Nat.reduceAdd,Nat.reduceLeDiff,Nat.reduceMul]
    rw [← hs] at k
    refine k _ ?_
    exact GW
end Go.Proofs.Ytgncpbkedhchfaa
namespace Go.Proofs.Ytgncpbkedhchfaa
open Go.AM Go.IntWalk
set_option maxRecDepth 100000
set_option maxHeartbeats 4000000
set_option linter.unusedSimpArgs false
variable {H : AH} {R : AV → AH → Prop}
abbrev lookE (h : House) (but : Nat) : House := maskE h but.testBit
def pad3 (fs : List Int) : List Int := [getI fs 0, getI fs 1, getI fs 2]
def numsTo (h : House) (fs : List Int) (n : Nat) : List Int := (List.range 4).flatMap fun d => if d < n then [(numbersE h d fs).1, (numbersE h d fs).2] else [0, 0]
def numsE (h : House) (fs : List Int) : List Int := numsTo h fs h.days.length
def argT (h : House) (fs : List Int) : List AV := [.agg ((pad3 fs).map I), .agg ((numsE h fs).map I)]
def ValOk (h : House) (fs : List Int) (v : AV) : Prop := ∃ cs : List Int, v = .agg (cs.map I) ∧ cs.length = 8 ∧ (okE h fs = true → cs = numsE h fs) ∧ (okE h fs = false → 0 < h.days.length ∧ ∃ rest, cs = 1 :: 0 :: rest)
def Cache (h : House) (es : List (AV × AV)) : Prop := ∀ kv ∈ es, ∃ a b c : Int, kv.1 = .agg [I a, I b, I c] ∧ ValOk h [a, b, c] kv.2
theorem eq3 (a b c a' b' c' : Int) : eqFlatA true [.i, .i, .i] (.agg [I a, I b, I c]) (.agg [I a', I b', I c']) = some (a == a' && (b == b' && (c == c' && true))) := by
  simp [eqFlatA, eqCells]
theorem Cache.find {h : House} (a b c : Int) : ∀ {es : List (AV × AV)}, Cache h es → findA true [.i, .i, .i] (.agg [I a, I b, I c]) es = some none ∨ ∃ v, findA true [.i, .i, .i] (.agg [I a, I b, I c]) es = some (some v) ∧ ValOk h [a, b, c] v
  | [], _ => .inl rfl
  | (k, v) :: es, hc => by
    obtain ⟨a', b', c', hk, hv⟩ := hc (k, v) (by simp)
    simp only at hk hv
    subst hk
    simp only [findA, eq3]
    cases he : (a == a' && (b == b' && (c == c' && true))) with
    | true =>
      simp only [Bool.and_eq_true, beq_iff_eq, and_true] at he
      obtain ⟨rfl, rfl, rfl⟩ := he
      exact .inr ⟨v, rfl, hv⟩
    | false => exact Cache.find a b c fun kv hkv => hc kv (by simp [hkv])
theorem Cache.put {h : House} (a b c : Int) {v : AV} (hv : ValOk h [a, b, c] v) : ∀ {es : List (AV × AV)}, Cache h es → ∃ es', putA true [.i, .i, .i] (.agg [I a, I b, I c]) v es = some es' ∧ Cache h es'
  | [], _ => ⟨_, rfl, fun kv hkv => by simp only [List.mem_singleton] at hkv; subst hkv; exact ⟨a, b, c, rfl, hv⟩⟩
  | (k, v') :: es, hc => by
    obtain ⟨a', b', c', hk, hv'⟩ := hc (k, v') (by simp)
    simp only at hk hv'
    subst hk
    simp only [putA, eq3]
    cases he : (a == a' && (b == b' && (c == c' && true))) with
    | true =>
      refine ⟨_, rfl, fun kv hkv => ?_⟩
      rcases List.mem_cons.1 hkv with rfl | hkv
      · exact ⟨a, b, c, rfl, hv⟩
      · exact hc kv (by simp [hkv])
    | false =>
      obtain ⟨es', h1, h2⟩ := Cache.put a b c hv (es := es) fun kv hkv => hc kv (by simp [hkv])
      refine ⟨(.agg [I a', I b', I c'], v') :: es', by simp only [h1, Option.map_some], fun kv hkv => ?_⟩
      rcases List.mem_cons.1 hkv with rfl | hkv
      · exact ⟨a', b', c', rfl, hv'⟩
      · exact h2 kv hkv
structure Ready (N p m bh : Nat) (v1 v2 : AV) (h : House) (but : Nat) (B H : AH) : Prop where
  base : ∀ b, b < N → b ≠ m → H.get b = B.get b
  look : Looked N p m v1 v2 h but H
  cache : ∃ es, H.get m = some (.map es) ∧ Cache (lookE h but) es
  bhn : N ≤ bh
  box : H.get bh = some (.cells false [.ptr p 0])
  lt : bh < H.next
abbrev Kh (N bh : Nat) : Nat → Prop := fun b => b < N ∨ b = bh
theorem Kh.not {N bh b : Nat} (h : ¬ Kh N bh b) : N ≤ b ∧ b ≠ bh := by
  simp only [Kh, not_or] at h; omega
theorem Ready.keep {N p m bh : Nat} {v1 v2 : AV} {h : House} {but : Nat} {B H1 H2 : AH} (hr : Ready N p m bh v1 v2 h but B H1) (hn : H1.next ≤ H2.next) (hs : ∀ b, Kh N bh b → H2.get b = H1.get b) : Ready N p m bh v1 v2 h but B H2 := by
  obtain ⟨base, ⟨a1, a2, a3, a4, a5, a6⟩, ⟨es, b1, b2⟩, c1, c2, c3⟩ := hr
  refine ⟨fun b h1 h2 => by rw [hs b (.inl h1)]; exact base b h1 h2, ⟨by rw [hs _ (.inl a3)]; exact a1, a2.move fun b hb => ⟨hb, hs _ (.inl hb.1)⟩, a3, a4, a5, by omega⟩, ⟨es, by rw [hs _ (.inl a4)]; exact b1, b2⟩, c1, by rw [hs _ (.inr rfl)]; exact c2, by omega⟩
theorem Ready.up {N p m bh : Nat} {v1 v2 : AV} {h : House} {but : Nat} {B H1 H2 : AH} (hr : Ready N p m bh v1 v2 h but B H1) (hg : Grew H1 H2) : Ready N p m bh v1 v2 h but B H2 :=
  hr.keep hg.next fun b hb => hg.get b (by have := hr.lt; have := hr.bhn; rcases hb with h | h <;> omega)
theorem Ready.put {N p m bh : Nat} {v1 v2 : AV} {h : House} {but : Nat} {B H1 : AH} (hr : Ready N p m bh v1 v2 h but B H1) {es : List (AV × AV)} (hc : Cache (lookE h but) es) : Ready N p m bh v1 v2 h but B (H1.set m (.map es)) := by
  obtain ⟨base, ⟨a1, a2, a3, a4, a5, a6⟩, _, c1, c2, c3⟩ := hr
  exact ⟨fun b h1 h2 => by rw [get_set_other h2]; exact base b h1 h2, ⟨by rw [get_set_other a5]; exact a1, a2.move fun b hb => ⟨hb, get_set_other hb.2⟩, a3, a4, a5, a6⟩, ⟨es, get_set_same _ _ _, hc⟩, c1, by rw [get_set_other (by omega)]; exact c2, c3⟩
def compl : List Watcher → List Int → List (List Int)
  | [], pre => [pre]
  | w :: ws, pre => (upTo w.lo w.hi).flatMap fun n => compl ws (pre ++ [n])
theorem compl_fold : ∀ (ws : List Watcher) (out : List (List Int)), ws.foldl allStep out = out.flatMap (compl ws)
  | [], out => by
    simp only [List.foldl_nil]
    induction out with
    | nil => rfl
    | cons a out ih =>
      rw [List.flatMap_cons, ← ih]; rfl
  | w :: ws, out => by
    rw [List.foldl_cons, compl_fold ws, allStep, List.flatMap_assoc]
    congr 1
    funext o
    simp only [allRow, compl, List.flatMap_map]
theorem allE_compl (h : House) : allE h = compl h.ws [] := by
  rw [allE, compl_fold]; simp
def from_ (h : House) (pre : List Int) : List (List Int) := (compl (h.ws.drop pre.length) pre).filter (okE h)
theorem truthsE_from (h : House) : truthsE h = from_ h [] := by rw [truthsE, allE_compl]; rfl
theorem from_step {h : House} {pre : List Int} (hk : pre.length < h.ws.length) : from_ h pre = (upTo h.ws[pre.length].lo h.ws[pre.length].hi).flatMap fun n => from_ h (pre ++ [n]) := by
  unfold from_
  rw [List.drop_eq_getElem_cons hk]
  simp only [compl, List.filter_flatMap, List.length_append, List.length_singleton]
theorem from_end {h : House} {pre : List Int} (hk : pre.length = h.ws.length) : from_ h pre = if okE h pre = true then [pre] else [] := by
  unfold from_
  rw [List.drop_of_length_le (by omega)]
  by_cases ho : okE h pre = true
  · simp [compl, ho]
  · simp [compl, ho]
structure Run (l bh bf bn bd by_ p : Nat) (H : AH) : Prop where
  lt : l < bf ∧ l < bn ∧ l < bd ∧ l < by_
  ne : bf ≠ bn ∧ bf ≠ bd ∧ bf ≠ by_
  bnd : bf < H.next ∧ bn < H.next ∧ bd < H.next ∧ by_ < H.next
  next : H.get bn = some (.cells false [.func 103 [] [.ptr bh 0, .ptr bf 0, .ptr bn 0, .ptr bd 0, .ptr by_ 0]])
  day : H.get bd = some (.cells false [.func 102 [.ptr p 0] []])
  yld : H.get by_ = some (.cells false [.yield l])
theorem Run.keep {l bh bf bn bd by_ p : Nat} {H1 H2 : AH} (hr : Run l bh bf bn bd by_ p H1) (hn : H1.next ≤ H2.next) (hs : ∀ b, l < b → b < H1.next → b ≠ bf → H2.get b = H1.get b) : Run l bh bf bn bd by_ p H2 := by
  obtain ⟨⟨a1, a2, a3, a4⟩, ⟨b1, b2, b3⟩, ⟨c1, c2, c3, c4⟩, d1, d2, d3⟩ := hr
  exact ⟨⟨a1, a2, a3, a4⟩, ⟨b1, b2, b3⟩, ⟨by omega, by omega, by omega, by omega⟩, by rw [hs _ a2 c2 (Ne.symm b1)]; exact d1, by rw [hs _ a3 c3 (Ne.symm b2)]; exact d2, by rw [hs _ a4 c4 (Ne.symm b3)]; exact d3⟩
structure Fac (n bf : Nat) (pre : List Int) (H : AH) : Prop where
  ex : ∃ arr : List Int, arr.length = 3 ∧ arr.take pre.length = pre ∧ (∀ j (hj : j < arr.length), n ≤ j → arr[j] = 0) ∧ H.get bf = some (.cells false (arr.map I))
theorem upTo_split {lo f hi : Int} (h1 : lo ≤ f) (h2 : f ≤ hi) : upTo lo hi = upTo lo (f - 1) ++ (f :: upTo (f + 1) hi) := by
  unfold upTo
  have e1 : (hi + 1 - lo).toNat = (f - lo).toNat + ((hi + 1 - (f + 1)).toNat + 1) := by omega
  have e2 : (f - 1 + 1 - lo).toNat = (f - lo).toNat := by omega
  rw [e1, e2, List.range_add, List.map_append]
  congr 1
  rw [List.map_map, List.range_succ_eq_map, List.map_cons, List.map_map]
  congr 1
  · simp; omega
  · refine List.map_congr_left fun i _ => ?_
    simp; omega
theorem rdWf {vs : List AV} {i : Nat} {w : Watcher} (h : (vs.drop i).take 4 = w.cells) : (vs.drop (i + 1)).take 2 = [I w.lo, I w.hi] := by
  have := congrArg (fun l => (l.drop 1).take 2) h
  simp only [List.drop_take, List.drop_drop, List.take_take, Watcher.cells] at this
  exact this
theorem Fac.push {n bf : Nat} {pre : List Int} {H : AH} (hf : Fac n bf pre H) (hn : pre.length < n) (h3 : n ≤ 3) (f : Int) : ∃ vs vs', H.get bf = some (.cells false vs) ∧ writeN vs pre.length [I f] = some vs' ∧ Fac n bf (pre ++ [f]) (H.set bf (.cells false vs')) := by
  obtain ⟨arr, h1, h2, h4, h5⟩ := hf
  have hw : ∀ (arr : List Int) (k : Nat), k < arr.length → writeN (arr.map I) k [I f] = some ((arr.set k f).map I) := fun arr => by
    induction arr with
    | nil => intro k hk; simp at hk
    | cons a arr ih =>
      intro k hk
      cases k with
      | zero => simp [writeN, writeN_nil]
      | succ k => simp [writeN, ih k (by simpa using hk)]
  refine ⟨_, _, h5, hw arr pre.length (by omega), ⟨arr.set pre.length f, by simp [h1], ?_, fun j hj hnj => ?_, get_set_same _ _ _⟩⟩
  · rw [List.length_append, List.length_singleton, List.take_succ_eq_append_getElem (by simp; omega), List.getElem_set_self, List.take_set_of_le (Nat.le_refl _), h2]
  · rw [List.getElem_set_ne (by omega)]
    exact h4 j (by simpa using hj) hnj
theorem Fac.pop {n bf : Nat} {pre : List Int} {f : Int} {H : AH} (hf : Fac n bf (pre ++ [f]) H) : Fac n bf pre H := by
  obtain ⟨arr, h1, h2, h4, h5⟩ := hf
  refine ⟨arr, h1, ?_, h4, h5⟩
  have := congrArg (List.take pre.length) h2
  rw [List.take_take, Nat.min_eq_left (by simp)] at this
  simpa using this
theorem eight {l : List Int} (h : l.length = 8) : ∃ x0 x1 x2 x3 x4 x5 x6 x7, l = [x0, x1, x2, x3, x4, x5, x6, x7] := by
  match l, h with
  | [x0, x1, x2, x3, x4, x5, x6, x7], _ => exact ⟨_, _, _, _, _, _, _, _, rfl⟩
theorem nums_length {h : House} {fs : List Int} {n : Nat} : (numsTo h fs n).length = 8 := by
  simp only [numsTo, show List.range 4 = [0, 1, 2, 3] from rfl, List.flatMap_cons, List.flatMap_nil, List.length_append, List.length_nil]
  have : ∀ d, (if d < n then [(numbersE h d fs).1, (numbersE h d fs).2] else [0, 0]).length = 2 := fun d => by split <;> rfl
  simp only [this]
theorem nums_write {h : House} {fs : List Int} {d : Nat} (hd : d < 4) : writeN ((numsTo h fs d).map I) (d * 2) [I (numbersE h d fs).1, I (numbersE h d fs).2] = some ((numsTo h fs (d + 1)).map I) := by
  match d, hd with
  | 0, _ => rfl
  | 1, _ => rfl
  | 2, _ => rfl
  | 3, _ => rfl
theorem nums_read {h : House} {fs : List Int} {d : Nat} (hd : d < 4) : ((numsTo h fs (d + 1)).map I)[d * 2]? = some (I (numbersE h d fs).1) ∧ ((numsTo h fs (d + 1)).map I)[d * 2 + 1]? = some (I (numbersE h d fs).2) := by
  match d, hd with
  | 0, _ => exact ⟨rfl, rfl⟩
  | 1, _ => exact ⟨rfl, rfl⟩
  | 2, _ => exact ⟨rfl, rfl⟩
  | 3, _ => exact ⟨rfl, rfl⟩
theorem nums_bad {h : House} {fs : List Int} {n : Nat} : ∃ rest, rest.length = 6 ∧ writeN ((numsTo h fs n).map I) 0 [I 1, I 0] = some ((1 :: 0 :: rest : List Int).map I) := by
  obtain ⟨x0, x1, x2, x3, x4, x5, x6, x7, he⟩ := eight (nums_length (h := h) (fs := fs) (n := n))
  exact ⟨[x2, x3, x4, x5, x6, x7], rfl, by rw [he]; rfl⟩
theorem same_numbers {h : House} {fs gs : List Int} (ht : fs.take h.ws.length = gs.take h.ws.length) (d : Nat) : numbersE h d fs = numbersE h d gs := by
  unfold numbersE
  rw [← narrowAll_short (fs := fs) (Nat.le_refl _), ← narrowAll_short (fs := gs) (Nat.le_refl _), ht]
theorem Fac.pad {n bf : Nat} {pre : List Int} {H : AH} (hf : Fac n bf pre H) (hn : pre.length = n) (h3 : n ≤ 3) : H.get bf = some (.cells false ((pad3 pre).map I)) ∧ (pad3 pre).take n = pre := by
  obtain ⟨arr, h1, h2, h4, h5⟩ := hf
  have : arr = pad3 pre := by
    refine List.ext_getElem (by simp [pad3, h1]) fun j hj hj' => ?_
    have hg : (pad3 pre)[j] = getI pre j := by
      rcases (show j = 0 ∨ j = 1 ∨ j = 2 by omega) with rfl | rfl | rfl <;> rfl
    rw [hg]
    by_cases hjn : j < pre.length
    · have := congrArg (fun l => l[j]?) h2
      simp only [List.getElem?_take, hjn, if_true, List.getElem?_eq_getElem hj, List.getElem?_eq_getElem hjn, Option.some.injEq] at this
      rw [getI_eq hjn]; exact this
    · rw [h4 j hj (by omega)]
      simp [getI, List.getD_eq_getElem?_getD, List.getElem?_eq_none (show pre.length ≤ j by omega)]
  subst this
  exact ⟨h5, by rw [← hn]; exact h2⟩
theorem pad3_in {pre : List Int} (h : ∀ f ∈ pre, 1 ≤ f ∧ f ≤ 300) (j : Nat) : 0 ≤ getI pre j ∧ getI pre j ≤ 1000 := by
  by_cases hj : j < pre.length
  · rw [getI_eq hj]; have := h _ (List.getElem_mem hj); omega
  · simp [getI, List.getD_eq_getElem?_getD, List.getElem?_eq_none (show pre.length ≤ j by omega)]
theorem nums_head {h : House} {fs : List Int} {x0 x1 : Int} {rest : List Int} (he : x0 :: x1 :: rest = numsE h fs) (hd : 0 < h.days.length) : x0 = (numbersE h 0 fs).1 ∧ x1 = (numbersE h 0 fs).2 := by
  simp only [numsE, numsTo, show List.range 4 = [0, 1, 2, 3] from rfl, List.flatMap_cons, hd, if_true, List.cons_append, List.cons.injEq] at he
  exact ⟨he.1, he.2.1⟩
theorem okE_first {h : House} {fs : List Int} (ho : okE h fs = true) (hd : 0 < h.days.length) : (numbersE h 0 fs).1 ≤ (numbersE h 0 fs).2 := by
  simp only [okE, List.all_eq_true] at ho
  simpa [okDay] using ho 0 (by simpa using hd)
theorem next_run {N p m bh l bf bn bd by_ : Nat} {v1 v2 : AV} {h : House} {but : Nat} {B : AH} (hfine : Fine h) (hbut : but < 4096) (hl : bh < l)
    (Y : List (List AV) → AH → Prop) (S : AH → Prop) (hY : ∀ done, On (Kh N bh) (l + 1) (Y done)) (hS : On (Kh N bh) (l + 1) S)
    (hy : ∀ done a rest H1, (truthsE (lookE h but)).map (argT (lookE h but)) = done ++ a :: rest → l < H1.next → Ready N p m bh v1 v2 h but B H1 → Y done H1 →
      CallQ prog (.yield l) a H1 fun v H2 => Kept (Kh N bh) l H1 H2 ∧ ((v = .bool true ∧ Y (done ++ [a]) H2) ∨ (v = .bool false ∧ S H2))) :
    ∀ (k : Nat) (pre : List Int) (done rest : List (List AV)) (H1 : AH) (R : AV → AH → Prop), pre.length + k = h.ws.length → (∀ f ∈ pre, 1 ≤ f ∧ f ≤ 300) →
      (truthsE (lookE h but)).map (argT (lookE h but)) = done ++ (from_ (lookE h but) pre).map (argT (lookE h but)) ++ rest → l < H1.next → Ready N p m bh v1 v2 h but B H1 → Run l bh bf bn bd by_ p H1 → Fac h.ws.length bf pre H1 → Y done H1 →
      (∀ v H2, H1.next ≤ H2.next → Ready N p m bh v1 v2 h but B H2 → (∀ b, l < b → b < H1.next → b ≠ bf → H2.get b = H1.get b) → Fac h.ws.length bf pre H2 →
        ((v = .bool true ∧ Y (done ++ (from_ (lookE h but) pre).map (argT (lookE h but))) H2) ∨ (v = .bool false ∧ S H2)) → R v H2) →
      CallQ prog (.func 103 [] [.ptr bh 0, .ptr bf 0, .ptr bn 0, .ptr bd 0, .ptr by_ 0]) [I pre.length] H1 R := by
  intro k
  have hw3 := hfine.ws
  induction k with
  | zero =>
    intro pre done rest H1 R hk hpre hL hlt hr hrun hfac hyd kk
    have hpn : pre.length = h.ws.length := by omega
    have hold := hr.look.old
    have hbox := hr.box
    have hbox2 := hr.look.box
    have hd4 := hfine.days
    obtain ⟨hbf, htk⟩ := hfac.pad hpn hw3
    have hsame := fun d => same_numbers (h := lookE h but) (fs := pad3 pre) (gs := pre) (by show (pad3 pre).take h.ws.length = pre.take h.ws.length; rw [htk, List.take_of_length_le (by omega)]) d
    have hokE : okE (lookE h but) (pad3 pre) = okE (lookE h but) pre := by
      simp only [okE]; congr 1; funext d; simp only [okDay, hsame]
    have hnums : ∀ n, numsTo (lookE h but) (pad3 pre) n = numsTo (lookE h but) pre n := fun n => by simp only [numsTo, hsame]
    have harg : argT (lookE h but) pre = [.agg ((pad3 pre).map I), .agg ((numsE (lookE h but) (pad3 pre)).map I)] := by rw [argT, numsE, numsE, hnums]
    have hend := from_end (h := lookE h but) hpn
    rw [← hokE] at hend
    have pa := pad3_in hpre 0
    have pb := pad3_in hpre 1
    have pc := pad3_in hpre 2
    have hp3 : pad3 pre = [getI pre 0, getI pre 1, getI pre 2] := rfl
    rw [hp3] at hbf hokE hnums harg hend
    generalize getI pre 0 = a at *
    generalize getI pre 1 = b at *
    generalize getI pre 2 = c at *
    simp only [List.map_cons, List.map_nil] at hbf harg
    obtain ⟨es, hm, hca⟩ := hr.cache
    have hn1 := hrun.bnd
    have hn2 := hrun.lt
    have hbhlt := hr.lt
    have hpl := hr.look.plt
    have hbn := hr.bhn
    have hml := hr.look.mlt
    have hpm := hr.look.pm
    have hfl : ¬ (h.ws.length : Int) < h.ws.length := by omega
    rw [hpn]
    refine CallQ_enter (fn:=c103) rfl (Nat.le_of_ble_eq_true rfl) ?_;simp(maxSteps:=9999999)(disch:=first|omega|(simp only[AN];omega))only[c103,envFrom,hbox,hbox2,hold.1.len,hfl,↓KP,EK,↓reduceIte,reduceCtorEq,Nat.reduceEqDiff,Nat.reduceAdd,Nat.reduceLeDiff,Nat.reduceMul]
    have hyl := hrun.yld
    have hok0 : h.days.length = 0 → okE (lookE h but) [a, b, c] = true := fun h0 => by
      simp only [okE, maskE_length, h0]; rfl
    have fin : ∀ (Hc : AH), H1.next ≤ Hc.next → Ready N p m bh v1 v2 h but B Hc → (∀ b, N ≤ b → b < H1.next → Hc.get b = H1.get b) →
        (okE (lookE h but) [a, b, c] = false → R (.bool true) Hc) ∧
        (∀ cs, cs = numsE (lookE h but) [a, b, c] → okE (lookE h but) [a, b, c] = true → CallQ prog (.yield l) [.agg [I a, I b, I c], .agg (cs.map I)] Hc R) := fun Hc hn hrc hs => by
      have hF : ∀ H2 : AH, H2.get bf = Hc.get bf → Fac h.ws.length bf pre H2 := fun H2 e => by
        obtain ⟨arr, b1, b2, b3, b4⟩ := hfac
        exact ⟨arr, b1, b2, b3, by rw [e, hs _ (by omega) hn1.1]; exact b4⟩
      have hyc : Y done Hc := hY done H1 Hc hn (fun b h1 h2 => hs b (Kh.not h1).1 (by omega)) hyd
      refine ⟨fun ho => ?_, fun cs hcs ho => ?_⟩
      · rw [if_neg (by simp [ho])] at hend
        exact kk _ _ hn hrc (fun b h1 h2 _ => hs b (by omega) h2) (hF _ rfl) (.inl ⟨rfl, by rw [hend]; simpa using hyc⟩)
      · rw [if_pos ho] at hend
        rw [hcs, ← harg]
        refine (hy done _ rest Hc (by rw [hL, hend]; simp) (by omega) hrc hyc).mono fun v H2 hx => ?_
        obtain ⟨⟨k1, k2⟩, hor⟩ := hx
        refine kk v H2 (by omega) (hrc.keep k1 fun b hb => k2 b (by rcases hb with h | h <;> omega) (.inl hb)) (fun b h1 h2 _ => by rw [k2 b (by omega) (.inr h1), hs b (by omega) h2]) (hF _ (k2 _ (by omega) (.inr (by omega)))) ?_
        rw [hend]
        simpa using hor
    rcases hca.find a b c with hfi | ⟨v, hfi, cs, rfl, hcl, hc1, hc2⟩
    · refine K_draw ?_;simp(maxSteps:=9999999)(disch:=first|omega|(simp only[AN];omega))only[hbox,hbox2,hbf,hm,hfi,opLookup,eq3,hold.2.len,↓KP,EK,↓reduceIte,reduceCtorEq,Nat.reduceEqDiff,Nat.reduceAdd,Nat.reduceLeDiff,Nat.reduceMul]
      have hz0 : okE (lookE h but) [a, b, c] = (List.range h.days.length).all (okDay (lookE h but) [a, b, c]) := by rw [okE, maskE_length]
      have hix0 : ∀ S, opIdxArr 4 2 (.ptr H1.next 0) (.int .i64 0) S = some (.ptr H1.next 0, S) := fun S => rfl
      have hnE : numsE (lookE h but) [a, b, c] = numsTo (lookE h but) [a, b, c] h.days.length := by rw [numsE, maskE_length]
      refine K_loop (fun mz ez H2 => ∃ (d : Nat) (tail : Env), ez = (0, I h.ws.length) :: (1, .ptr bh 0) :: (2, .ptr bf 0) :: (3, .ptr bn 0) :: (4, .ptr bd 0) :: (5, .ptr by_ 0) :: (7, .bool false) :: (20, .bool false) :: (10, .ptr H1.next 0) :: (11, .bool false) :: (56, .bool true) :: (62, I h.days.length) :: (63, I d) :: tail ∧ (H1.next < H2.next) ∧ (Ready N p m bh v1 v2 h but B H2) ∧ (∀ b, N ≤ b → b < H1.next → H2.get b = H1.get b) ∧ (H2.get H1.next = some (.cells false ((numsTo (lookE h but) [a, b, c] d).map I))) ∧ (H2.get m = some (.map es)) ∧ ((List.range d).all (okDay (lookE h but) [a, b, c]) = true) ∧ (d ≤ h.days.length) ∧ mz = h.days.length - d) _ ⟨0, _, rfl, ?_, (by exact hr.up GW), (by intro b h1 h2; simp(maxSteps:=9999999)(disch:=first|omega|(simp only[AN];omega))only[↓KP,EK,↓reduceIte,reduceCtorEq,Nat.reduceEqDiff,Nat.reduceAdd,Nat.reduceLeDiff,Nat.reduceMul]), (by simp(maxSteps:=9999999)(disch:=first|omega|(simp only[AN];omega))only[↓KP,EK,↓reduceIte,reduceCtorEq,Nat.reduceEqDiff,Nat.reduceAdd,Nat.reduceLeDiff,Nat.reduceMul]; rfl), (by simp(maxSteps:=9999999)(disch:=first|omega|(simp only[AN];omega))only[hm,↓KP,EK,↓reduceIte,reduceCtorEq,Nat.reduceEqDiff,Nat.reduceAdd,Nat.reduceLeDiff,Nat.reduceMul]), ?_, ?_, rfl⟩ ?_
      iterate 3 (focus (first|(with_reducible rfl)|omega|(with_reducible(repeat first|exact Grew.refl _|assumption|apply Grew.alloc|refine Grew.set ?_ _ (by first|omega|(simp only[AN];omega)));done)|(simp(maxSteps:=9999999)(disch:=first|omega|(simp only[AN];omega))only[↓KP,EK,↓reduceIte,reduceCtorEq,Nat.reduceEqDiff,Nat.reduceAdd,Nat.reduceLeDiff,Nat.reduceMul]<;>first|omega|rfl)|(simp;done)|rfl))
      rintro mz ez H2 ⟨d, tail, rfl, hn, hr2, hs2, h10, hm2, hall, hd, hmz⟩; subst mz
      have hbx := hr2.box
      have hbx2 := hr2.look.box
      simp(maxSteps:=9999999)(disch:=first|omega|(simp only[AN];omega))only[↓KP,EK,↓reduceIte,reduceCtorEq,Nat.reduceEqDiff,Nat.reduceAdd,Nat.reduceLeDiff,Nat.reduceMul]
      refine C_decide (fun hc => ?_) (fun hc => ?_)
      · have hd' : d < h.days.length := by omega
        have hbd2 : H2.get bd = some (.cells false [.func 102 [.ptr p 0] []]) := by rw [hs2 _ (by omega) (by omega)]; exact hrun.day
        have hbf2 : H2.get bf = some (.cells false [I a, I b, I c]) := by rw [hs2 _ (by omega) (by omega)]; exact hbf
        have hixd : ∀ S, opIdxArr 4 2 (.ptr H1.next 0) (I d) S = some (.ptr H1.next (d * 2), S) := fun S => by
          have : d < 4 := by omega
          simp [opIdxArr, natOf, this]
        have hw := nums_write (h := lookE h but) (fs := [a, b, c]) (d := d) (by omega)
        obtain ⟨hrd1, hrd2⟩ := nums_read (h := lookE h but) (fs := [a, b, c]) (d := d) (by omega)
        have e1 : IntKind.i64.wrap ((d : Int) + 1) = ((d + 1 : Nat) : Int) := i64_in _ (by omega)
        simp(maxSteps:=9999999)(disch:=first|omega|(simp only[AN];omega))only[hbd2,hbf2,↓KP,EK,↓reduceIte,reduceCtorEq,Nat.reduceEqDiff,Nat.reduceAdd,Nat.reduceLeDiff,Nat.reduceMul]
        first|refine C_call ?_|refine C_calld ?_
        refine day_run a b c d hr2.look hfine hbut hd' pa pb pc fun H3 hg3 => ?_
        have hg3n:=hg3.next;try simp only[AN]at hg3n
        simp(maxSteps:=9999999)(disch:=first|omega|(simp only[AN];omega))only[hg3.get,hixd,h10,hw,↓KP,EK,↓reduceIte,reduceCtorEq,Nat.reduceEqDiff,Nat.reduceAdd,Nat.reduceLeDiff,Nat.reduceMul]
        refine K_draw ?_;simp(maxSteps:=9999999)(disch:=first|omega|(simp only[AN];omega))only[hg3.get,hixd,h10,hrd1,hrd2,↓KP,EK,↓reduceIte,reduceCtorEq,Nat.reduceEqDiff,Nat.reduceAdd,Nat.reduceLeDiff,Nat.reduceMul]
        refine C_decide (fun hbad => ?_) (fun hbad => ?_)
        · obtain ⟨r, hr6, hwb⟩ := nums_bad (h := lookE h but) (fs := [a, b, c]) (n := d + 1)
          have hob : okE (lookE h but) [a, b, c] = false := by
            rw [hz0]
            refine all_range_le (n := d + 1) (by omega) ?_
            rw [all_range_succ, hall]; simp [okDay]; omega
          have : ∃ r0 r1 r2 r3 r4 r5, r = [r0, r1, r2, r3, r4, r5] := by
            match r, hr6 with
            | [r0, r1, r2, r3, r4, r5], _ => exact ⟨_, _, _, _, _, _, rfl⟩
          obtain ⟨r0, r1, r2, r3, r4, r5, rfl⟩ := this
          have hval : ValOk (lookE h but) [a, b, c] (.agg [I 1, I 0, I r0, I r1, I r2, I r3, I r4, I r5]) := ⟨[1, 0, r0, r1, r2, r3, r4, r5], rfl, rfl, fun e => (by rw [hob] at e; cases e), fun _ => ⟨by rw [maskE_length]; omega, _, rfl⟩⟩
          obtain ⟨es', hput, hca'⟩ := hca.put a b c hval
          have hx : eqFlatA true [.i, .i] (.agg [I 1, I 0]) (.agg [I 1, I 0]) = some true := rfl
          have h0 : (0 : Int) < h.days.length := by omega
          simp only [List.map_cons, List.map_nil] at hwb
          have hbf2' := hbf2
          simp(maxSteps:=9999999)(disch:=first|omega|(simp only[AN];omega))only[hix0,hwb,h10,↓KP,EK,↓reduceIte,reduceCtorEq,Nat.reduceEqDiff,Nat.reduceAdd,Nat.reduceLeDiff,Nat.reduceMul]
          have hr4 := (((hr2.up hg3).keep (H2 := H3.set H1.next (.cells false ((numsTo (lookE h but) [a, b, c] (d + 1)).map I))) (Nat.le_refl _) (fun b hb => by have hb2 : b < H1.next := by { rcases hb with h | h <;> omega }; simp(maxSteps:=9999999)(disch:=first|omega|(simp only[AN];omega))only[↓KP,EK,↓reduceIte,reduceCtorEq,Nat.reduceEqDiff,Nat.reduceAdd,Nat.reduceLeDiff,Nat.reduceMul])).keep (H2 := (H3.set H1.next (.cells false ((numsTo (lookE h but) [a, b, c] (d + 1)).map I))).set H1.next (.cells false [I 1, I 0, I r0, I r1, I r2, I r3, I r4, I r5])) (Nat.le_refl _) (fun b hb => by have hb2 : b < H1.next := by { rcases hb with h | h <;> omega }; simp(maxSteps:=9999999)(disch:=first|omega|(simp only[AN];omega))only[↓KP,EK,↓reduceIte,reduceCtorEq,Nat.reduceEqDiff,Nat.reduceAdd,Nat.reduceLeDiff,Nat.reduceMul])).put hca'
          refine K_draw ?_;simp(maxSteps:=9999999)(disch:=first|omega|(simp only[AN];omega))only[hg3.get,hbx,hbx2,hbf2,hm2,hput,opUpdate,eq3,beq_self_eq_true,hold.2.len,h0,hix0,hx,↓KP,EK,↓reduceIte,reduceCtorEq,Nat.reduceEqDiff,Nat.reduceAdd,Nat.reduceLeDiff,Nat.reduceMul]
          refine (fin _ ?_ hr4 ?_).1 hob
          · simp(maxSteps:=9999999)(disch:=first|omega|(simp only[AN];omega))only[↓KP,EK,↓reduceIte,reduceCtorEq,Nat.reduceEqDiff,Nat.reduceAdd,Nat.reduceLeDiff,Nat.reduceMul]; omega
          · intro b h1 h2; simp(maxSteps:=9999999)(disch:=first|omega|(simp only[AN];omega))only[hg3.get,hs2,↓KP,EK,↓reduceIte,reduceCtorEq,Nat.reduceEqDiff,Nat.reduceAdd,Nat.reduceLeDiff,Nat.reduceMul]
        · simp(maxSteps:=9999999)(disch:=first|omega|(simp only[AN];omega))only[e1,↓KP,EK,↓reduceIte,reduceCtorEq,Nat.reduceEqDiff,Nat.reduceAdd,Nat.reduceLeDiff,Nat.reduceMul]
          refine ⟨_, ?_, d + 1, _, rfl, ?_, (by exact (hr2.up hg3).keep (Nat.le_refl _) (fun b hb => by have hb2 : b < H1.next := by { rcases hb with h | h <;> omega }; simp(maxSteps:=9999999)(disch:=first|omega|(simp only[AN];omega))only[↓KP,EK,↓reduceIte,reduceCtorEq,Nat.reduceEqDiff,Nat.reduceAdd,Nat.reduceLeDiff,Nat.reduceMul])), (by intro b h1 h2; simp(maxSteps:=9999999)(disch:=first|omega|(simp only[AN];omega))only[hg3.get,hs2,↓KP,EK,↓reduceIte,reduceCtorEq,Nat.reduceEqDiff,Nat.reduceAdd,Nat.reduceLeDiff,Nat.reduceMul]), ?_, (by simp(maxSteps:=9999999)(disch:=first|omega|(simp only[AN];omega))only[hg3.get,hm2,↓KP,EK,↓reduceIte,reduceCtorEq,Nat.reduceEqDiff,Nat.reduceAdd,Nat.reduceLeDiff,Nat.reduceMul]), (by rw [all_range_succ, hall]; simp [okDay]; omega), ?_, rfl⟩ <;> (first|omega|(with_reducible assumption)|(with_reducible(repeat first|exact Grew.refl _|assumption|apply Grew.alloc|refine Grew.set ?_ _ (by first|omega|(simp only[AN];omega)));done)|(simp(maxSteps:=9999999)(disch:=first|omega|(simp only[AN];omega))only[hg3.get,↓KP,EK,↓reduceIte,reduceCtorEq,Nat.reduceEqDiff,Nat.reduceAdd,Nat.reduceLeDiff,Nat.reduceMul]<;>first|omega|rfl))
      · have hde : d = h.days.length := by omega
        subst hde
        have ho : okE (lookE h but) [a, b, c] = true := by rw [hz0]; exact hall
        rw [← hnE] at h10
        obtain ⟨x0, x1, x2, x3, x4, x5, x6, x7, he⟩ := eight (show (numsE (lookE h but) [a, b, c]).length = 8 from nums_length)
        have hval : ValOk (lookE h but) [a, b, c] (.agg [I x0, I x1, I x2, I x3, I x4, I x5, I x6, I x7]) := ⟨_, rfl, rfl, fun _ => he.symm, fun e => (by rw [ho] at e; cases e)⟩
        obtain ⟨es', hput, hca'⟩ := hca.put a b c hval
        rw [he] at h10
        simp only [List.map_cons, List.map_nil] at h10
        have hbf2 : H2.get bf = some (.cells false [I a, I b, I c]) := by rw [hs2 _ (by omega) (by omega)]; exact hbf
        simp(maxSteps:=9999999)(disch:=first|omega|(simp only[AN];omega))only[↓KP,EK,↓reduceIte,reduceCtorEq,Nat.reduceEqDiff,Nat.reduceAdd,Nat.reduceLeDiff,Nat.reduceMul]
        have hyl2 : H2.get by_ = some (.cells false [.yield l]) := by rw [hs2 _ (by omega) (by omega)]; exact hyl
        have hr4 := hr2.put hca'
        by_cases h0 : (0 : Int) < h.days.length
        · have hno : ¬ (x0 = 1 ∧ x1 = 0) := fun e => by
            have h1 := nums_head he.symm
            have h2 := okE_first ho (show 0 < (lookE h but).days.length by rw [maskE_length]; omega)
            rw [← (h1 (by rw [maskE_length]; omega)).1, ← (h1 (by rw [maskE_length]; omega)).2] at h2
            omega
          have hx : eqFlatA true [.i, .i] (.agg [I x0, I x1]) (.agg [I 1, I 0]) = some false := by
            simp [eqFlatA, eqCells]; omega
          refine K_draw ?_;simp(maxSteps:=9999999)(disch:=first|omega|(simp only[AN];omega))only[hbx,hbx2,hbf2,hm2,h10,hput,opUpdate,eq3,beq_self_eq_true,hold.2.len,h0,hix0,hx,hyl2,↓KP,EK,↓reduceIte,reduceCtorEq,Nat.reduceEqDiff,Nat.reduceAdd,Nat.reduceLeDiff,Nat.reduceMul]
          refine C_call (CallQ.mono ((fin _ ?_ hr4 ?_).2 _ he.symm ho) fun v H2 hv => ?_)
          · simp(maxSteps:=9999999)(disch:=first|omega|(simp only[AN];omega))only[↓KP,EK,↓reduceIte,reduceCtorEq,Nat.reduceEqDiff,Nat.reduceAdd,Nat.reduceLeDiff,Nat.reduceMul]; omega
          · intro b h1 h2; simp(maxSteps:=9999999)(disch:=first|omega|(simp only[AN];omega))only[hs2,↓KP,EK,↓reduceIte,reduceCtorEq,Nat.reduceEqDiff,Nat.reduceAdd,Nat.reduceLeDiff,Nat.reduceMul]
          · simp(maxSteps:=9999999)(disch:=first|omega|(simp only[AN];omega))only[↓KP,EK,↓reduceIte,reduceCtorEq,Nat.reduceEqDiff,Nat.reduceAdd,Nat.reduceLeDiff,Nat.reduceMul]
            exact hv
        · refine K_draw ?_;simp(maxSteps:=9999999)(disch:=first|omega|(simp only[AN];omega))only[hbx,hbx2,hbf2,hm2,h10,hput,opUpdate,eq3,beq_self_eq_true,hold.2.len,h0,hix0,hyl2,↓KP,EK,↓reduceIte,reduceCtorEq,Nat.reduceEqDiff,Nat.reduceAdd,Nat.reduceLeDiff,Nat.reduceMul]
          refine C_call (CallQ.mono ((fin _ ?_ hr4 ?_).2 _ he.symm ho) fun v H2 hv => ?_)
          · simp(maxSteps:=9999999)(disch:=first|omega|(simp only[AN];omega))only[↓KP,EK,↓reduceIte,reduceCtorEq,Nat.reduceEqDiff,Nat.reduceAdd,Nat.reduceLeDiff,Nat.reduceMul]; omega
          · intro b h1 h2; simp(maxSteps:=9999999)(disch:=first|omega|(simp only[AN];omega))only[hs2,↓KP,EK,↓reduceIte,reduceCtorEq,Nat.reduceEqDiff,Nat.reduceAdd,Nat.reduceLeDiff,Nat.reduceMul]
          · simp(maxSteps:=9999999)(disch:=first|omega|(simp only[AN];omega))only[↓KP,EK,↓reduceIte,reduceCtorEq,Nat.reduceEqDiff,Nat.reduceAdd,Nat.reduceLeDiff,Nat.reduceMul]
            exact hv
    · obtain ⟨x0, x1, x2, x3, x4, x5, x6, x7, rfl⟩ := eight hcl
      simp only [List.map_cons, List.map_nil] at hfi
      have hi0 : ∀ S, opIdxArr 4 2 (.ptr H1.next 0) (.int .i64 0) S = some (.ptr H1.next 0, S) := fun S => rfl
      by_cases h0 : (0 : Int) < h.days.length
      · cases ho : okE (lookE h but) [a, b, c] with
        | false =>
          obtain ⟨_, rest', hr'⟩ := hc2 ho
          simp only [List.cons.injEq] at hr'
          obtain ⟨rfl, rfl, _⟩ := hr'
          have hx : eqFlatA true [.i, .i] (.agg [I 1, I 0]) (.agg [I 1, I 0]) = some true := rfl
          refine K_draw ?_;simp(maxSteps:=9999999)(disch:=first|omega|(simp only[AN];omega))only[hbox,hbox2,hbf,hm,hfi,opLookup,eq3,hold.2.len,h0,hi0,hx,↓KP,EK,↓reduceIte,reduceCtorEq,Nat.reduceEqDiff,Nat.reduceAdd,Nat.reduceLeDiff,Nat.reduceMul]
          refine (fin _ ?_ ?_ ?_).1 ho
          · simp(maxSteps:=9999999)(disch:=first|omega|(simp only[AN];omega))only[↓KP,EK,↓reduceIte,reduceCtorEq,Nat.reduceEqDiff,Nat.reduceAdd,Nat.reduceLeDiff,Nat.reduceMul]; omega
          · exact hr.up GW
          · intro b h1 h2; simp(maxSteps:=9999999)(disch:=first|omega|(simp only[AN];omega))only[↓KP,EK,↓reduceIte,reduceCtorEq,Nat.reduceEqDiff,Nat.reduceAdd,Nat.reduceLeDiff,Nat.reduceMul]
        | true =>
          have hno : ¬ (x0 = 1 ∧ x1 = 0) := fun e => by
            have h1 := nums_head (hc1 ho)
            have h2 := okE_first ho (show 0 < (lookE h but).days.length by rw [maskE_length]; omega)
            rw [← (h1 (by rw [maskE_length]; omega)).1, ← (h1 (by rw [maskE_length]; omega)).2] at h2
            omega
          have hx : eqFlatA true [.i, .i] (.agg [I x0, I x1]) (.agg [I 1, I 0]) = some false := by
            simp [eqFlatA, eqCells]; omega
          refine K_draw ?_;simp(maxSteps:=9999999)(disch:=first|omega|(simp only[AN];omega))only[hbox,hbox2,hbf,hm,hfi,opLookup,eq3,hold.2.len,h0,hi0,hx,hyl,↓KP,EK,↓reduceIte,reduceCtorEq,Nat.reduceEqDiff,Nat.reduceAdd,Nat.reduceLeDiff,Nat.reduceMul]
          refine C_call (CallQ.mono ((fin _ ?_ ?_ ?_).2 _ (hc1 ho) ho) fun v H2 hv => ?_)
          · simp(maxSteps:=9999999)(disch:=first|omega|(simp only[AN];omega))only[↓KP,EK,↓reduceIte,reduceCtorEq,Nat.reduceEqDiff,Nat.reduceAdd,Nat.reduceLeDiff,Nat.reduceMul]; omega
          · exact hr.up GW
          · intro b h1 h2; simp(maxSteps:=9999999)(disch:=first|omega|(simp only[AN];omega))only[↓KP,EK,↓reduceIte,reduceCtorEq,Nat.reduceEqDiff,Nat.reduceAdd,Nat.reduceLeDiff,Nat.reduceMul]
          · simp(maxSteps:=9999999)(disch:=first|omega|(simp only[AN];omega))only[↓KP,EK,↓reduceIte,reduceCtorEq,Nat.reduceEqDiff,Nat.reduceAdd,Nat.reduceLeDiff,Nat.reduceMul]
            exact hv
      · have ho := hok0 (by omega)
        refine K_draw ?_;simp(maxSteps:=9999999)(disch:=first|omega|(simp only[AN];omega))only[hbox,hbox2,hbf,hm,hfi,opLookup,eq3,hold.2.len,h0,hyl,↓KP,EK,↓reduceIte,reduceCtorEq,Nat.reduceEqDiff,Nat.reduceAdd,Nat.reduceLeDiff,Nat.reduceMul]
        refine C_call (CallQ.mono ((fin _ ?_ ?_ ?_).2 _ (hc1 ho) ho) fun v H2 hv => ?_)
        · simp(maxSteps:=9999999)(disch:=first|omega|(simp only[AN];omega))only[↓KP,EK,↓reduceIte,reduceCtorEq,Nat.reduceEqDiff,Nat.reduceAdd,Nat.reduceLeDiff,Nat.reduceMul]; omega
        · exact hr.up GW
        · intro b h1 h2; simp(maxSteps:=9999999)(disch:=first|omega|(simp only[AN];omega))only[↓KP,EK,↓reduceIte,reduceCtorEq,Nat.reduceEqDiff,Nat.reduceAdd,Nat.reduceLeDiff,Nat.reduceMul]
        · simp(maxSteps:=9999999)(disch:=first|omega|(simp only[AN];omega))only[↓KP,EK,↓reduceIte,reduceCtorEq,Nat.reduceEqDiff,Nat.reduceAdd,Nat.reduceLeDiff,Nat.reduceMul]
          exact hv
  | succ k ih =>
    intro pre done rest H1 R hk hpre hL hlt hr hrun hfac hyd kk
    have hp : pre.length < h.ws.length := by omega
    have hold := hr.look.old
    obtain ⟨q_b, q_i, q_ro, q_vs, q_lt, q⟩ := rdW hold.1 (k := pre.length) rfl hp
    have hwf := hfine.w hp
    have hc : (pre.length : Int) < h.ws.length := by omega
    have hbox := hr.box
    have hbox2 := hr.look.box
    have hql : q_i + 1 + 2 ≤ q_vs.length := by have := q.2.2.1; omega
    have hq2 := rdWf q.2.2.2.1
    have hn1 := hrun.bnd
    have hn2 := hrun.lt
    have hbhlt := hr.lt
    have hpl := hr.look.plt
    have hbn := hr.bhn
    have hone := from_step (h := lookE h but) (pre := pre) hp
    simp only [show (lookE h but).ws = h.ws from rfl] at hone
    refine CallQ_enter (fn:=c103) rfl (Nat.le_of_ble_eq_true rfl) ?_;simp(maxSteps:=9999999)(disch:=first|omega|(simp only[AN];omega))only[c103,envFrom,hbox,hbox2,hold.1.len,hc,q,hql,hq2,↓KP,EK,↓reduceIte,reduceCtorEq,Nat.reduceEqDiff,Nat.reduceAdd,Nat.reduceLeDiff,Nat.reduceMul]
    refine K_loop (fun mz ez H2 => ∃ (f : Int) (tail : Env), ez = (0, I pre.length) :: (1, .ptr bh 0) :: (2, .ptr bf 0) :: (3, .ptr bn 0) :: (4, .ptr bd 0) :: (5, .ptr by_ 0) :: (7, .bool false) :: (20, .bool true) :: (8, .ptr H1.next 0) :: (9, I f) :: tail ∧ (H1.next < H2.next) ∧ (Ready N p m bh v1 v2 h but B H2) ∧ (∀ b, l < b → b < H1.next → b ≠ bf → H2.get b = H1.get b) ∧ (Fac h.ws.length bf pre H2) ∧ (H2.get H1.next = some (.cells false [I h.ws[pre.length].lo, I h.ws[pre.length].hi])) ∧ (h.ws[pre.length].lo ≤ f) ∧ (f ≤ h.ws[pre.length].hi + 1) ∧ (Y (done ++ ((upTo h.ws[pre.length].lo (f - 1)).flatMap fun n => from_ (lookE h but) (pre ++ [n])).map (argT (lookE h but))) H2) ∧ mz = (h.ws[pre.length].hi + 1 - f).toNat) _ ⟨h.ws[pre.length].lo, _, rfl, ?_, (by exact hr.up GW), (by intro b h1 h2 h3; simp(maxSteps:=9999999)(disch:=first|omega|(simp only[AN];omega))only[↓KP,EK,↓reduceIte,reduceCtorEq,Nat.reduceEqDiff,Nat.reduceAdd,Nat.reduceLeDiff,Nat.reduceMul]), (by rcases hfac with ⟨arr, a1, a2, a3, a4⟩; exact ⟨arr, a1, a2, a3, by simp(maxSteps:=9999999)(disch:=first|omega|(simp only[AN];omega))only[a4,↓KP,EK,↓reduceIte,reduceCtorEq,Nat.reduceEqDiff,Nat.reduceAdd,Nat.reduceLeDiff,Nat.reduceMul]⟩), ?_, ?_, (by omega), (by rw [upTo_nil]; simp only [List.flatMap_nil, List.map_nil, List.append_nil]; exact hY done H1 _ (by simp(maxSteps:=9999999)(disch:=first|omega|(simp only[AN];omega))only[↓KP,EK,↓reduceIte,reduceCtorEq,Nat.reduceEqDiff,Nat.reduceAdd,Nat.reduceLeDiff,Nat.reduceMul]; omega) (fun b h1 h2 => by simp(maxSteps:=9999999)(disch:=first|omega|(simp only[AN];omega))only[↓KP,EK,↓reduceIte,reduceCtorEq,Nat.reduceEqDiff,Nat.reduceAdd,Nat.reduceLeDiff,Nat.reduceMul]) hyd), rfl⟩ ?_
    iterate 3 (focus (first|(with_reducible rfl)|omega|(with_reducible(repeat first|exact Grew.refl _|assumption|apply Grew.alloc|refine Grew.set ?_ _ (by first|omega|(simp only[AN];omega)));done)|(simp(maxSteps:=9999999)(disch:=first|omega|(simp only[AN];omega))only[↓KP,EK,↓reduceIte,reduceCtorEq,Nat.reduceEqDiff,Nat.reduceAdd,Nat.reduceLeDiff,Nat.reduceMul]<;>first|omega|rfl)|(simp;done)|rfl))
    rintro mz ez H2 ⟨f, tail, rfl, hn, hr2, hs2, hfac2, h8, hf1, hf2, hyd2, hmz⟩; subst mz
    simp(maxSteps:=9999999)(disch:=first|omega|(simp only[AN];omega))only[h8,↓KP,EK,↓reduceIte,reduceCtorEq,Nat.reduceEqDiff,Nat.reduceAdd,Nat.reduceLeDiff,Nat.reduceMul]
    refine C_decide (fun hcf => ?_) (fun hcf => ?_)
    · have e1 : IntKind.i64.wrap (f + 1) = f + 1 := i64_in _ (by omega)
      have e2 : IntKind.i64.wrap ((pre.length : Int) + 1) = ((pre ++ [f]).length : Int) := by rw [i64_in _ (by omega)]; simp
      obtain ⟨vs, vs', w1, w2, w3⟩ := hfac2.push hp hw3 f
      have hix : ∀ S, opIdxArr 3 1 (.ptr bf 0) (I pre.length) S = some (.ptr bf pre.length, S) := fun S => by
        have : pre.length < 3 := by omega
        simp [opIdxArr, natOf, this]
      have hbn2 : H2.get bn = some (.cells false [.func 103 [] [.ptr bh 0, .ptr bf 0, .ptr bn 0, .ptr bd 0, .ptr by_ 0]]) := by rw [hs2 _ hn2.2.1 hn1.2.1 (Ne.symm hrun.ne.1)]; exact hrun.next
      have hne := hrun.ne.1
      have hsp : ∀ (o : AObj) b, l < b → b < H1.next → b ≠ bf → (H2.set bf o).get b = H1.get b := fun o b h1 h2 h3 => by rw [get_set_other h3]; exact hs2 b h1 h2 h3
      simp(maxSteps:=9999999)(disch:=first|omega|(simp only[AN];omega))only[hix,w1,w2,hbn2,e2,↓KP,EK,↓reduceIte,reduceCtorEq,Nat.reduceEqDiff,Nat.reduceAdd,Nat.reduceLeDiff,Nat.reduceMul]
      refine C_call (ih (pre ++ [f]) (done ++ ((upTo h.ws[pre.length].lo (f - 1)).flatMap fun n => from_ (lookE h but) (pre ++ [n])).map (argT (lookE h but))) (((upTo (f + 1) h.ws[pre.length].hi).flatMap fun n => from_ (lookE h but) (pre ++ [n])).map (argT (lookE h but)) ++ rest) _ _
        (by simp; omega) (fun f' hf' => ?_) ?_ (by show l < H2.next; omega) (hr2.keep (Nat.le_refl _) fun b hb => get_set_other (by rcases hb with h | h <;> omega)) (hrun.keep (by show H1.next ≤ H2.next; omega) (hsp _)) w3 (hY _ H2 (H2.set bf (.cells false vs')) (Nat.le_refl _) (fun b h1 h2 => get_set_other (by omega)) hyd2) fun v H3 hn3 hr3 hs3 hf3 hor => ?_)
      · rcases List.mem_append.1 hf' with h1 | h1
        · exact hpre _ h1
        · simp only [List.mem_singleton] at h1; omega
      · rw [hL, hone, upTo_split hf1 hcf]
        simp only [List.flatMap_append, List.flatMap_cons, List.map_append, List.append_assoc]
      · have hn3' : H2.next ≤ H3.next := hn3
        have hs4 : ∀ b, l < b → b < H1.next → b ≠ bf → H3.get b = H1.get b := fun b h1 h2 h3 => by rw [hs3 b h1 (by show b < H2.next; omega) h3, hsp _ b h1 h2 h3]
        have h84 : H3.get H1.next = some (.cells false [I h.ws[pre.length].lo, I h.ws[pre.length].hi]) := by rw [hs3 _ (by omega) hn (by omega), get_set_other (by omega), h8]
        rcases hor with ⟨rfl, hy3⟩ | ⟨rfl, hS3⟩
        · simp(maxSteps:=9999999)(disch:=first|omega|(simp only[AN];omega))only[e1,↓KP,EK,↓reduceIte,reduceCtorEq,Nat.reduceEqDiff,Nat.reduceAdd,Nat.reduceLeDiff,Nat.reduceMul]
          refine ⟨_, ?_, f + 1, _, rfl, ?_, (by exact hr3), (by exact hs4), (by exact hf3.pop), (by exact h84), ?_, ?_, (by rw [show f + 1 - 1 = f from by omega, upTo_succ hf1, List.flatMap_append, List.map_append, ← List.append_assoc]; simpa using hy3), rfl⟩ <;> (first|omega|(with_reducible assumption)|(with_reducible(repeat first|exact Grew.refl _|assumption|apply Grew.alloc|refine Grew.set ?_ _ (by first|omega|(simp only[AN];omega)));done)|(simp(maxSteps:=9999999)(disch:=first|omega|(simp only[AN];omega))only[↓KP,EK,↓reduceIte,reduceCtorEq,Nat.reduceEqDiff,Nat.reduceAdd,Nat.reduceLeDiff,Nat.reduceMul]<;>first|omega|rfl))
        · simp(maxSteps:=9999999)(disch:=first|omega|(simp only[AN];omega))only[↓KP,EK,↓reduceIte,reduceCtorEq,Nat.reduceEqDiff,Nat.reduceAdd,Nat.reduceLeDiff,Nat.reduceMul]
          exact kk _ _ (by omega) hr3 hs4 hf3.pop (.inr ⟨rfl, hS3⟩)
    · simp(maxSteps:=9999999)(disch:=first|omega|(simp only[AN];omega))only[↓KP,EK,↓reduceIte,reduceCtorEq,Nat.reduceEqDiff,Nat.reduceAdd,Nat.reduceLeDiff,Nat.reduceMul]
      have hfe : f = h.ws[pre.length].hi + 1 := by omega
      subst hfe
      rw [show h.ws[pre.length].hi + 1 - 1 = h.ws[pre.length].hi from by omega, ← hone] at hyd2
      exact kk _ _ (by omega) hr2 hs2 hfac2 (.inl ⟨rfl, hyd2⟩)
end Go.Proofs.Ytgncpbkedhchfaa
namespace Go.Proofs.Ytgncpbkedhchfaa
open Go.AM Go.IntWalk
set_option maxRecDepth 100000
set_option maxHeartbeats 4000000
set_option linter.unusedSimpArgs false
variable {H : AH} {R : AV → AH → Prop}
abbrev yields (h : House) (but : Nat) : List (List AV) := (truthsE (lookE h but)).map (argT (lookE h but))
theorem truths_iter {N p m bh : Nat} {v1 v2 : AV} {h : House} {but : Nat} {B : AH} (hfine : Fine h) (hbut : but < 4096) : Iter prog (.func 101 [] [.ptr bh 0]) (yields h but) (Kh N bh) (Ready N p m bh v1 v2 h but B) := by
  refine ⟨fun H1 H2 hn hs hr => hr.keep hn hs, fun H hr b hb => by have := hr.lt; have := hr.bhn; rcases hb with h | h <;> omega, fun H l Y S R hNl hl hi hY hS hy hfin h0 => ?_⟩
  have hbhlt := hi.lt
  have hbl : bh < l := hNl _ (.inr rfl)
  have hbox := hi.box
  refine CallQ_enter (fn:=c101) rfl (Nat.le_of_ble_eq_true rfl) ?_;simp(maxSteps:=9999999)(disch:=first|omega|(simp only[AN];omega))only[c101,envFrom,hbox,↓KP,EK,↓reduceIte,reduceCtorEq,Nat.reduceEqDiff,Nat.reduceAdd,Nat.reduceLeDiff,Nat.reduceMul]
  have hg : ∀ o1 o2 o3 o4 o5 o6, Grew H ((((((H.alloc o1).alloc o2).set (H.next + 1) o3).alloc o4).alloc o5).set (H.next + 1 + 1 + 1) o6) := fun o1 o2 o3 o4 o5 o6 => GW
  refine C_call (next_run (p := p) (bf := H.next + 1 + 1) (bn := H.next + 1 + 1 + 1) (bd := H.next + 1) (by_ := H.next) hfine hbut (by omega) Y S hY hS hy h.ws.length [] [] [] _ _ (by simp) (by simp) (by simp [truthsE_from]) (by simp(maxSteps:=9999999)(disch:=first|omega|(simp only[AN];omega))only[↓KP,EK,↓reduceIte,reduceCtorEq,Nat.reduceEqDiff,Nat.reduceAdd,Nat.reduceLeDiff,Nat.reduceMul]; omega) (hi.up (hg _ _ _ _ _ _)) ⟨by omega, by omega, by simp(maxSteps:=9999999)(disch:=first|omega|(simp only[AN];omega))only[↓KP,EK,↓reduceIte,reduceCtorEq,Nat.reduceEqDiff,Nat.reduceAdd,Nat.reduceLeDiff,Nat.reduceMul]; omega, by simp(maxSteps:=9999999)(disch:=first|omega|(simp only[AN];omega))only[↓KP,EK,↓reduceIte,reduceCtorEq,Nat.reduceEqDiff,Nat.reduceAdd,Nat.reduceLeDiff,Nat.reduceMul], by simp(maxSteps:=9999999)(disch:=first|omega|(simp only[AN];omega))only[↓KP,EK,↓reduceIte,reduceCtorEq,Nat.reduceEqDiff,Nat.reduceAdd,Nat.reduceLeDiff,Nat.reduceMul], by simp(maxSteps:=9999999)(disch:=first|omega|(simp only[AN];omega))only[↓KP,EK,↓reduceIte,reduceCtorEq,Nat.reduceEqDiff,Nat.reduceAdd,Nat.reduceLeDiff,Nat.reduceMul]⟩ ⟨[0, 0, 0], rfl, rfl, fun j hj _ => ?_, by simp(maxSteps:=9999999)(disch:=first|omega|(simp only[AN];omega))only[↓KP,EK,↓reduceIte,reduceCtorEq,Nat.reduceEqDiff,Nat.reduceAdd,Nat.reduceLeDiff,Nat.reduceMul]; rfl⟩ ?_ fun v H2 hn hr hs hf hor => ?_)
  · have : j = 0 ∨ j = 1 ∨ j = 2 := by simp at hj; omega
    rcases this with rfl | rfl | rfl <;> rfl
  · exact hY _ H _ (hg _ _ _ _ _ _).next (fun b h1 h2 => (hg _ _ _ _ _ _).get b (by omega)) h0
  · simp(maxSteps:=9999999)(disch:=first|omega|(simp only[AN];omega))only[↓KP,EK,↓reduceIte,reduceCtorEq,Nat.reduceEqDiff,Nat.reduceAdd,Nat.reduceLeDiff,Nat.reduceMul]
    refine hfin _ ?_ hr ?_
    · simp only [AH.next_alloc, AH.next_set] at hn; omega
    · rw [yields, truthsE_from]
      rcases hor with ⟨_, h1⟩ | ⟨_, h1⟩
      · exact .inl (by simpa using h1)
      · exact .inr h1
structure Held (N p m : Nat) (v1 v2 : AV) (h : House) (but : Nat) (H : AH) : Prop where
  look : Looked N p m v1 v2 h but H
  cache : ∃ es, H.get m = some (.map es) ∧ Cache (lookE h but) es
structure GrewBut (m : Nat) (H H' : AH) : Prop where
  next : H.next ≤ H'.next
  get : ∀ b, b < H.next → b ≠ m → H'.get b = H.get b
theorem GrewBut.trans {m : Nat} {H H' H'' : AH} (h : GrewBut m H H') (h' : GrewBut m H' H'') : GrewBut m H H'' := ⟨Nat.le_trans h.next h'.next, fun b hb hm => (h'.get b (Nat.lt_of_lt_of_le hb h.next) hm).trans (h.get b hb hm)⟩
theorem Grew.but {m : Nat} {H H' : AH} (h : Grew H H') : GrewBut m H H' := ⟨h.next, fun b hb _ => h.get b hb⟩
theorem GrewBut.grew {m : Nat} {H H' H'' : AH} (hg : Grew H H') (h : GrewBut m H' H'') (hm : H.next ≤ m) : Grew H H'' := ⟨Nat.le_trans hg.next h.next, fun b hb => by rw [h.get b (Nat.lt_of_lt_of_le hb hg.next) (by omega), hg.get b hb]⟩
theorem Held.up {N p m : Nat} {v1 v2 : AV} {h : House} {but : Nat} {H1 H2 : AH} (hr : Held N p m v1 v2 h but H1) (hg : Grew H1 H2) : Held N p m v1 v2 h but H2 := by
  obtain ⟨l, es, h1, h2⟩ := hr
  exact ⟨l.up hg, es, by rw [hg.get _ (by have := l.mlt; have := l.nle; omega)]; exact h1, h2⟩
theorem Held.ready {N p m : Nat} {v1 v2 : AV} {h : House} {but : Nat} {H1 : AH} (hr : Held N p m v1 v2 h but H1) : Ready N p m H1.next v1 v2 h but (H1.alloc (.cells false [.ptr p 0])) (H1.alloc (.cells false [.ptr p 0])) :=
  ⟨fun _ _ _ => rfl, (hr.up ((Grew.refl _).alloc _)).look, (hr.up ((Grew.refl _).alloc _)).cache, hr.look.nle, get_alloc_new _ _, by simp⟩
theorem Ready.held {N p m bh : Nat} {v1 v2 : AV} {h : House} {but : Nat} {B H1 : AH} (hr : Ready N p m bh v1 v2 h but B H1) : Held N p m v1 v2 h but H1 := ⟨hr.look, hr.cache⟩
theorem truths_run (p : Nat) (k : R (.func 101 [] [.ptr H.next 0]) (H.alloc (.cells false [.ptr p 0]))) : CallQ prog (.func 67 [] []) [.ptr p 0] H R := by
  refine CallQ_enter (fn:=c67) rfl (Nat.le_of_ble_eq_true rfl) ?_;simp(maxSteps:=9999999)(disch:=first|omega|(simp only[AN];omega))only[c67,envFrom,↓KP,EK,↓reduceIte,reduceCtorEq,Nat.reduceEqDiff,Nat.reduceAdd,Nat.reduceLeDiff,Nat.reduceMul]
  exact k
theorem look_run (v1 v2 : AV) (h : House) (but : Nat) (hh : IsHouse (Old H) H v1 v2 h) (k : ∀ H' p m, Grew H H' → H.next ≤ m → Held H'.next p m v1 v2 h but H' → R (.ptr p 0) H') : CallQ prog (.func 81 [] []) [.agg [v1, v2], I but] H R := by
  refine CallQ_enter (fn:=c81) rfl (Nat.le_of_ble_eq_true rfl) ?_;simp(maxSteps:=9999999)(disch:=first|omega|(simp only[AN];omega))only[c81,envFrom,↓KP,EK,↓reduceIte,reduceCtorEq,Nat.reduceEqDiff,Nat.reduceAdd,Nat.reduceLeDiff,Nat.reduceMul]
  have hg : Grew H (((H.alloc (.cells false [v1, v2])).alloc (.map [])).alloc (.cells false [v1, v2, I but, .map (H.next + 1)])) := GW
  refine k _ _ (H.next + 1) hg (by omega) ⟨⟨by simp(maxSteps:=9999999)(disch:=first|omega|(simp only[AN];omega))only[↓KP,EK,↓reduceIte,reduceCtorEq,Nat.reduceEqDiff,Nat.reduceAdd,Nat.reduceLeDiff,Nat.reduceMul], hh.move fun b hb => ⟨⟨by show b < H.next + 1 + 1 + 1; omega, by omega⟩, hg.get b hb⟩, by simp(maxSteps:=9999999)(disch:=first|omega|(simp only[AN];omega))only[↓KP,EK,↓reduceIte,reduceCtorEq,Nat.reduceEqDiff,Nat.reduceAdd,Nat.reduceLeDiff,Nat.reduceMul]; omega, by simp(maxSteps:=9999999)(disch:=first|omega|(simp only[AN];omega))only[↓KP,EK,↓reduceIte,reduceCtorEq,Nat.reduceEqDiff,Nat.reduceAdd,Nat.reduceLeDiff,Nat.reduceMul]; omega, by omega, Nat.le_refl _⟩, [], by simp(maxSteps:=9999999)(disch:=first|omega|(simp only[AN];omega))only[↓KP,EK,↓reduceIte,reduceCtorEq,Nat.reduceEqDiff,Nat.reduceAdd,Nat.reduceLeDiff,Nat.reduceMul], fun _ h => by cases h⟩
theorem some_run {N p m : Nat} {v1 v2 : AV} {h : House} {but : Nat} (hfine : Fine h) (hbut : but < 4096) (hr : Held N p m v1 v2 h but H) (k : ∀ H', GrewBut m H H' → Held N p m v1 v2 h but H' → R (.bool (decide (0 < (truthsE (lookE h but)).length))) H') : CallQ prog (.func 82 [] []) [.ptr p 0] H R := by
  refine CallQ_enter (fn:=c82) rfl (Nat.le_of_ble_eq_true rfl) ?_;simp(maxSteps:=9999999)(disch:=first|omega|(simp only[AN];omega))only[c82,envFrom,↓KP,EK,↓reduceIte,reduceCtorEq,Nat.reduceEqDiff,Nat.reduceAdd,Nat.reduceLeDiff,Nat.reduceMul]
  first|refine C_call ?_|refine C_calld ?_
  refine truths_run p ?_
  simp(maxSteps:=9999999)(disch:=first|omega|(simp only[AN];omega))only[↓KP,EK,↓reduceIte,reduceCtorEq,Nat.reduceEqDiff,Nat.reduceAdd,Nat.reduceLeDiff,Nat.reduceMul]
  have hr1 := (hr.up ((Grew.refl H).alloc (.cells false [.bool false]))).ready
  have hNle := hr.look.nle
  have base : ∀ b, b < N → b ≠ m → ((H.alloc (.cells false [.bool false])).alloc (.cells false [.ptr p 0])).get b = H.get b := fun b h1 h2 => by simp(maxSteps:=9999999)(disch:=first|omega|(simp only[AN];omega))only[↓KP,EK,↓reduceIte,reduceCtorEq,Nat.reduceEqDiff,Nat.reduceAdd,Nat.reduceLeDiff,Nat.reduceMul]
  generalize hB : (H.alloc (.cells false [.bool false])).alloc (.cells false [.ptr p 0]) = B at hr1 base
  have e0 : B.get H.next = some (.cells false [.bool false]) := by rw [← hB]; simp(maxSteps:=9999999)(disch:=first|omega|(simp only[AN];omega))only[↓KP,EK,↓reduceIte,reduceCtorEq,Nat.reduceEqDiff,Nat.reduceAdd,Nat.reduceLeDiff,Nat.reduceMul]
  have old : ∀ b, b < H.next → B.get b = H.get b := fun b hb => by rw [← hB]; simp(maxSteps:=9999999)(disch:=first|omega|(simp only[AN];omega))only[↓KP,EK,↓reduceIte,reduceCtorEq,Nat.reduceEqDiff,Nat.reduceAdd,Nat.reduceLeDiff,Nat.reduceMul]
  have hBn : B.next = H.next + 1 + 1 := by rw [← hB]; rfl
  have fin : ∀ (H2 : AH) (x : Bool), H.next ≤ H2.next → Ready N p m (H.next + 1) v1 v2 h but B H2 → (∀ b, N ≤ b → b < H.next → H2.get b = H.get b) → x = decide (0 < (truthsE (lookE h but)).length) → R (.bool x) H2 := fun H2 x hn hi hf hx => by
    rw [hx]
    exact k H2 ⟨hn, fun b hb hm => by
      by_cases hbN : b < N
      · rw [hi.base b hbN hm, base b hbN hm]
      · exact hf b (by omega) hb⟩ hi.held
  refine K_iter (L := yields h but) (K := Kh N (H.next + 1)) (Inv := Ready N p m (H.next + 1) v1 v2 h but B) rfl (truths_iter hfine hbut) hr1 (fun a ha => ?_)
    (fun done H2 => done = [] ∧ H2.get H.next = some (.cells false [.bool false]) ∧ ∀ b, N ≤ b → b < H.next → H2.get b = H.get b)
    (fun x H2 => x = .ret ∧ yields h but ≠ [] ∧ H2.get H.next = some (.cells false [.bool true]) ∧ ∀ b, N ≤ b → b < H.next → H2.get b = H.get b) ?_ ?_ ?_ ?_ ?_ ?_
  · obtain ⟨fs, _, rfl⟩ := List.mem_map.1 ha; rfl
  · rintro done H1 H2 hn hs ⟨h1, h2, h3⟩
    exact ⟨h1, by rw [hs _ (by simp only [Kh]; omega) (by omega)]; exact h2, fun b hb hb2 => by rw [hs _ (by simp only [Kh]; omega) (by omega)]; exact h3 b hb hb2⟩
  · rintro x H1 H2 hn hs ⟨h1, h0, h2, h3⟩
    exact ⟨h1, h0, by rw [hs _ (by simp only [Kh]; omega) (by omega)]; exact h2, fun b hb hb2 => by rw [hs _ (by simp only [Kh]; omega) (by omega)]; exact h3 b hb hb2⟩
  · exact ⟨rfl, e0, fun b _ hb => old b hb⟩
  · rintro done a rest H1 hL hlt hi ⟨rfl, h2, h3⟩ hlo
    obtain ⟨fs, _, rfl⟩ : ∃ fs, fs ∈ truthsE (lookE h but) ∧ argT (lookE h but) fs = a := List.mem_map.1 (by rw [← yields, hL]; simp)
    simp(maxSteps:=9999999)(disch:=first|omega|(simp only[AN];omega))only[K7,hlo,argT,h2,↓KP,EK,↓reduceIte,reduceCtorEq,Nat.reduceEqDiff,Nat.reduceAdd,Nat.reduceLeDiff,Nat.reduceMul]
    refine ⟨⟨by simp(maxSteps:=9999999)(disch:=first|omega|(simp only[AN];omega))only[↓KP,EK,↓reduceIte,reduceCtorEq,Nat.reduceEqDiff,Nat.reduceAdd,Nat.reduceLeDiff,Nat.reduceMul]; omega, fun b hb hc => ?_⟩, ?_, fun b h4 h5 => ?_⟩
    · simp only [Kh] at hc
      simp(maxSteps:=9999999)(disch:=first|omega|(simp only[AN];omega))only[↓KP,EK,↓reduceIte,reduceCtorEq,Nat.reduceEqDiff,Nat.reduceAdd,Nat.reduceLeDiff,Nat.reduceMul]
    · rw [hL]; simp
    · simp(maxSteps:=9999999)(disch:=first|omega|(simp only[AN];omega))only[h3,↓KP,EK,↓reduceIte,reduceCtorEq,Nat.reduceEqDiff,Nat.reduceAdd,Nat.reduceLeDiff,Nat.reduceMul]
  · rintro H2 hn hi ⟨hd, h2, h3⟩
    simp(maxSteps:=9999999)(disch:=first|omega|(simp only[AN];omega))only[h2,↓KP,EK,↓reduceIte,reduceCtorEq,Nat.reduceEqDiff,Nat.reduceAdd,Nat.reduceLeDiff,Nat.reduceMul]
    refine fin _ _ (by show H.next ≤ H2.next; omega) (hi.keep (Nat.le_refl _) fun b hb => get_set_other (by simp only [Kh] at hb; omega)) (fun b h4 h5 => by simp(maxSteps:=9999999)(disch:=first|omega|(simp only[AN];omega))only[h3,↓KP,EK,↓reduceIte,reduceCtorEq,Nat.reduceEqDiff,Nat.reduceAdd,Nat.reduceLeDiff,Nat.reduceMul]) ?_
    have : truthsE (lookE h but) = [] := by simpa [yields] using hd
    rw [this]; rfl
  · rintro x H2 hx hn hi ⟨rfl, h0, h2, h3⟩
    simp(maxSteps:=9999999)(disch:=first|omega|(simp only[AN];omega))only[h2,↓KP,EK,↓reduceIte,reduceCtorEq,Nat.reduceEqDiff,Nat.reduceAdd,Nat.reduceLeDiff,Nat.reduceMul]
    exact fin _ _ (by omega) hi h3 (by
      symm; rw [decide_eq_true_eq, List.length_pos_iff]
      intro e; apply h0; simp [yields, e])
end Go.Proofs.Ytgncpbkedhchfaa
namespace Go.Proofs.Ytgncpbkedhchfaa
open Go.AM Go.IntWalk
set_option maxRecDepth 100000
set_option maxHeartbeats 4000000
set_option linter.unusedSimpArgs false
variable {H : AH} {R : AV → AH → Prop}
theorem lookE_zero (h : House) : lookE h 0 = h := by
  unfold lookE maskE
  have : (List.range h.days.length).map (fun d => maskRow (Nat.testBit 0) (h.days.getD d []) (d * h.ws.length) (h.days.getD d []).length) = h.days := by
    refine List.ext_getElem (by simp) fun i h1 h2 => ?_
    simp only [List.getElem_map, List.getElem_range, getD_eq h2]
    refine List.ext_getElem (by simp [maskRow]) fun j h3 h4 => ?_
    simp [maskRow, getI_eq h4]
  rw [this]
def pairsOff : List Int → Bool
  | n :: b :: rest => offP 0 (b - 1) n || pairsOff rest
  | _ => false
def enterErr (h : House) (l : List Int) (eo : Int) : Int :=
  if errE h ≠ 0 then errE h else if pairsOff l = true then 4 else if eo ≠ 0 then eo else if truthsE h = [] then 8 else 0
theorem fine_run (k : R (I 0) H) : CallQ prog (.func 64 [] []) [] H R := by
  refine CallQ_enter (fn:=c64) rfl (Nat.le_of_ble_eq_true rfl) ?_;simp(maxSteps:=9999999)(disch:=first|omega|(simp only[AN];omega))only[c64,envFrom,↓KP,EK,↓reduceIte,reduceCtorEq,Nat.reduceEqDiff,Nat.reduceAdd,Nat.reduceLeDiff,Nat.reduceMul]
  exact k
theorem enter_run (v1 v2 fo vl : AV) (h : House) (l : List Int) (eo : Int) (hh : IsHouse (Old H) H v1 v2 h) (hl : IsInts (Old H) H vl l) (hll : l.length ≤ 1000) (hb : ∀ j (hj : j < l.length), j % 2 = 1 → 0 ≤ l[j] ∧ l[j] ≤ 9223372036854775807)
    {g : Nat} {fs cs : List AV} (hfo : fo = .func g fs cs) (ho : errE h = 0 → pairsOff l = false → ∀ (H1 : AH) (R : AV → AH → Prop), Grew H H1 → (∀ H2, Grew H1 H2 → R (I eo) H2) → CallQ prog fo [] H1 R)
    (k0 : enterErr h l eo ≠ 0 → ∀ H', Grew H H' → R (.tuple [.nilptr, I (enterErr h l eo)]) H')
    (k1 : enterErr h l eo = 0 → Fine h → truthsE h ≠ [] → ∀ H' N p m, Grew H H' → H.next ≤ m → Held N p m v1 v2 h 0 H' → R (.tuple [.ptr p 0, I 0]) H') : CallQ prog (.func 63 [] []) [.agg [v1, v2], fo, vl] H R := by
  subst hfo
  have hg0 : Grew H (H.alloc (.cells false [v1, v2])) := GW
  refine CallQ_enter (fn:=c63) rfl (Nat.le_of_ble_eq_true rfl) ?_;simp(maxSteps:=9999999)(disch:=first|omega|(simp only[AN];omega))only[c63,envFrom,↓KP,EK,↓reduceIte,reduceCtorEq,Nat.reduceEqDiff,Nat.reduceAdd,Nat.reduceLeDiff,Nat.reduceMul]
  refine C_call (Check_run v1 v2 h (hh.grow hg0) fun H1 hg1 => ?_)
  have hg1n := hg1.next; simp only [AH.next_alloc] at hg1n
  have hg1' := hg0.trans hg1
  have hbox : H1.get H.next = some (.cells false [v1, v2]) := by simp(maxSteps:=9999999)(disch:=first|omega|(simp only[AN];omega))only[hg1.get,↓KP,EK,↓reduceIte,reduceCtorEq,Nat.reduceEqDiff,Nat.reduceAdd,Nat.reduceLeDiff,Nat.reduceMul]
  by_cases he : (checkE h).2.2 = 0
  · have he' : errE h = 0 := he
    have hfine := fine_of he'
    simp(maxSteps:=9999999)(disch:=first|omega|(simp only[AN];omega))only[he,↓KP,EK,↓reduceIte,reduceCtorEq,Nat.reduceEqDiff,Nat.reduceAdd,Nat.reduceLeDiff,Nat.reduceMul]
    refine K_loop (fun mz ez H2 => ∃ (i : Nat) (tail : Env), ez = (0, .agg [v1, v2]) :: (1, .func g fs cs) :: (2, vl) :: (3, .ptr H.next 0) :: (6, .nilptr) :: (7, I 0) :: (10, I 0) :: (21, .bool false) :: (11, I i) :: tail ∧ (Grew H1 H2) ∧ (i ≤ l.length) ∧ (i % 2 = 0) ∧ (pairsOff (l.drop i) = pairsOff l) ∧ mz = l.length - i) _ ⟨0, _, rfl, ?_, ?_, ?_, ?_, rfl⟩ ?_
    iterate 4 (focus (first|(with_reducible rfl)|omega|(with_reducible(repeat first|exact Grew.refl _|assumption|apply Grew.alloc|refine Grew.set ?_ _ (by first|omega|(simp only[AN];omega)));done)|(simp(maxSteps:=9999999)(disch:=first|omega|(simp only[AN];omega))only[↓KP,EK,↓reduceIte,reduceCtorEq,Nat.reduceEqDiff,Nat.reduceAdd,Nat.reduceLeDiff,Nat.reduceMul]<;>first|omega|rfl)|(simp;done)|rfl))
    rintro mz ez H2 ⟨i, tail, rfl, hG, hil, hev, hpo, hmz⟩; subst mz; have hGn := hG.next
    have e1 : IntKind.i64.wrap ((i : Int) + 1) = ((i + 1 : Nat) : Int) := i64_in _ (by omega)
    have e2 : IntKind.i64.wrap ((i : Int) + 2) = ((i + 2 : Nat) : Int) := i64_in _ (by omega)
    simp(maxSteps:=9999999)(disch:=first|omega|(simp only[AN];omega))only[e1,hl.len,↓KP,EK,↓reduceIte,reduceCtorEq,Nat.reduceEqDiff,Nat.reduceAdd,Nat.reduceLeDiff,Nat.reduceMul]
    refine C_decide (fun hc => ?_) (fun hc => ?_)
    · have hi1 : i + 1 < l.length := by omega
      obtain ⟨q_b, q_i, q_ro, q_vs, q_lt, q⟩ := hl.rdInt (n := ((i + 1 : Nat) : Int)) rfl hi1
      obtain ⟨r_b, r_i, r_ro, r_vs, r_lt, r⟩ := hl.rdInt (n := (i : Int)) rfl (show i < l.length by omega)
      have hbi := hb (i + 1) hi1 (by omega)
      have e3 : IntKind.i64.wrap (l[i + 1] - 1) = l[i + 1] - 1 := i64_in _ (by omega)
      have hdrop : pairsOff (l.drop i) = (offP 0 (l[i + 1] - 1) l[i] || pairsOff (l.drop (i + 2))) := by
        rw [List.drop_eq_getElem_cons (show i < l.length by omega), List.drop_eq_getElem_cons hi1, pairsOff]
      simp(maxSteps:=9999999)(disch:=first|omega|(simp only[AN];omega))only[↓KP,EK,↓reduceIte,reduceCtorEq,Nat.reduceEqDiff,Nat.reduceAdd,Nat.reduceLeDiff,Nat.reduceMul]
      refine K_draw ?_;simp(maxSteps:=9999999)(disch:=first|omega|(simp only[AN];omega))only[e1,e3,hG.get,hg1.get,q,r,↓KP,EK,↓reduceIte,reduceCtorEq,Nat.reduceEqDiff,Nat.reduceAdd,Nat.reduceLeDiff,Nat.reduceMul]
      refine C_calld (off_run 0 (l[i + 1] - 1) _ _ (one_slice H2 l[i]) (by simp) fun H3 hg3 => ?_)
      have hg3n := hg3.next; simp only [AH.next_alloc] at hg3n
      have hg3' : Grew H1 H3 := (hG.alloc _).trans hg3
      simp(maxSteps:=9999999)(disch:=first|omega|(simp only[AN];omega))only[hg3.get,hG.get,hg1.get,q,r,↓KP,EK,↓reduceIte,reduceCtorEq,Nat.reduceEqDiff,Nat.reduceAdd,Nat.reduceLeDiff,Nat.reduceMul]
      refine C_bool (fun hx => ?_) (fun hx => ?_)
      · have hx' : offP 0 (l[i + 1] - 1) l[i] = true := by simpa using hx
        have : enterErr h l eo = 4 := by rw [enterErr, if_neg (by omega), if_pos (by rw [← hpo, hdrop, hx']; rfl)]
        rw [this] at k0
        simp(maxSteps:=9999999)(disch:=first|omega|(simp only[AN];omega))only[↓KP,EK,↓reduceIte,reduceCtorEq,Nat.reduceEqDiff,Nat.reduceAdd,Nat.reduceLeDiff,Nat.reduceMul]
        exact k0 (by decide) _ (hg1'.trans hg3')
      · have hx' : offP 0 (l[i + 1] - 1) l[i] = false := by simpa using hx
        simp(maxSteps:=9999999)(disch:=first|omega|(simp only[AN];omega))only[e2,↓KP,EK,↓reduceIte,reduceCtorEq,Nat.reduceEqDiff,Nat.reduceAdd,Nat.reduceLeDiff,Nat.reduceMul]
        refine ⟨_, ?_, i + 2, _, rfl, ?_, ?_, ?_, (by rw [← hpo, hdrop, hx']; rfl), rfl⟩ <;> (first|omega|(with_reducible assumption)|(with_reducible(repeat first|exact Grew.refl _|assumption|apply Grew.alloc|refine Grew.set ?_ _ (by first|omega|(simp only[AN];omega))|refine Grew.trans ?_ hg3|refine Grew.trans ?_ hG);done)|(simp(maxSteps:=9999999)(disch:=first|omega|(simp only[AN];omega))only[hg3.get,hG.get,↓KP,EK,↓reduceIte,reduceCtorEq,Nat.reduceEqDiff,Nat.reduceAdd,Nat.reduceLeDiff,Nat.reduceMul]<;>first|omega|rfl))
    · have hpf : pairsOff l = false := by
        rw [← hpo]
        have : l.drop i = [] ∨ ∃ a, l.drop i = [a] := by
          have hlen : (l.drop i).length ≤ 1 := by rw [List.length_drop]; omega
          match l.drop i, hlen with
          | [], _ => exact .inl rfl
          | [a], _ => exact .inr ⟨a, rfl⟩
        rcases this with e | ⟨a, e⟩ <;> rw [e] <;> rfl
      simp(maxSteps:=9999999)(disch:=first|omega|(simp only[AN];omega))only[↓KP,EK,↓reduceIte,reduceCtorEq,Nat.reduceEqDiff,Nat.reduceAdd,Nat.reduceLeDiff,Nat.reduceMul]
      refine C_call (ho he' hpf H2 _ (hg1'.trans hG) fun H3 hg3 => ?_)
      have hg3n := hg3.next
      have hg3' := (hg1'.trans hG).trans hg3
      by_cases heo : eo = 0
      · simp(maxSteps:=9999999)(disch:=first|omega|(simp only[AN];omega))only[heo,hbox,hG.get,hg3.get,↓KP,EK,↓reduceIte,reduceCtorEq,Nat.reduceEqDiff,Nat.reduceAdd,Nat.reduceLeDiff,Nat.reduceMul]
        refine C_call (look_run v1 v2 h 0 (hh.grow hg3') fun H4 p m hg4 hm4 hheld => ?_)
        have hg4n := hg4.next
        simp(maxSteps:=9999999)(disch:=first|omega|(simp only[AN];omega))only[↓KP,EK,↓reduceIte,reduceCtorEq,Nat.reduceEqDiff,Nat.reduceAdd,Nat.reduceLeDiff,Nat.reduceMul]
        refine C_call (some_run hfine (by omega) hheld fun H5 hg5 hh5 => ?_)
        have hg5' : Grew H H5 := GrewBut.grew (hg3'.trans hg4) hg5 (by have := hg3'.next; omega)
        rw [lookE_zero]
        by_cases ht : 0 < (truthsE h).length
        · have : enterErr h l eo = 0 := by rw [enterErr, if_neg (by omega), if_neg (by simp [hpf]), if_neg (by omega), if_neg (List.length_pos_iff.1 ht)]
          simp(maxSteps:=9999999)(disch:=first|omega|(simp only[AN];omega))only[ht,↓KP,EK,↓reduceIte,reduceCtorEq,Nat.reduceEqDiff,Nat.reduceAdd,Nat.reduceLeDiff,Nat.reduceMul]
          exact k1 this hfine (List.length_pos_iff.1 ht) _ _ _ _ hg5' (by have := hg3'.next; omega) hh5
        · have hnil : truthsE h = [] := List.length_eq_zero_iff.1 (by omega)
          have : enterErr h l eo = 8 := by rw [enterErr, if_neg (by omega), if_neg (by simp [hpf]), if_neg (by omega), if_pos hnil]
          rw [this] at k0
          simp(maxSteps:=9999999)(disch:=first|omega|(simp only[AN];omega))only[ht,↓KP,EK,↓reduceIte,reduceCtorEq,Nat.reduceEqDiff,Nat.reduceAdd,Nat.reduceLeDiff,Nat.reduceMul]
          exact k0 (by decide) _ hg5'
      · have : enterErr h l eo = eo := by rw [enterErr, if_neg (by omega), if_neg (by simp [hpf]), if_pos heo]
        rw [this] at k0
        simp(maxSteps:=9999999)(disch:=first|omega|(simp only[AN];omega))only[heo,↓KP,EK,↓reduceIte,reduceCtorEq,Nat.reduceEqDiff,Nat.reduceAdd,Nat.reduceLeDiff,Nat.reduceMul]
        exact k0 heo _ hg3'
  · have : enterErr h l eo = errE h := by rw [enterErr, if_pos (show errE h ≠ 0 from he)]
    rw [this] at k0
    simp(maxSteps:=9999999)(disch:=first|omega|(simp only[AN];omega))only[he,↓KP,EK,↓reduceIte,reduceCtorEq,Nat.reduceEqDiff,Nat.reduceAdd,Nat.reduceLeDiff,Nat.reduceMul]
    exact k0 he _ hg1'
end Go.Proofs.Ytgncpbkedhchfaa
namespace Go.Proofs.Ytgncpbkedhchfaa
open Go.AM Go.IntWalk
set_option maxRecDepth 100000
set_option maxHeartbeats 4000000
set_option linter.unusedSimpArgs false
variable {H : AH} {R : AV → AH → Prop}
def wider (s x : Int × Int) : Int × Int := (min s.1 x.1, max s.2 x.2)
def wideL (l : List (Int × Int)) : Int × Int := l.foldl wider (9223372036854775807, -1)
abbrev spanArg (s : Int × Int) : List AV := [.agg [I s.1, I s.2]]
theorem wideL_snoc {l : List (Int × Int)} {s : Int × Int} : wideL (l ++ [s]) = wider (wideL l) s := by simp [wideL]
theorem wide_run {g : Nat} {fs cs : List AV} {l : List (Int × Int)} {K : Nat → Prop} {Inv : AH → Prop} (hI : Iter prog (.func g fs cs) (l.map spanArg) K Inv) (hi : Inv H)
    (k : ∀ H', H.next ≤ H'.next → Inv H' → (∀ b, ¬ K b → b < H.next → H'.get b = H.get b) → R (.agg [I (wideL l).1, I (wideL l).2]) H') : CallQ prog (.func 65 [] []) [.func g fs cs] H R := by
  have hK := hI.2.1 H hi
  have hB := hI.1
  refine CallQ_enter (fn:=c65) rfl (Nat.le_of_ble_eq_true rfl) ?_;simp(maxSteps:=9999999)(disch:=first|omega|(simp only[AN];omega))only[c65,envFrom,↓KP,EK,↓reduceIte,reduceCtorEq,Nat.reduceEqDiff,Nat.reduceAdd,Nat.reduceLeDiff,Nat.reduceMul]
  refine K_iter (L := l.map spanArg) (K := K) (Inv := Inv) rfl hI (hB _ _ (by simp(maxSteps:=9999999)(disch:=first|omega|(simp only[AN];omega))only[↓KP,EK,↓reduceIte,reduceCtorEq,Nat.reduceEqDiff,Nat.reduceAdd,Nat.reduceLeDiff,Nat.reduceMul]; omega) (fun b hb => by have := hK b hb; simp(maxSteps:=9999999)(disch:=first|omega|(simp only[AN];omega))only[↓KP,EK,↓reduceIte,reduceCtorEq,Nat.reduceEqDiff,Nat.reduceAdd,Nat.reduceLeDiff,Nat.reduceMul]) hi) (fun a ha => ?_)
    (fun done H2 => (∃ ds : List (Int × Int), done = ds.map spanArg ∧ H2.get H.next = some (.cells false [I (wideL ds).1, I (wideL ds).2])) ∧ ∀ b, ¬ K b → b < H.next → H2.get b = H.get b)
    (fun _ _ => False) ?_ ?_ ?_ ?_ ?_ ?_
  · obtain ⟨x, _, rfl⟩ := List.mem_map.1 ha; rfl
  · rintro done H1 H2 hn hs ⟨⟨ds, h1, h2⟩, h3⟩
    refine ⟨⟨ds, h1, ?_⟩, fun b hb hb2 => by rw [hs _ hb (by simp(maxSteps:=9999999)(disch:=first|omega|(simp only[AN];omega))only[↓KP,EK,↓reduceIte,reduceCtorEq,Nat.reduceEqDiff,Nat.reduceAdd,Nat.reduceLeDiff,Nat.reduceMul]; omega)]; exact h3 b hb hb2⟩
    rw [hs _ (fun h => by have := hK _ h; omega) (by simp(maxSteps:=9999999)(disch:=first|omega|(simp only[AN];omega))only[↓KP,EK,↓reduceIte,reduceCtorEq,Nat.reduceEqDiff,Nat.reduceAdd,Nat.reduceLeDiff,Nat.reduceMul]; omega)]; exact h2
  · intro x H1 H2 hn hs h; exact h
  · exact ⟨⟨[], rfl, by simp(maxSteps:=9999999)(disch:=first|omega|(simp only[AN];omega))only[↓KP,EK,↓reduceIte,reduceCtorEq,Nat.reduceEqDiff,Nat.reduceAdd,Nat.reduceLeDiff,Nat.reduceMul]; rfl⟩, fun b hb hb2 => by simp(maxSteps:=9999999)(disch:=first|omega|(simp only[AN];omega))only[↓KP,EK,↓reduceIte,reduceCtorEq,Nat.reduceEqDiff,Nat.reduceAdd,Nat.reduceLeDiff,Nat.reduceMul]⟩
  · rintro done a rest H1 hL hlt hi1 ⟨⟨ds, rfl, h2⟩, h3⟩ hlo
    obtain ⟨s, _, rfl⟩ : ∃ s, s ∈ l ∧ spanArg s = a := List.mem_map.1 (by rw [hL]; simp)
    simp only [AH.next_alloc, AH.next_set] at hlt hlo
    simp(maxSteps:=9999999)(disch:=first|omega|(simp only[AN];omega))only[K7,hlo,h2,↓KP,EK,↓reduceIte,reduceCtorEq,Nat.reduceEqDiff,Nat.reduceAdd,Nat.reduceLeDiff,Nat.reduceMul]
    refine ⟨⟨by simp(maxSteps:=9999999)(disch:=first|omega|(simp only[AN];omega))only[↓KP,EK,↓reduceIte,reduceCtorEq,Nat.reduceEqDiff,Nat.reduceAdd,Nat.reduceLeDiff,Nat.reduceMul]; omega, fun b hb hc => ?_⟩, ⟨ds ++ [s], by simp, ?_⟩, fun b h4 h5 => ?_⟩
    · rcases hc with h | h
      · have := hK b h; simp(maxSteps:=9999999)(disch:=first|omega|(simp only[AN];omega))only[↓KP,EK,↓reduceIte,reduceCtorEq,Nat.reduceEqDiff,Nat.reduceAdd,Nat.reduceLeDiff,Nat.reduceMul]
      · simp(maxSteps:=9999999)(disch:=first|omega|(simp only[AN];omega))only[↓KP,EK,↓reduceIte,reduceCtorEq,Nat.reduceEqDiff,Nat.reduceAdd,Nat.reduceLeDiff,Nat.reduceMul]
    · rw [wideL_snoc]; rfl
    · simp(maxSteps:=9999999)(disch:=first|omega|(simp only[AN];omega))only[h3,↓KP,EK,↓reduceIte,reduceCtorEq,Nat.reduceEqDiff,Nat.reduceAdd,Nat.reduceLeDiff,Nat.reduceMul]
  · rintro H2 hn hi2 ⟨⟨ds, h1, h2⟩, h3⟩
    simp(maxSteps:=9999999)(disch:=first|omega|(simp only[AN];omega))only[h2,↓KP,EK,↓reduceIte,reduceCtorEq,Nat.reduceEqDiff,Nat.reduceAdd,Nat.reduceLeDiff,Nat.reduceMul]
    obtain rfl : l = ds := by
      have := List.map_inj_right (f := spanArg) (fun a b e => by simpa [spanArg, Prod.ext_iff] using e) |>.1 h1
      exact this
    refine k _ ?_ ?_ ?_
    · simp only [AH.next_alloc, AH.next_set] at hn; simp(maxSteps:=9999999)(disch:=first|omega|(simp only[AN];omega))only[↓KP,EK,↓reduceIte,reduceCtorEq,Nat.reduceEqDiff,Nat.reduceAdd,Nat.reduceLeDiff,Nat.reduceMul]; omega
    · exact hB H2 _ (Nat.le_refl _) (fun b hb => by have := hK b hb; simp(maxSteps:=9999999)(disch:=first|omega|(simp only[AN];omega))only[↓KP,EK,↓reduceIte,reduceCtorEq,Nat.reduceEqDiff,Nat.reduceAdd,Nat.reduceLeDiff,Nat.reduceMul]) hi2
    · intro b h4 h5; simp(maxSteps:=9999999)(disch:=first|omega|(simp only[AN];omega))only[↓KP,EK,↓reduceIte,reduceCtorEq,Nat.reduceEqDiff,Nat.reduceAdd,Nat.reduceLeDiff,Nat.reduceMul]; exact h3 b h4 h5
  · intro x H2 _ _ _ h; exact h.elim
structure Watch (N p m b1 b2 : Nat) (w : AV) (v1 v2 : AV) (h : House) (but : Nat) (B H : AH) : Prop where
  held : Held N p m v1 v2 h but H
  base : ∀ b, b < N → b ≠ m → H.get b = B.get b
  e1 : H.get b1 = some (.cells false [.ptr p 0])
  e2 : H.get b2 = some (.cells false [w])
  lt1 : b1 < H.next
  lt2 : b2 < H.next
  ge1 : N ≤ b1
  ne2 : b2 ≠ m
abbrev Kw (N b1 b2 : Nat) : Nat → Prop := fun b => b < N ∨ b = b1 ∨ b = b2
theorem Kw.not {N b1 b2 b : Nat} (h : ¬ Kw N b1 b2 b) : N ≤ b ∧ b ≠ b1 ∧ b ≠ b2 := by
  simp only [Kw, not_or] at h; omega
theorem Held.keep {N p m : Nat} {v1 v2 : AV} {h : House} {but : Nat} {H1 H2 : AH} (hr : Held N p m v1 v2 h but H1) (hn : H1.next ≤ H2.next) (hs : ∀ b, b < N → H2.get b = H1.get b) : Held N p m v1 v2 h but H2 := by
  obtain ⟨⟨a1, a2, a3, a4, a5, a6⟩, ⟨es, b1, b2⟩⟩ := hr
  exact ⟨⟨by rw [hs _ a3]; exact a1, a2.move fun b hb => ⟨hb, hs _ hb.1⟩, a3, a4, a5, by omega⟩, ⟨es, by rw [hs _ a4]; exact b1, b2⟩⟩
theorem Watch.keep {N p m b1 b2 : Nat} {w v1 v2 : AV} {h : House} {but : Nat} {B H1 H2 : AH} (hw : Watch N p m b1 b2 w v1 v2 h but B H1) (hn : H1.next ≤ H2.next) (hs : ∀ b, Kw N b1 b2 b → H2.get b = H1.get b) : Watch N p m b1 b2 w v1 v2 h but B H2 := by
  obtain ⟨c1, c2, c3, c4, c5, c6, c7, c8⟩ := hw
  exact ⟨c1.keep hn fun b hb => hs b (.inl hb), fun b h1 h2 => by rw [hs b (.inl h1)]; exact c2 b h1 h2, by rw [hs _ (.inr (.inl rfl))]; exact c3, by rw [hs _ (.inr (.inr rfl))]; exact c4, by omega, by omega, c7, c8⟩
theorem Watch.back {N p m b1 b2 bh : Nat} {w v1 v2 : AV} {h : House} {but : Nat} {B B' H1 : AH} (hr : Ready N p m bh v1 v2 h but B' H1) (hB : ∀ b, b < N → b ≠ m → B'.get b = B.get b) (e1 : H1.get b1 = some (.cells false [.ptr p 0])) (e2 : N ≤ b2 → H1.get b2 = some (.cells false [w])) (e2' : b2 < N → B.get b2 = some (.cells false [w])) (lt1 : b1 < H1.next) (lt2 : b2 < H1.next) (ge1 : N ≤ b1) (ne2 : b2 ≠ m) : Watch N p m b1 b2 w v1 v2 h but B H1 :=
  ⟨hr.held, fun b h1 h2 => by rw [hr.base b h1 h2, hB b h1 h2], e1, by
    by_cases hb : b2 < N
    · rw [hr.base b2 hb ne2, hB b2 hb ne2]; exact e2' hb
    · exact e2 (by omega), lt1, lt2, ge1, ne2⟩
theorem watch_iter {N p m b1 b2 w : Nat} {v1 v2 : AV} {h : House} {but : Nat} {B : AH} (hfine : Fine h) (hbut : but < 4096) (hw : w < h.ws.length) : Iter prog (.func 66 [] [.ptr b1 0, .ptr b2 0]) (((truthsE (lookE h but)).map fun fs => (getI fs w, getI fs w)).map spanArg) (Kw N b1 b2) (Watch N p m b1 b2 (I w) v1 v2 h but B) := by
  refine ⟨fun H1 H2 hn hs hr => hr.keep hn hs, fun H hr b hb => by have := hr.lt1; have := hr.lt2; have := hr.held.look.nle; rcases hb with h | h | h <;> omega, fun H l Y S R hNl hl hi hY hS hy hfin h0 => ?_⟩
  have hbl1 : b1 < l := hNl _ (.inr (.inl rfl))
  have hbl2 : b2 < l := hNl _ (.inr (.inr rfl))
  have hNle : N ≤ l := Nat.not_lt.1 fun h => by have := hNl l (.inl h); omega
  have e1 := hi.e1
  have e2 := hi.e2
  have ge1 := hi.ge1
  refine CallQ_enter (fn:=c66) rfl (Nat.le_of_ble_eq_true rfl) ?_;simp(maxSteps:=9999999)(disch:=first|omega|(simp only[AN];omega))only[c66,envFrom,e1,↓KP,EK,↓reduceIte,reduceCtorEq,Nat.reduceEqDiff,Nat.reduceAdd,Nat.reduceLeDiff,Nat.reduceMul]
  first|refine C_call ?_|refine C_calld ?_
  refine truths_run p ?_
  have hr1 := (hi.held.up ((Grew.refl H).alloc (.cells false [.yield l]))).ready
  simp(maxSteps:=9999999)(disch:=first|omega|(simp only[AN];omega))only[↓KP,EK,↓reduceIte,reduceCtorEq,Nat.reduceEqDiff,Nat.reduceAdd,Nat.reduceLeDiff,Nat.reduceMul]
  have hNH := hi.held.look.nle
  have hbase : ∀ b, b < N → b ≠ m → ((H.alloc (.cells false [.yield l])).alloc (.cells false [.ptr p 0])).get b = B.get b := fun b h1 h2 => by simp(maxSteps:=9999999)(disch:=first|omega|(simp only[AN];omega))only[↓KP,EK,↓reduceIte,reduceCtorEq,Nat.reduceEqDiff,Nat.reduceAdd,Nat.reduceLeDiff,Nat.reduceMul]; exact hi.base b h1 h2
  have e2' : b2 < N → B.get b2 = some (.cells false [I w]) := fun h => by rw [← hi.base b2 h hi.ne2]; exact e2
  have hY0 : Y [] ((H.alloc (.cells false [.yield l])).alloc (.cells false [.ptr p 0])) := hY [] H _ (by simp(maxSteps:=9999999)(disch:=first|omega|(simp only[AN];omega))only[↓KP,EK,↓reduceIte,reduceCtorEq,Nat.reduceEqDiff,Nat.reduceAdd,Nat.reduceLeDiff,Nat.reduceMul]; omega) (fun b h1 h2 => by simp(maxSteps:=9999999)(disch:=first|omega|(simp only[AN];omega))only[↓KP,EK,↓reduceIte,reduceCtorEq,Nat.reduceEqDiff,Nat.reduceAdd,Nat.reduceLeDiff,Nat.reduceMul]) h0
  have ey : ((H.alloc (.cells false [.yield l])).alloc (.cells false [.ptr p 0])).get H.next = some (.cells false [.yield l]) := by simp(maxSteps:=9999999)(disch:=first|omega|(simp only[AN];omega))only[↓KP,EK,↓reduceIte,reduceCtorEq,Nat.reduceEqDiff,Nat.reduceAdd,Nat.reduceLeDiff,Nat.reduceMul]
  have eb1 : ((H.alloc (.cells false [.yield l])).alloc (.cells false [.ptr p 0])).get b1 = some (.cells false [.ptr p 0]) := by simp(maxSteps:=9999999)(disch:=first|omega|(simp only[AN];omega))only[e1,↓KP,EK,↓reduceIte,reduceCtorEq,Nat.reduceEqDiff,Nat.reduceAdd,Nat.reduceLeDiff,Nat.reduceMul]
  have eb2 : ((H.alloc (.cells false [.yield l])).alloc (.cells false [.ptr p 0])).get b2 = some (.cells false [I w]) := by simp(maxSteps:=9999999)(disch:=first|omega|(simp only[AN];omega))only[e2,↓KP,EK,↓reduceIte,reduceCtorEq,Nat.reduceEqDiff,Nat.reduceAdd,Nat.reduceLeDiff,Nat.reduceMul]
  have hBn : ((H.alloc (.cells false [.yield l])).alloc (.cells false [.ptr p 0])).next = H.next + 2 := rfl
  generalize (H.alloc (.cells false [.yield l])).alloc (.cells false [.ptr p 0]) = B' at hr1 hbase hY0 ey eb1 eb2 hBn
  refine K_iter (L := yields h but) (K := Kh N (H.next + 1)) (Inv := Ready N p m (H.next + 1) v1 v2 h but B') rfl (truths_iter hfine hbut) hr1 (fun a ha => ?_)
    (fun done H2 => (∃ ds rs, truthsE (lookE h but) = ds ++ rs ∧ done = ds.map (argT (lookE h but)) ∧ Y ((ds.map fun fs => (getI fs w, getI fs w)).map spanArg) H2) ∧ H2.get H.next = some (.cells false [.yield l]) ∧ H2.get b1 = some (.cells false [.ptr p 0]) ∧ (N ≤ b2 → H2.get b2 = some (.cells false [I w])))
    (fun x H2 => x = .ret ∧ S H2 ∧ H2.get b1 = some (.cells false [.ptr p 0]) ∧ (N ≤ b2 → H2.get b2 = some (.cells false [I w]))) ?_ ?_ ?_ ?_ ?_ ?_
  · obtain ⟨fs, _, rfl⟩ := List.mem_map.1 ha; rfl
  · rintro done H1 H2 hn hs ⟨⟨ds, rs, h1, h2, h3⟩, h4, h5, h6⟩
    refine ⟨⟨ds, rs, h1, h2, hY _ H1 H2 hn (fun b h7 h8 => hs b (by have := Kw.not h7; simp only [Kh]; omega) (by omega)) h3⟩, by rw [hs _ (by simp only [Kh]; omega) (by omega)]; exact h4, by rw [hs _ (by simp only [Kh]; omega) (by omega)]; exact h5, fun h => by rw [hs _ (by simp only [Kh]; omega) (by omega)]; exact h6 h⟩
  · rintro x H1 H2 hn hs ⟨h1, h3, h5, h6⟩
    refine ⟨h1, hS H1 H2 hn (fun b h7 h8 => hs b (by have := Kw.not h7; simp only [Kh]; omega) (by omega)) h3, by rw [hs _ (by simp only [Kh]; omega) (by omega)]; exact h5, fun h => by rw [hs _ (by simp only [Kh]; omega) (by omega)]; exact h6 h⟩
  · exact ⟨⟨[], _, rfl, rfl, hY0⟩, ey, eb1, fun _ => eb2⟩
  · rintro done a rest H1 hL hlt hi1 ⟨⟨ds, rs, h1, rfl, h3⟩, h4, h5, h6⟩ hlo
    rw [yields, h1, List.map_append, List.append_cancel_left_eq] at hL
    cases rs with
    | nil => cases hL
    | cons fs rs =>
      simp only [List.map_cons, List.cons.injEq] at hL
      obtain ⟨rfl, rfl⟩ := hL
      have hwat := Watch.back hi1 hbase h5 h6 e2' (by omega) (by omega) ge1 hi.ne2
      have hw2 := hwat.e2
      have hw3 := hfine.ws
      have hget := three_get (getI fs 0) (getI fs 1) (getI fs 2) (n := w) (by omega)
      have hget' : [getI fs 0, getI fs 1, getI fs 2][w]'(by simp; omega) = getI fs w := by
        rcases (show w = 0 ∨ w = 1 ∨ w = 2 by omega) with rfl | rfl | rfl <;> rfl
      rw [hget'] at hget
      have hix : ∀ S b, opIdxArr 3 1 (.ptr b 0) (I w) S = some (.ptr b w, S) := fun S b => by
        have : w < 3 := by omega
        simp [opIdxArr, natOf, this]
      simp(maxSteps:=9999999)(disch:=first|omega|(simp only[AN];omega))only[K7,hlo,argT,pad3,List.map_cons,List.map_nil,↓KP,EK,↓reduceIte,reduceCtorEq,Nat.reduceEqDiff,Nat.reduceAdd,Nat.reduceLeDiff,Nat.reduceMul]
      refine K_draw ?_;simp(maxSteps:=9999999)(disch:=first|omega|(simp only[AN];omega))only[h4,hw2,hix,hget,↓KP,EK,↓reduceIte,reduceCtorEq,Nat.reduceEqDiff,Nat.reduceAdd,Nat.reduceLeDiff,Nat.reduceMul]
      refine C_calld (CallQ.mono (hy ((ds.map fun fs => (getI fs w, getI fs w)).map spanArg) (spanArg (getI fs w, getI fs w)) ((rs.map fun fs => (getI fs w, getI fs w)).map spanArg) _ (by rw [h1]; simp) ?_ (hwat.keep ?_ fun b hb => ?_) (hY _ H1 _ ?_ (fun b h7 h8 => ?_) h3)) fun v H3 hv => ?_)
      · simp(maxSteps:=9999999)(disch:=first|omega|(simp only[AN];omega))only[↓KP,EK,↓reduceIte,reduceCtorEq,Nat.reduceEqDiff,Nat.reduceAdd,Nat.reduceLeDiff,Nat.reduceMul]; omega
      · simp(maxSteps:=9999999)(disch:=first|omega|(simp only[AN];omega))only[↓KP,EK,↓reduceIte,reduceCtorEq,Nat.reduceEqDiff,Nat.reduceAdd,Nat.reduceLeDiff,Nat.reduceMul]; omega
      · have : b < H.next := by rcases hb with h | h | h <;> omega
        simp(maxSteps:=9999999)(disch:=first|omega|(simp only[AN];omega))only[↓KP,EK,↓reduceIte,reduceCtorEq,Nat.reduceEqDiff,Nat.reduceAdd,Nat.reduceLeDiff,Nat.reduceMul]
      · simp(maxSteps:=9999999)(disch:=first|omega|(simp only[AN];omega))only[↓KP,EK,↓reduceIte,reduceCtorEq,Nat.reduceEqDiff,Nat.reduceAdd,Nat.reduceLeDiff,Nat.reduceMul]; omega
      · simp(maxSteps:=9999999)(disch:=first|omega|(simp only[AN];omega))only[↓KP,EK,↓reduceIte,reduceCtorEq,Nat.reduceEqDiff,Nat.reduceAdd,Nat.reduceLeDiff,Nat.reduceMul]
      · obtain ⟨⟨k1, k2⟩, hor⟩ := hv
        simp only [AH.next_alloc, AH.next_set] at k1
        have kk : ∀ b, b < H1.next → b ≠ B'.next → (b < N ∨ b = b1 ∨ b = b2 ∨ l < b) → H3.get b = H1.get b := fun b h7 h8 h9 => by
          rw [k2 b (by simp(maxSteps:=9999999)(disch:=first|omega|(simp only[AN];omega))only[↓KP,EK,↓reduceIte,reduceCtorEq,Nat.reduceEqDiff,Nat.reduceAdd,Nat.reduceLeDiff,Nat.reduceMul]; omega) (by simp only [Kw]; omega)]
          simp(maxSteps:=9999999)(disch:=first|omega|(simp only[AN];omega))only[↓KP,EK,↓reduceIte,reduceCtorEq,Nat.reduceEqDiff,Nat.reduceAdd,Nat.reduceLeDiff,Nat.reduceMul]
        have klo := k2 B'.next (by simp(maxSteps:=9999999)(disch:=first|omega|(simp only[AN];omega))only[↓KP,EK,↓reduceIte,reduceCtorEq,Nat.reduceEqDiff,Nat.reduceAdd,Nat.reduceLeDiff,Nat.reduceMul]; omega) (.inr (by omega))
        simp only [get_set_same] at klo
        rcases hor with ⟨rfl, hy3⟩ | ⟨rfl, hS3⟩
        · simp(maxSteps:=9999999)(disch:=first|omega|(simp only[AN];omega))only[h4,hw2,hix,hget,K7,↓KP,EK,↓reduceIte,reduceCtorEq,Nat.reduceEqDiff,Nat.reduceAdd,Nat.reduceLeDiff,Nat.reduceMul]
          exact ⟨klo, ⟨by omega, fun b h7 h8 => kk b h7 (by simp only [Kh] at h8; omega) (by simp only [Kh] at h8; omega)⟩, ⟨ds ++ [fs], rs, by rw [h1]; simp, by rw [List.map_append]; rfl, by simpa using hy3⟩, by rw [kk _ (by omega) (by omega) (by omega)]; exact h4, by rw [kk _ (by omega) (by omega) (by omega)]; exact h5, fun h => by rw [kk _ (by omega) (by omega) (by omega)]; exact h6 h⟩
        · simp(maxSteps:=9999999)(disch:=first|omega|(simp only[AN];omega))only[h4,hw2,hix,hget,K7,↓KP,EK,↓reduceIte,reduceCtorEq,Nat.reduceEqDiff,Nat.reduceAdd,Nat.reduceLeDiff,Nat.reduceMul]
          exact ⟨klo, ⟨by omega, fun b h7 h8 => kk b h7 (by simp only [Kh] at h8; omega) (by simp only [Kh] at h8; omega)⟩, hS3, by rw [kk _ (by omega) (by omega) (by omega)]; exact h5, fun h => by rw [kk _ (by omega) (by omega) (by omega)]; exact h6 h⟩
  · rintro H2 hn hi2 ⟨⟨ds, rs, h1, h2, h3⟩, h4, h5, h6⟩
    have hrs : rs = [] := by
      have := congrArg List.length h2
      rw [yields, h1, List.length_map, List.length_map, List.length_append] at this
      exact List.length_eq_zero_iff.1 (by omega)
    subst hrs
    rw [List.append_nil] at h1
    simp(maxSteps:=9999999)(disch:=first|omega|(simp only[AN];omega))only[↓KP,EK,↓reduceIte,reduceCtorEq,Nat.reduceEqDiff,Nat.reduceAdd,Nat.reduceLeDiff,Nat.reduceMul]
    exact hfin _ (by omega) (Watch.back hi2 hbase h5 h6 e2' (by omega) (by omega) ge1 hi.ne2) (.inl (by rw [h1]; exact h3))
  · rintro x H2 hx hn hi2 ⟨rfl, h3, h5, h6⟩
    simp(maxSteps:=9999999)(disch:=first|omega|(simp only[AN];omega))only[↓KP,EK,↓reduceIte,reduceCtorEq,Nat.reduceEqDiff,Nat.reduceAdd,Nat.reduceLeDiff,Nat.reduceMul]
    exact hfin _ (by omega) (Watch.back hi2 hbase h5 h6 e2' (by omega) (by omega) ge1 hi.ne2) (.inr h3)
theorem nums_get {h : House} {fs : List Int} {n d : Nat} (hd : d < 4) (hn : d < n) : (((numsTo h fs n).map I).drop (d * 2)).take 2 = [I (numbersE h d fs).1, I (numbersE h d fs).2] := by
  have hl : ∀ e, (if e < n then [(numbersE h e fs).1, (numbersE h e fs).2] else [0, 0]) = [if e < n then (numbersE h e fs).1 else 0, if e < n then (numbersE h e fs).2 else 0] := fun e => by split <;> rfl
  simp only [numsTo, show List.range 4 = [0, 1, 2, 3] from rfl, List.flatMap_cons, List.flatMap_nil, hl]
  match d, hd with
  | 0, _ => simp [hn]
  | 1, _ => simp [hn]
  | 2, _ => simp [hn]
  | 3, _ => simp [hn]
theorem day_iter {N p m b1 b2 w : Nat} {v1 v2 : AV} {h : House} {but : Nat} {B : AH} (hfine : Fine h) (hbut : but < 4096) (hw : w < h.days.length) : Iter prog (.func 71 [] [.ptr b1 0, .ptr b2 0]) (((truthsE (lookE h but)).map fun fs => numbersE (lookE h but) w fs).map spanArg) (Kw N b1 b2) (Watch N p m b1 b2 (I w) v1 v2 h but B) := by
  refine ⟨fun H1 H2 hn hs hr => hr.keep hn hs, fun H hr b hb => by have := hr.lt1; have := hr.lt2; have := hr.held.look.nle; rcases hb with h | h | h <;> omega, fun H l Y S R hNl hl hi hY hS hy hfin h0 => ?_⟩
  have hbl1 : b1 < l := hNl _ (.inr (.inl rfl))
  have hbl2 : b2 < l := hNl _ (.inr (.inr rfl))
  have hNle : N ≤ l := Nat.not_lt.1 fun h => by have := hNl l (.inl h); omega
  have e1 := hi.e1
  have e2 := hi.e2
  have ge1 := hi.ge1
  refine CallQ_enter (fn:=c71) rfl (Nat.le_of_ble_eq_true rfl) ?_;simp(maxSteps:=9999999)(disch:=first|omega|(simp only[AN];omega))only[c71,envFrom,e1,↓KP,EK,↓reduceIte,reduceCtorEq,Nat.reduceEqDiff,Nat.reduceAdd,Nat.reduceLeDiff,Nat.reduceMul]
  first|refine C_call ?_|refine C_calld ?_
  refine truths_run p ?_
  have hr1 := (hi.held.up ((Grew.refl H).alloc (.cells false [.yield l]))).ready
  simp(maxSteps:=9999999)(disch:=first|omega|(simp only[AN];omega))only[↓KP,EK,↓reduceIte,reduceCtorEq,Nat.reduceEqDiff,Nat.reduceAdd,Nat.reduceLeDiff,Nat.reduceMul]
  have hNH := hi.held.look.nle
  have hbase : ∀ b, b < N → b ≠ m → ((H.alloc (.cells false [.yield l])).alloc (.cells false [.ptr p 0])).get b = B.get b := fun b h1 h2 => by simp(maxSteps:=9999999)(disch:=first|omega|(simp only[AN];omega))only[↓KP,EK,↓reduceIte,reduceCtorEq,Nat.reduceEqDiff,Nat.reduceAdd,Nat.reduceLeDiff,Nat.reduceMul]; exact hi.base b h1 h2
  have e2' : b2 < N → B.get b2 = some (.cells false [I w]) := fun h => by rw [← hi.base b2 h hi.ne2]; exact e2
  have hY0 : Y [] ((H.alloc (.cells false [.yield l])).alloc (.cells false [.ptr p 0])) := hY [] H _ (by simp(maxSteps:=9999999)(disch:=first|omega|(simp only[AN];omega))only[↓KP,EK,↓reduceIte,reduceCtorEq,Nat.reduceEqDiff,Nat.reduceAdd,Nat.reduceLeDiff,Nat.reduceMul]; omega) (fun b h1 h2 => by simp(maxSteps:=9999999)(disch:=first|omega|(simp only[AN];omega))only[↓KP,EK,↓reduceIte,reduceCtorEq,Nat.reduceEqDiff,Nat.reduceAdd,Nat.reduceLeDiff,Nat.reduceMul]) h0
  have ey : ((H.alloc (.cells false [.yield l])).alloc (.cells false [.ptr p 0])).get H.next = some (.cells false [.yield l]) := by simp(maxSteps:=9999999)(disch:=first|omega|(simp only[AN];omega))only[↓KP,EK,↓reduceIte,reduceCtorEq,Nat.reduceEqDiff,Nat.reduceAdd,Nat.reduceLeDiff,Nat.reduceMul]
  have eb1 : ((H.alloc (.cells false [.yield l])).alloc (.cells false [.ptr p 0])).get b1 = some (.cells false [.ptr p 0]) := by simp(maxSteps:=9999999)(disch:=first|omega|(simp only[AN];omega))only[e1,↓KP,EK,↓reduceIte,reduceCtorEq,Nat.reduceEqDiff,Nat.reduceAdd,Nat.reduceLeDiff,Nat.reduceMul]
  have eb2 : ((H.alloc (.cells false [.yield l])).alloc (.cells false [.ptr p 0])).get b2 = some (.cells false [I w]) := by simp(maxSteps:=9999999)(disch:=first|omega|(simp only[AN];omega))only[e2,↓KP,EK,↓reduceIte,reduceCtorEq,Nat.reduceEqDiff,Nat.reduceAdd,Nat.reduceLeDiff,Nat.reduceMul]
  have hBn : ((H.alloc (.cells false [.yield l])).alloc (.cells false [.ptr p 0])).next = H.next + 2 := rfl
  generalize (H.alloc (.cells false [.yield l])).alloc (.cells false [.ptr p 0]) = B' at hr1 hbase hY0 ey eb1 eb2 hBn
  refine K_iter (L := yields h but) (K := Kh N (H.next + 1)) (Inv := Ready N p m (H.next + 1) v1 v2 h but B') rfl (truths_iter hfine hbut) hr1 (fun a ha => ?_)
    (fun done H2 => (∃ ds rs, truthsE (lookE h but) = ds ++ rs ∧ done = ds.map (argT (lookE h but)) ∧ Y ((ds.map fun fs => numbersE (lookE h but) w fs).map spanArg) H2) ∧ H2.get H.next = some (.cells false [.yield l]) ∧ H2.get b1 = some (.cells false [.ptr p 0]) ∧ (N ≤ b2 → H2.get b2 = some (.cells false [I w])))
    (fun x H2 => x = .ret ∧ S H2 ∧ H2.get b1 = some (.cells false [.ptr p 0]) ∧ (N ≤ b2 → H2.get b2 = some (.cells false [I w]))) ?_ ?_ ?_ ?_ ?_ ?_
  · obtain ⟨fs, _, rfl⟩ := List.mem_map.1 ha; rfl
  · rintro done H1 H2 hn hs ⟨⟨ds, rs, h1, h2, h3⟩, h4, h5, h6⟩
    refine ⟨⟨ds, rs, h1, h2, hY _ H1 H2 hn (fun b h7 h8 => hs b (by have := Kw.not h7; simp only [Kh]; omega) (by omega)) h3⟩, by rw [hs _ (by simp only [Kh]; omega) (by omega)]; exact h4, by rw [hs _ (by simp only [Kh]; omega) (by omega)]; exact h5, fun h => by rw [hs _ (by simp only [Kh]; omega) (by omega)]; exact h6 h⟩
  · rintro x H1 H2 hn hs ⟨h1, h3, h5, h6⟩
    refine ⟨h1, hS H1 H2 hn (fun b h7 h8 => hs b (by have := Kw.not h7; simp only [Kh]; omega) (by omega)) h3, by rw [hs _ (by simp only [Kh]; omega) (by omega)]; exact h5, fun h => by rw [hs _ (by simp only [Kh]; omega) (by omega)]; exact h6 h⟩
  · exact ⟨⟨[], _, rfl, rfl, hY0⟩, ey, eb1, fun _ => eb2⟩
  · rintro done a rest H1 hL hlt hi1 ⟨⟨ds, rs, h1, rfl, h3⟩, h4, h5, h6⟩ hlo
    rw [yields, h1, List.map_append, List.append_cancel_left_eq] at hL
    cases rs with
    | nil => cases hL
    | cons fs rs =>
      simp only [List.map_cons, List.cons.injEq] at hL
      obtain ⟨rfl, rfl⟩ := hL
      have hwat := Watch.back hi1 hbase h5 h6 e2' (by omega) (by omega) ge1 hi.ne2
      have hw2 := hwat.e2
      have hd4 := hfine.days
      obtain ⟨x0, x1, x2, x3, x4, x5, x6, x7, he⟩ := eight (show (numsE (lookE h but) fs).length = 8 from nums_length)
      have hget := nums_get (h := lookE h but) (fs := fs) (n := (lookE h but).days.length) (d := w) (by omega) (by rw [maskE_length]; exact hw)
      rw [show numsTo (lookE h but) fs (lookE h but).days.length = numsE (lookE h but) fs from rfl, he] at hget
      simp only [List.map_cons, List.map_nil] at hget
      have hlen8 : w * 2 + 2 ≤ 8 := by omega
      have hix : ∀ S b, opIdxArr 4 2 (.ptr b 0) (I w) S = some (.ptr b (w * 2), S) := fun S b => by
        have : w < 4 := by omega
        simp [opIdxArr, natOf, this]
      simp(maxSteps:=9999999)(disch:=first|omega|(simp only[AN];omega))only[K7,hlo,argT,pad3,he,List.map_cons,List.map_nil,↓KP,EK,↓reduceIte,reduceCtorEq,Nat.reduceEqDiff,Nat.reduceAdd,Nat.reduceLeDiff,Nat.reduceMul]
      refine K_draw ?_;simp(maxSteps:=9999999)(disch:=first|omega|(simp only[AN];omega))only[h4,hw2,hix,hget,hlen8,↓KP,EK,↓reduceIte,reduceCtorEq,Nat.reduceEqDiff,Nat.reduceAdd,Nat.reduceLeDiff,Nat.reduceMul]
      refine C_calld (CallQ.mono (hy ((ds.map fun fs => numbersE (lookE h but) w fs).map spanArg) (spanArg (numbersE (lookE h but) w fs)) ((rs.map fun fs => numbersE (lookE h but) w fs).map spanArg) _ (by rw [h1]; simp) ?_ (hwat.keep ?_ fun b hb => ?_) (hY _ H1 _ ?_ (fun b h7 h8 => ?_) h3)) fun v H3 hv => ?_)
      · simp(maxSteps:=9999999)(disch:=first|omega|(simp only[AN];omega))only[↓KP,EK,↓reduceIte,reduceCtorEq,Nat.reduceEqDiff,Nat.reduceAdd,Nat.reduceLeDiff,Nat.reduceMul]; omega
      · simp(maxSteps:=9999999)(disch:=first|omega|(simp only[AN];omega))only[↓KP,EK,↓reduceIte,reduceCtorEq,Nat.reduceEqDiff,Nat.reduceAdd,Nat.reduceLeDiff,Nat.reduceMul]; omega
      · have : b < H.next := by rcases hb with h | h | h <;> omega
        simp(maxSteps:=9999999)(disch:=first|omega|(simp only[AN];omega))only[↓KP,EK,↓reduceIte,reduceCtorEq,Nat.reduceEqDiff,Nat.reduceAdd,Nat.reduceLeDiff,Nat.reduceMul]
      · simp(maxSteps:=9999999)(disch:=first|omega|(simp only[AN];omega))only[↓KP,EK,↓reduceIte,reduceCtorEq,Nat.reduceEqDiff,Nat.reduceAdd,Nat.reduceLeDiff,Nat.reduceMul]; omega
      · simp(maxSteps:=9999999)(disch:=first|omega|(simp only[AN];omega))only[↓KP,EK,↓reduceIte,reduceCtorEq,Nat.reduceEqDiff,Nat.reduceAdd,Nat.reduceLeDiff,Nat.reduceMul]
      · obtain ⟨⟨k1, k2⟩, hor⟩ := hv
        simp only [AH.next_alloc, AH.next_set] at k1
        have kk : ∀ b, b < H1.next → b ≠ B'.next → (b < N ∨ b = b1 ∨ b = b2 ∨ l < b) → H3.get b = H1.get b := fun b h7 h8 h9 => by
          rw [k2 b (by simp(maxSteps:=9999999)(disch:=first|omega|(simp only[AN];omega))only[↓KP,EK,↓reduceIte,reduceCtorEq,Nat.reduceEqDiff,Nat.reduceAdd,Nat.reduceLeDiff,Nat.reduceMul]; omega) (by simp only [Kw]; omega)]
          simp(maxSteps:=9999999)(disch:=first|omega|(simp only[AN];omega))only[↓KP,EK,↓reduceIte,reduceCtorEq,Nat.reduceEqDiff,Nat.reduceAdd,Nat.reduceLeDiff,Nat.reduceMul]
        have klo := k2 B'.next (by simp(maxSteps:=9999999)(disch:=first|omega|(simp only[AN];omega))only[↓KP,EK,↓reduceIte,reduceCtorEq,Nat.reduceEqDiff,Nat.reduceAdd,Nat.reduceLeDiff,Nat.reduceMul]; omega) (.inr (by omega))
        simp only [get_set_same] at klo
        rcases hor with ⟨rfl, hy3⟩ | ⟨rfl, hS3⟩
        · simp(maxSteps:=9999999)(disch:=first|omega|(simp only[AN];omega))only[h4,hw2,hix,hget,hlen8,K7,↓KP,EK,↓reduceIte,reduceCtorEq,Nat.reduceEqDiff,Nat.reduceAdd,Nat.reduceLeDiff,Nat.reduceMul]
          exact ⟨klo, ⟨by omega, fun b h7 h8 => kk b h7 (by simp only [Kh] at h8; omega) (by simp only [Kh] at h8; omega)⟩, ⟨ds ++ [fs], rs, by rw [h1]; simp, by rw [List.map_append]; simp only [List.map_cons, List.map_nil, argT, pad3, he], by simpa using hy3⟩, by rw [kk _ (by omega) (by omega) (by omega)]; exact h4, by rw [kk _ (by omega) (by omega) (by omega)]; exact h5, fun h => by rw [kk _ (by omega) (by omega) (by omega)]; exact h6 h⟩
        · simp(maxSteps:=9999999)(disch:=first|omega|(simp only[AN];omega))only[h4,hw2,hix,hget,hlen8,K7,↓KP,EK,↓reduceIte,reduceCtorEq,Nat.reduceEqDiff,Nat.reduceAdd,Nat.reduceLeDiff,Nat.reduceMul]
          exact ⟨klo, ⟨by omega, fun b h7 h8 => kk b h7 (by simp only [Kh] at h8; omega) (by simp only [Kh] at h8; omega)⟩, hS3, by rw [kk _ (by omega) (by omega) (by omega)]; exact h5, fun h => by rw [kk _ (by omega) (by omega) (by omega)]; exact h6 h⟩
  · rintro H2 hn hi2 ⟨⟨ds, rs, h1, h2, h3⟩, h4, h5, h6⟩
    have hrs : rs = [] := by
      have := congrArg List.length h2
      rw [yields, h1, List.length_map, List.length_map, List.length_append] at this
      exact List.length_eq_zero_iff.1 (by omega)
    subst hrs
    rw [List.append_nil] at h1
    simp(maxSteps:=9999999)(disch:=first|omega|(simp only[AN];omega))only[↓KP,EK,↓reduceIte,reduceCtorEq,Nat.reduceEqDiff,Nat.reduceAdd,Nat.reduceLeDiff,Nat.reduceMul]
    exact hfin _ (by omega) (Watch.back hi2 hbase h5 h6 e2' (by omega) (by omega) ge1 hi.ne2) (.inl (by rw [h1]; exact h3))
  · rintro x H2 hx hn hi2 ⟨rfl, h3, h5, h6⟩
    simp(maxSteps:=9999999)(disch:=first|omega|(simp only[AN];omega))only[↓KP,EK,↓reduceIte,reduceCtorEq,Nat.reduceEqDiff,Nat.reduceAdd,Nat.reduceLeDiff,Nat.reduceMul]
    exact hfin _ (by omega) (Watch.back hi2 hbase h5 h6 e2' (by omega) (by omega) ge1 hi.ne2) (.inr h3)
theorem wideL_hull {l : List (Int × Int)} (h : ∀ x ∈ l, x.1 ≤ 9223372036854775807 ∧ -1 ≤ x.2) (h0 : l ≠ []) : wideL l = hull l := by
  have key : ∀ (l : List (Int × Int)) (s : Int × Int), l.foldl wider s = l.foldl join s := fun l => by
    induction l with
    | nil => intro s; rfl
    | cons x l ih =>
      intro s
      rw [List.foldl_cons, List.foldl_cons, ih]
      congr 1
      simp only [wider, join, Prod.mk.injEq]
      omega
  cases l with
  | nil => exact absurd rfl h0
  | cons x l =>
    rw [wideL, key, List.foldl_cons, hull, hullFrom]
    congr 1
    have := h x (by simp)
    simp only [join]
    exact Prod.ext (by simp only; omega) (by simp only; omega)
theorem factorE_err {h : House} {w : Int} : enterErr h [w, h.ws.length] 0 = if indexE h w h.ws.length ≠ 0 then indexE h w h.ws.length else if truthsE h = [] then 8 else 0 := by
  unfold enterErr indexE
  by_cases he : errE h = 0
  · have hp : (pairsOff [w, (h.ws.length : Int)] = true) ↔ ¬ (0 ≤ w ∧ w ≤ (h.ws.length : Int) - 1) := by
      simp only [pairsOff, offP, Bool.or_false, Bool.or_eq_true, decide_eq_true_eq]; omega
    simp only [he, ne_eq, not_true, if_false, if_true]
    by_cases hw : 0 ≤ w ∧ w ≤ (h.ws.length : Int) - 1
    · rw [if_neg (fun e => hp.1 e hw)]; simp [hw]
    · rw [if_pos (hp.2 hw)]; simp [hw]
  · simp [he]
theorem Factor_run (v1 v2 : AV) (h : House) (w : Int) (hh : IsHouse (Old H) H v1 v2 h) (hs : Sized h)
    (k : ∀ H', Grew H H' → R (.tuple [.agg [I (factorE h w).1.1, I (factorE h w).1.2], I (factorE h w).2]) H') : CallQ prog (.func 18 [] []) [.agg [v1, v2], I w] H R := by
  have hg0 : Grew H (((H.alloc (.cells false [v1, v2])).alloc (.cells false [I w])).alloc (.cells false [I 0, I 0])) := GW
  have hfE : factorE h w = if enterErr h [w, h.ws.length] 0 ≠ 0 then ((0, 0), enterErr h [w, h.ws.length] 0) else (hull (factorsOf h w.toNat), 0) := by
    rw [factorE_err, factorE]
    by_cases h1 : indexE h w h.ws.length = 0
    · by_cases h2 : truthsE h = []
      · simp [h1, h2]
      · simp [h1, h2]
    · simp [h1]
  refine CallQ_enter (fn:=c18) rfl (Nat.le_of_ble_eq_true rfl) ?_;simp(maxSteps:=9999999)(disch:=first|omega|(simp only[AN];omega))only[c18,envFrom,hh.1.len,↓KP,EK,↓reduceIte,reduceCtorEq,Nat.reduceEqDiff,Nat.reduceAdd,Nat.reduceLeDiff,Nat.reduceMul]
  have hg1 := (hg0.alloc (.cells false [I w, I h.ws.length]))
  refine C_call (enter_run v1 v2 _ _ h [w, h.ws.length] 0 (hh.grow hg1) (two_slice _ _ _) (by simp) (fun j hj hodd => ?_) rfl (fun _ _ H1 R _ hk => fine_run (hk _ (Grew.refl _))) (fun he H1 hg => ?_) (fun he hfine hne H1 N p m hg hm hheld => ?_))
  · have : j = 1 := by simp at hj; omega
    subst this
    have := hs.ws
    simp only [List.getElem_cons_succ, List.getElem_cons_zero]; omega
  · have hgn := hg.next; simp only [AH.next_alloc] at hgn
    simp(maxSteps:=9999999)(disch:=first|omega|(simp only[AN];omega))only[he,hg.get,↓KP,EK,↓reduceIte,reduceCtorEq,Nat.reduceEqDiff,Nat.reduceAdd,Nat.reduceLeDiff,Nat.reduceMul]
    rw [hfE, if_pos he] at k
    refine k _ ?_
    exact GW
  · have hgn := hg.next; simp only [AH.next_alloc] at hgn
    rw [hfE, if_neg (by omega)] at k
    simp only [AH.next_alloc] at hm
    have hw : 0 ≤ w ∧ w ≤ (h.ws.length : Int) - 1 := by
      rw [factorE_err] at he
      by_cases h1 : indexE h w h.ws.length = 0
      · have := indexE_zero h1; omega
      · simp [h1] at he
    obtain ⟨w', rfl⟩ : ∃ w' : Nat, w = w' := ⟨w.toNat, by omega⟩
    have hmlt := hheld.look.mlt
    have hnle := hheld.look.nle
    have hwa : Watch N p m H1.next (H.next + 1) (I w') v1 v2 h 0 ((H1.alloc (.cells false [.nilptr])).set H1.next (.cells false [.ptr p 0])) ((H1.alloc (.cells false [.nilptr])).set H1.next (.cells false [.ptr p 0])) :=
      ⟨hheld.up GW, fun _ _ _ => rfl, by simp(maxSteps:=9999999)(disch:=first|omega|(simp only[AN];omega))only[↓KP,EK,↓reduceIte,reduceCtorEq,Nat.reduceEqDiff,Nat.reduceAdd,Nat.reduceLeDiff,Nat.reduceMul], by simp(maxSteps:=9999999)(disch:=first|omega|(simp only[AN];omega))only[hg.get,↓KP,EK,↓reduceIte,reduceCtorEq,Nat.reduceEqDiff,Nat.reduceAdd,Nat.reduceLeDiff,Nat.reduceMul], by simp(maxSteps:=9999999)(disch:=first|omega|(simp only[AN];omega))only[↓KP,EK,↓reduceIte,reduceCtorEq,Nat.reduceEqDiff,Nat.reduceAdd,Nat.reduceLeDiff,Nat.reduceMul]; omega, by simp(maxSteps:=9999999)(disch:=first|omega|(simp only[AN];omega))only[↓KP,EK,↓reduceIte,reduceCtorEq,Nat.reduceEqDiff,Nat.reduceAdd,Nat.reduceLeDiff,Nat.reduceMul]; omega, hnle, by omega⟩
    have hold : ∀ b, b < H.next + 4 → ((H1.alloc (.cells false [.nilptr])).set H1.next (.cells false [.ptr p 0])).get b = (((H.alloc (.cells false [v1, v2])).alloc (.cells false [I w'])).alloc (.cells false [I 0, I 0]) |>.alloc (.cells false [I w', I h.ws.length])).get b := fun b hb => by simp(maxSteps:=9999999)(disch:=first|omega|(simp only[AN];omega))only[hg.get,↓KP,EK,↓reduceIte,reduceCtorEq,Nat.reduceEqDiff,Nat.reduceAdd,Nat.reduceLeDiff,Nat.reduceMul]
    simp(maxSteps:=9999999)(disch:=first|omega|(simp only[AN];omega))only[hg.get,↓KP,EK,↓reduceIte,reduceCtorEq,Nat.reduceEqDiff,Nat.reduceAdd,Nat.reduceLeDiff,Nat.reduceMul]
    have hit := watch_iter (N := N) (p := p) (m := m) (b1 := H1.next) (b2 := H.next + 1) (w := w') (v1 := v1) (v2 := v2) (h := h) (but := 0) (B := (H1.alloc (.cells false [.nilptr])).set H1.next (.cells false [.ptr p 0])) hfine (by omega) (by omega)
    refine C_call (wide_run hit hwa fun H2 hn2 hi2 hs2 => ?_)
    simp only [AH.next_alloc, AH.next_set] at hn2
    have e4 : H2.get (H.next + 1 + 1) = some (.cells false [I 0, I 0]) := by rw [hi2.base _ (by omega) (by omega), hold _ (by omega)]; simp(maxSteps:=9999999)(disch:=first|omega|(simp only[AN];omega))only[↓KP,EK,↓reduceIte,reduceCtorEq,Nat.reduceEqDiff,Nat.reduceAdd,Nat.reduceLeDiff,Nat.reduceMul]
    have hne2 : (factorsOf h w') ≠ [] := by simpa [factorsOf] using hne
    have hwide : wideL ((truthsE (lookE h 0)).map fun fs => (getI fs w', getI fs w')) = hull (factorsOf h w') := by
      rw [lookE_zero]
      refine wideL_hull (fun x hx => ?_) hne2
      obtain ⟨fs, hfs, rfl⟩ := List.mem_map.1 hx
      obtain ⟨h1, h2⟩ := truthsE_mem hfine hfs
      have := h2 _ (List.getElem_mem (l := fs) (n := w') (by omega))
      simp only [getI_eq (show w' < fs.length by omega)]; omega
    rw [hwide]
    simp(maxSteps:=9999999)(disch:=first|omega|(simp only[AN];omega))only[e4,↓KP,EK,↓reduceIte,reduceCtorEq,Nat.reduceEqDiff,Nat.reduceAdd,Nat.reduceLeDiff,Nat.reduceMul]
    refine k _ ⟨by simp(maxSteps:=9999999)(disch:=first|omega|(simp only[AN];omega))only[↓KP,EK,↓reduceIte,reduceCtorEq,Nat.reduceEqDiff,Nat.reduceAdd,Nat.reduceLeDiff,Nat.reduceMul]; omega, fun b hb => ?_⟩
    simp(maxSteps:=9999999)(disch:=first|omega|(simp only[AN];omega))only[↓KP,EK,↓reduceIte,reduceCtorEq,Nat.reduceEqDiff,Nat.reduceAdd,Nat.reduceLeDiff,Nat.reduceMul]
    rw [hi2.base _ (by omega) (by omega), hold _ (by omega)]
    simp(maxSteps:=9999999)(disch:=first|omega|(simp only[AN];omega))only[↓KP,EK,↓reduceIte,reduceCtorEq,Nat.reduceEqDiff,Nat.reduceAdd,Nat.reduceLeDiff,Nat.reduceMul]
theorem mul_in' {a b m n : Int} (ha : 0 ≤ a ∧ a ≤ m) (hb : 0 ≤ b ∧ b ≤ n) : 0 ≤ a * b ∧ a * b ≤ m * n :=
  ⟨Int.mul_nonneg ha.1 hb.1, Int.mul_le_mul ha.2 hb.2 hb.1 (by omega)⟩
theorem narrowAll_in : ∀ {ws : List Watcher} {cs fs : List Int} {s : Int × Int}, (∀ w ∈ ws, 0 ≤ w.off ∧ w.off ≤ 9) → (∀ c ∈ cs, -1 ≤ c ∧ c ≤ 120) → (∀ f ∈ fs, 1 ≤ f ∧ f ≤ 300) → 0 ≤ s.1 ∧ s.1 ≤ 40000 → 0 ≤ s.2 ∧ s.2 ≤ 40000 →
    (0 ≤ (narrowAll s ws cs fs).1 ∧ (narrowAll s ws cs fs).1 ≤ 40000) ∧ (0 ≤ (narrowAll s ws cs fs).2 ∧ (narrowAll s ws cs fs).2 ≤ 40000)
  | [], _, _, s, _, _, _, h1, h2 => by simpa [narrowAll] using ⟨h1, h2⟩
  | _ :: _, [], _, s, _, _, _, h1, h2 => by simpa [narrowAll] using ⟨h1, h2⟩
  | _ :: _, _ :: _, [], s, _, _, _, h1, h2 => by simpa [narrowAll] using ⟨h1, h2⟩
  | w :: ws, c :: cs, f :: fs, s, hw, hc, hf, h1, h2 => by
    have hw0 := hw w (by simp)
    have hc0 := hc c (by simp)
    have hf0 := hf f (by simp)
    refine narrowAll_in (ws := ws) (cs := cs) (fs := fs) (s := narrow s w c f) (fun x hx => hw x (by simp [hx])) (fun x hx => hc x (by simp [hx])) (fun x hx => hf x (by simp [hx])) ?_ ?_
    · unfold narrow
      split
      · exact h1
      · have := mul_in' (a := f) (b := max 0 (c - w.off)) (m := 300) (n := 120) (by omega) (by omega)
        simp only; omega
    · unfold narrow
      split
      · exact h2
      · have := mul_in' (a := f) (b := c + w.off) (m := 300) (n := 129) (by omega) (by omega)
        simp only; omega
theorem numbersE_in {h : House} {fs : List Int} (hf : Fine h) {d : Nat} (hd : d < h.days.length) (hfs : ∀ f ∈ fs, 1 ≤ f ∧ f ≤ 300) : (0 ≤ (numbersE h d fs).1 ∧ (numbersE h d fs).1 ≤ 40000) ∧ (0 ≤ (numbersE h d fs).2 ∧ (numbersE h d fs).2 ≤ 40000) := by
  unfold numbersE
  rw [getD_eq hd]
  exact narrowAll_in hf.off (hf.count _ (List.getElem_mem hd)) hfs (by omega) (by omega)
theorem numberE_err {h : House} {w : Int} : enterErr h [w, h.days.length] 0 = if indexE h w h.days.length ≠ 0 then indexE h w h.days.length else if truthsE h = [] then 8 else 0 := by
  unfold enterErr indexE
  by_cases he : errE h = 0
  · have hp : (pairsOff [w, (h.days.length : Int)] = true) ↔ ¬ (0 ≤ w ∧ w ≤ (h.days.length : Int) - 1) := by
      simp only [pairsOff, offP, Bool.or_false, Bool.or_eq_true, decide_eq_true_eq]; omega
    simp only [he, ne_eq, not_true, if_false, if_true]
    by_cases hw : 0 ≤ w ∧ w ≤ (h.days.length : Int) - 1
    · rw [if_neg (fun e => hp.1 e hw)]; simp [hw]
    · rw [if_pos (hp.2 hw)]; simp [hw]
  · simp [he]
theorem Number_run (v1 v2 : AV) (h : House) (w : Int) (hh : IsHouse (Old H) H v1 v2 h) (hs : Sized h)
    (k : ∀ H', Grew H H' → R (.tuple [.agg [I (numberE h w).1.1, I (numberE h w).1.2], I (numberE h w).2]) H') : CallQ prog (.func 20 [] []) [.agg [v1, v2], I w] H R := by
  have hg0 : Grew H (((H.alloc (.cells false [v1, v2])).alloc (.cells false [I w])).alloc (.cells false [I 0, I 0])) := GW
  have hnE : numberE h w = if enterErr h [w, h.days.length] 0 ≠ 0 then ((0, 0), enterErr h [w, h.days.length] 0) else (hull (numbersOf h w.toNat), 0) := by
    rw [numberE_err, numberE]
    by_cases h1 : indexE h w h.days.length = 0
    · by_cases h2 : truthsE h = []
      · simp [h1, h2]
      · simp [h1, h2]
    · simp [h1]
  refine CallQ_enter (fn:=c20) rfl (Nat.le_of_ble_eq_true rfl) ?_;simp(maxSteps:=9999999)(disch:=first|omega|(simp only[AN];omega))only[c20,envFrom,hh.2.len,↓KP,EK,↓reduceIte,reduceCtorEq,Nat.reduceEqDiff,Nat.reduceAdd,Nat.reduceLeDiff,Nat.reduceMul]
  have hg1 := (hg0.alloc (.cells false [I w, I h.days.length]))
  refine C_call (enter_run v1 v2 _ _ h [w, h.days.length] 0 (hh.grow hg1) (two_slice _ _ _) (by simp) (fun j hj hodd => ?_) rfl (fun _ _ H1 R _ hk => fine_run (hk _ (Grew.refl _))) (fun he H1 hg => ?_) (fun he hfine hne H1 N p m hg hm hheld => ?_))
  · have : j = 1 := by simp at hj; omega
    subst this
    have := hs.days
    simp only [List.getElem_cons_succ, List.getElem_cons_zero]; omega
  · have hgn := hg.next; simp only [AH.next_alloc] at hgn
    simp(maxSteps:=9999999)(disch:=first|omega|(simp only[AN];omega))only[he,hg.get,↓KP,EK,↓reduceIte,reduceCtorEq,Nat.reduceEqDiff,Nat.reduceAdd,Nat.reduceLeDiff,Nat.reduceMul]
    rw [hnE, if_pos he] at k
    refine k _ ?_
    exact GW
  · have hgn := hg.next; simp only [AH.next_alloc] at hgn
    rw [hnE, if_neg (by omega)] at k
    simp only [AH.next_alloc] at hm
    have hw : 0 ≤ w ∧ w ≤ (h.days.length : Int) - 1 := by
      rw [numberE_err] at he
      by_cases h1 : indexE h w h.days.length = 0
      · have := indexE_zero h1; omega
      · simp [h1] at he
    obtain ⟨w', rfl⟩ : ∃ w' : Nat, w = w' := ⟨w.toNat, by omega⟩
    have hmlt := hheld.look.mlt
    have hnle := hheld.look.nle
    have hwa : Watch N p m H1.next (H.next + 1) (I w') v1 v2 h 0 ((H1.alloc (.cells false [.nilptr])).set H1.next (.cells false [.ptr p 0])) ((H1.alloc (.cells false [.nilptr])).set H1.next (.cells false [.ptr p 0])) :=
      ⟨hheld.up GW, fun _ _ _ => rfl, by simp(maxSteps:=9999999)(disch:=first|omega|(simp only[AN];omega))only[↓KP,EK,↓reduceIte,reduceCtorEq,Nat.reduceEqDiff,Nat.reduceAdd,Nat.reduceLeDiff,Nat.reduceMul], by simp(maxSteps:=9999999)(disch:=first|omega|(simp only[AN];omega))only[hg.get,↓KP,EK,↓reduceIte,reduceCtorEq,Nat.reduceEqDiff,Nat.reduceAdd,Nat.reduceLeDiff,Nat.reduceMul], by simp(maxSteps:=9999999)(disch:=first|omega|(simp only[AN];omega))only[↓KP,EK,↓reduceIte,reduceCtorEq,Nat.reduceEqDiff,Nat.reduceAdd,Nat.reduceLeDiff,Nat.reduceMul]; omega, by simp(maxSteps:=9999999)(disch:=first|omega|(simp only[AN];omega))only[↓KP,EK,↓reduceIte,reduceCtorEq,Nat.reduceEqDiff,Nat.reduceAdd,Nat.reduceLeDiff,Nat.reduceMul]; omega, hnle, by omega⟩
    have hold : ∀ b, b < H.next + 4 → ((H1.alloc (.cells false [.nilptr])).set H1.next (.cells false [.ptr p 0])).get b = (((H.alloc (.cells false [v1, v2])).alloc (.cells false [I w'])).alloc (.cells false [I 0, I 0]) |>.alloc (.cells false [I w', I h.days.length])).get b := fun b hb => by simp(maxSteps:=9999999)(disch:=first|omega|(simp only[AN];omega))only[hg.get,↓KP,EK,↓reduceIte,reduceCtorEq,Nat.reduceEqDiff,Nat.reduceAdd,Nat.reduceLeDiff,Nat.reduceMul]
    simp(maxSteps:=9999999)(disch:=first|omega|(simp only[AN];omega))only[hg.get,↓KP,EK,↓reduceIte,reduceCtorEq,Nat.reduceEqDiff,Nat.reduceAdd,Nat.reduceLeDiff,Nat.reduceMul]
    have hit := day_iter (N := N) (p := p) (m := m) (b1 := H1.next) (b2 := H.next + 1) (w := w') (v1 := v1) (v2 := v2) (h := h) (but := 0) (B := (H1.alloc (.cells false [.nilptr])).set H1.next (.cells false [.ptr p 0])) hfine (by omega) (by omega)
    refine C_call (wide_run hit hwa fun H2 hn2 hi2 hs2 => ?_)
    simp only [AH.next_alloc, AH.next_set] at hn2
    have e4 : H2.get (H.next + 1 + 1) = some (.cells false [I 0, I 0]) := by rw [hi2.base _ (by omega) (by omega), hold _ (by omega)]; simp(maxSteps:=9999999)(disch:=first|omega|(simp only[AN];omega))only[↓KP,EK,↓reduceIte,reduceCtorEq,Nat.reduceEqDiff,Nat.reduceAdd,Nat.reduceLeDiff,Nat.reduceMul]
    have hne2 : (numbersOf h w') ≠ [] := by simpa [numbersOf] using hne
    have hwide : wideL ((truthsE (lookE h 0)).map fun fs => numbersE (lookE h 0) w' fs) = hull (numbersOf h w') := by
      rw [lookE_zero]
      refine wideL_hull (fun x hx => ?_) hne2
      obtain ⟨fs, hfs, rfl⟩ := List.mem_map.1 hx
      obtain ⟨h1, h2⟩ := numbersE_in (fs := fs) hfine (d := w') (by omega) (fun f hf => (truthsE_mem hfine hfs).2 f hf)
      omega
    rw [hwide]
    simp(maxSteps:=9999999)(disch:=first|omega|(simp only[AN];omega))only[e4,↓KP,EK,↓reduceIte,reduceCtorEq,Nat.reduceEqDiff,Nat.reduceAdd,Nat.reduceLeDiff,Nat.reduceMul]
    refine k _ ⟨by simp(maxSteps:=9999999)(disch:=first|omega|(simp only[AN];omega))only[↓KP,EK,↓reduceIte,reduceCtorEq,Nat.reduceEqDiff,Nat.reduceAdd,Nat.reduceLeDiff,Nat.reduceMul]; omega, fun b hb => ?_⟩
    simp(maxSteps:=9999999)(disch:=first|omega|(simp only[AN];omega))only[↓KP,EK,↓reduceIte,reduceCtorEq,Nat.reduceEqDiff,Nat.reduceAdd,Nat.reduceLeDiff,Nat.reduceMul]
    rw [hi2.base _ (by omega) (by omega), hold _ (by omega)]
    simp(maxSteps:=9999999)(disch:=first|omega|(simp only[AN];omega))only[↓KP,EK,↓reduceIte,reduceCtorEq,Nat.reduceEqDiff,Nat.reduceAdd,Nat.reduceLeDiff,Nat.reduceMul]
end Go.Proofs.Ytgncpbkedhchfaa
namespace Go.Proofs.Ytgncpbkedhchfaa
open Go.AM Go.IntWalk
set_option maxRecDepth 100000
set_option maxHeartbeats 4000000
set_option linter.unusedSimpArgs false
variable {H : AH} {R : AV → AH → Prop}
theorem plow_run (a b : Int) (ha : 1 ≤ a ∧ a ≤ 1000000000) (hb : 1 ≤ b ∧ b ≤ 1000000000) (h : ∀ H', Grew H H' → R (.agg [I (lowE a b).1, I (lowE a b).2]) H') : CallQ prog (.func 77 [] []) [I a, I b] H R := by
  obtain ⟨x, rfl⟩ : ∃ x : Nat, a = x := ⟨a.toNat, by omega⟩
  obtain ⟨y, rfl⟩ : ∃ y : Nat, b = y := ⟨b.toNat, by omega⟩
  have hg : 0 < Nat.gcd x y := Nat.gcd_pos_of_pos_left _ (by omega)
  refine CallQ_enter (fn:=c77) rfl (Nat.le_of_ble_eq_true rfl) ?_;simp(maxSteps:=9999999)(disch:=first|omega|(simp only[AN];omega))only[c77,envFrom,↓KP,EK,↓reduceIte,reduceCtorEq,Nat.reduceEqDiff,Nat.reduceAdd,Nat.reduceLeDiff,Nat.reduceMul]
  refine K_loop (fun mz ez H1 => ∃ (u : Nat) (v : Nat) (tail : Env), ez = (0, I x) :: (1, I y) :: (4, .ptr H.next 0) :: (5, I u) :: (6, I v) :: tail ∧ (Grew H H1) ∧ (H1.get H.next = some (.cells false [I 0, I 0])) ∧ (H.next < H1.next) ∧ (Nat.gcd u v = Nat.gcd x y) ∧ mz = v) _ ⟨x, y, _, rfl, ?_, ?_, ?_, ?_, rfl⟩ ?_
  iterate 4 (focus (first|(with_reducible rfl)|omega|(with_reducible(repeat first|exact Grew.refl _|assumption|apply Grew.alloc|refine Grew.set ?_ _ (by first|omega|(simp only[AN];omega)));done)|(simp(maxSteps:=9999999)(disch:=first|omega|(simp only[AN];omega))only[↓KP,EK,↓reduceIte,reduceCtorEq,Nat.reduceEqDiff,Nat.reduceAdd,Nat.reduceLeDiff,Nat.reduceMul]<;>first|omega|rfl)|(simp;done)|rfl))
  rintro mz ez H1 ⟨u, v, tail, rfl, hG, h4, hlt, huv, hmz⟩; subst mz; have hGn := hG.next
  by_cases hv0 : (v : Int) = 0
  · have hv : v = 0 := by omega
    subst hv
    rw [Nat.gcd_zero_right] at huv
    subst huv
    have e3 : ¬ ((Nat.gcd x y : Nat) : Int) = 0 := by omega
    have q : ∀ z : Nat, z ≤ 1000000000 → IntKind.i64.wrap ((z : Int).tdiv (Nat.gcd x y : Nat)) = ((z / Nat.gcd x y : Nat) : Int) := fun z hz => by
      have h1 : (z : Int).tdiv (Nat.gcd x y : Nat) = ((z / Nat.gcd x y : Nat) : Int) := rfl
      have h2 := Nat.div_le_self z (Nat.gcd x y)
      rw [h1]
      generalize z / Nat.gcd x y = w at h2
      exact i64_in _ (by omega)
    have q1 := q x (by omega)
    have q2 := q y (by omega)
    simp(maxSteps:=9999999)(disch:=first|omega|(simp only[AN];omega))only[hv0,↓KP,EK,↓reduceIte,reduceCtorEq,Nat.reduceEqDiff,Nat.reduceAdd,Nat.reduceLeDiff,Nat.reduceMul]
    refine K_draw ?_;simp(maxSteps:=9999999)(disch:=first|omega|(simp only[AN];omega))only[e3,q1,q2,h4,↓KP,EK,↓reduceIte,reduceCtorEq,Nat.reduceEqDiff,Nat.reduceAdd,Nat.reduceLeDiff,Nat.reduceMul]
    refine h _ ?_
    exact GW
  · have e1 : (u : Int).tmod (v : Int) = ((u % v : Nat) : Int) := rfl
    simp(maxSteps:=9999999)(disch:=first|omega|(simp only[AN];omega))only[hv0,↓KP,EK,↓reduceIte,reduceCtorEq,Nat.reduceEqDiff,Nat.reduceAdd,Nat.reduceLeDiff,Nat.reduceMul]
    refine K_draw ?_;simp(maxSteps:=9999999)(disch:=first|omega|(simp only[AN];omega))only[hv0,e1,↓KP,EK,↓reduceIte,reduceCtorEq,Nat.reduceEqDiff,Nat.reduceAdd,Nat.reduceLeDiff,Nat.reduceMul]
    exact ⟨_, Nat.mod_lt _ (by omega), v, u % v, _, rfl, hG, h4, hlt, by rw [← huv, Nat.gcd_comm u v, Nat.gcd_rec v u, Nat.gcd_comm], rfl⟩
theorem less_run (p q : Int × Int) (hp : InR 90000 p) (hq : InR 90000 q) (h : ∀ H', Grew H H' → R (.bool (decide (ltE p q))) H') : CallQ prog (.func 78 [] []) [.agg [I p.1, I p.2], .agg [I q.1, I q.2]] H R := by
  unfold InR at hp hq
  have h1 := mul_in (a := p.1) (b := q.2) (m := 90000) (n := 90000) (by omega) (by omega)
  have h2 := mul_in (a := q.1) (b := p.2) (m := 90000) (n := 90000) (by omega) (by omega)
  have e1 : IntKind.i64.wrap (p.1 * q.2) = p.1 * q.2 := i64_in _ (by omega)
  have e2 : IntKind.i64.wrap (q.1 * p.2) = q.1 * p.2 := i64_in _ (by omega)
  refine CallQ_enter (fn:=c78) rfl (Nat.le_of_ble_eq_true rfl) ?_;simp(maxSteps:=9999999)(disch:=first|omega|(simp only[AN];omega))only[c78,envFrom,e1,e2,↓KP,EK,↓reduceIte,reduceCtorEq,Nat.reduceEqDiff,Nat.reduceAdd,Nat.reduceLeDiff,Nat.reduceMul]
  refine h _ ?_
  exact GW
theorem quotE_snoc {l : List (Int × Int)} {q : Int × Int} (h : l ≠ []) : quotE (l ++ [q]) = quotStep (quotE l) q := by
  cases l with
  | nil => exact absurd rfl h
  | cons a l => simp [quotE, List.foldl_append]
theorem between_run {N p m : Nat} {v1 v2 : AV} {h : House} {but : Nat} (a b : Nat) (hfine : Fine h) (hbut : but < 4096) (hr : Held N p m v1 v2 h but H) (ha : a < h.ws.length) (hb : b < h.ws.length)
    (k : ∀ H', GrewBut m H H' → Held N p m v1 v2 h but H' → R (.tuple [.agg [I (quotE (quotsOf (truthsE (lookE h but)) a b)).1.1, I (quotE (quotsOf (truthsE (lookE h but)) a b)).1.2], .agg [I (quotE (quotsOf (truthsE (lookE h but)) a b)).2.1, I (quotE (quotsOf (truthsE (lookE h but)) a b)).2.2]]) H') : CallQ prog (.func 75 [] []) [.ptr p 0, I a, I b] H R := by
  refine CallQ_enter (fn:=c75) rfl (Nat.le_of_ble_eq_true rfl) ?_;simp(maxSteps:=9999999)(disch:=first|omega|(simp only[AN];omega))only[c75,envFrom,↓KP,EK,↓reduceIte,reduceCtorEq,Nat.reduceEqDiff,Nat.reduceAdd,Nat.reduceLeDiff,Nat.reduceMul]
  first|refine C_call ?_|refine C_calld ?_
  refine truths_run p ?_
  simp(maxSteps:=9999999)(disch:=first|omega|(simp only[AN];omega))only[↓KP,EK,↓reduceIte,reduceCtorEq,Nat.reduceEqDiff,Nat.reduceAdd,Nat.reduceLeDiff,Nat.reduceMul]
  have hr1 := (hr.up (((((Grew.refl H).alloc (.cells false [I a])).alloc (.cells false [I b])).alloc (.cells false [I 0, I 0])).alloc (.cells false [I 0, I 0]))).ready
  have hNle := hr.look.nle
  have hw3 := hfine.ws
  have base : ∀ x, x < H.next → ((((((H.alloc (.cells false [I a])).alloc (.cells false [I b])).alloc (.cells false [I 0, I 0])).alloc (.cells false [I 0, I 0]))).alloc (.cells false [.ptr p 0])).get x = H.get x := fun x h1 => by simp(maxSteps:=9999999)(disch:=first|omega|(simp only[AN];omega))only[↓KP,EK,↓reduceIte,reduceCtorEq,Nat.reduceEqDiff,Nat.reduceAdd,Nat.reduceLeDiff,Nat.reduceMul]
  have b0 : ((((((H.alloc (.cells false [I a])).alloc (.cells false [I b])).alloc (.cells false [I 0, I 0])).alloc (.cells false [I 0, I 0]))).alloc (.cells false [.ptr p 0])).get H.next = some (.cells false [I a]) := by simp(maxSteps:=9999999)(disch:=first|omega|(simp only[AN];omega))only[↓KP,EK,↓reduceIte,reduceCtorEq,Nat.reduceEqDiff,Nat.reduceAdd,Nat.reduceLeDiff,Nat.reduceMul]
  have b1 : ((((((H.alloc (.cells false [I a])).alloc (.cells false [I b])).alloc (.cells false [I 0, I 0])).alloc (.cells false [I 0, I 0]))).alloc (.cells false [.ptr p 0])).get (H.next + 1) = some (.cells false [I b]) := by simp(maxSteps:=9999999)(disch:=first|omega|(simp only[AN];omega))only[↓KP,EK,↓reduceIte,reduceCtorEq,Nat.reduceEqDiff,Nat.reduceAdd,Nat.reduceLeDiff,Nat.reduceMul]
  have b2 : ((((((H.alloc (.cells false [I a])).alloc (.cells false [I b])).alloc (.cells false [I 0, I 0])).alloc (.cells false [I 0, I 0]))).alloc (.cells false [.ptr p 0])).get (H.next + 2) = some (.cells false [I 0, I 0]) := by simp(maxSteps:=9999999)(disch:=first|omega|(simp only[AN];omega))only[↓KP,EK,↓reduceIte,reduceCtorEq,Nat.reduceEqDiff,Nat.reduceAdd,Nat.reduceLeDiff,Nat.reduceMul]
  have b3 : ((((((H.alloc (.cells false [I a])).alloc (.cells false [I b])).alloc (.cells false [I 0, I 0])).alloc (.cells false [I 0, I 0]))).alloc (.cells false [.ptr p 0])).get (H.next + 3) = some (.cells false [I 0, I 0]) := by simp(maxSteps:=9999999)(disch:=first|omega|(simp only[AN];omega))only[↓KP,EK,↓reduceIte,reduceCtorEq,Nat.reduceEqDiff,Nat.reduceAdd,Nat.reduceLeDiff,Nat.reduceMul]
  have hBn : ((((((H.alloc (.cells false [I a])).alloc (.cells false [I b])).alloc (.cells false [I 0, I 0])).alloc (.cells false [I 0, I 0]))).alloc (.cells false [.ptr p 0])).next = H.next + 5 := rfl
  have hbh : (((((H.alloc (.cells false [I a])).alloc (.cells false [I b])).alloc (.cells false [I 0, I 0])).alloc (.cells false [I 0, I 0]))).next = H.next + 4 := rfl
  rw [hbh] at hr1
  have hfac : Factors h.ws.length (truthsE (lookE h but)) := truthsE_factors (hfine.mask _)
  generalize (((((H.alloc (.cells false [I a])).alloc (.cells false [I b])).alloc (.cells false [I 0, I 0])).alloc (.cells false [I 0, I 0]))).alloc (.cells false [.ptr p 0]) = B at hr1 base b0 b1 b2 b3 hBn
  refine K_iter (L := yields h but) (K := Kh N (H.next + 4)) (Inv := Ready N p m (H.next + 4) v1 v2 h but B) rfl (truths_iter hfine hbut) hr1 (fun a ha => ?_)
    (fun done H2 => (∃ ds rs, truthsE (lookE h but) = ds ++ rs ∧ done = ds.map (argT (lookE h but)) ∧ H2.get (H.next + 2) = some (.cells false [I (quotE (quotsOf ds a b)).1.1, I (quotE (quotsOf ds a b)).1.2]) ∧ H2.get (H.next + 3) = some (.cells false [I (quotE (quotsOf ds a b)).2.1, I (quotE (quotsOf ds a b)).2.2])) ∧
      H2.get H.next = some (.cells false [I a]) ∧ H2.get (H.next + 1) = some (.cells false [I b]) ∧ ∀ x, N ≤ x → x < H.next → H2.get x = H.get x)
    (fun _ _ => False) ?_ ?_ ?_ ?_ ?_ ?_
  · obtain ⟨fs, _, rfl⟩ := List.mem_map.1 ha; rfl
  · rintro done H1 H2 hn hs ⟨⟨ds, rs, h1, h2, h3, h4⟩, h5, h6, h7⟩
    refine ⟨⟨ds, rs, h1, h2, by rw [hs _ (by simp only [Kh]; omega) (by omega)]; exact h3, by rw [hs _ (by simp only [Kh]; omega) (by omega)]; exact h4⟩, by rw [hs _ (by simp only [Kh]; omega) (by omega)]; exact h5, by rw [hs _ (by simp only [Kh]; omega) (by omega)]; exact h6, fun x h8 h9 => by rw [hs _ (by simp only [Kh]; omega) (by omega)]; exact h7 x h8 h9⟩
  · intro x H1 H2 hn hs h; exact h
  · exact ⟨⟨[], _, rfl, rfl, b2, b3⟩, b0, b1, fun x _ hx => base x hx⟩
  · rintro done q rest H1 hL hlt hi1 ⟨⟨ds, rs, h1, rfl, h3, h4⟩, h5, h6, h7⟩ hlo
    rw [yields, h1, List.map_append, List.append_cancel_left_eq] at hL
    cases rs with
    | nil => cases hL
    | cons fs rs =>
      simp only [List.map_cons, List.cons.injEq] at hL
      obtain ⟨rfl, rfl⟩ := hL
      have hfs := hfac fs (by rw [h1]; simp)
      have hds : Factors h.ws.length ds := fun x hx => hfac x (by rw [h1]; simp [hx])
      have hga := three_get (getI fs 0) (getI fs 1) (getI fs 2) (n := a) (by omega)
      have hga' : [getI fs 0, getI fs 1, getI fs 2][a]'(by simp; omega) = getI fs a := by
        rcases (show a = 0 ∨ a = 1 ∨ a = 2 by omega) with rfl | rfl | rfl <;> rfl
      have hgb := three_get (getI fs 0) (getI fs 1) (getI fs 2) (n := b) (by omega)
      have hgb' : [getI fs 0, getI fs 1, getI fs 2][b]'(by simp; omega) = getI fs b := by
        rcases (show b = 0 ∨ b = 1 ∨ b = 2 by omega) with rfl | rfl | rfl <;> rfl
      rw [hga'] at hga
      rw [hgb'] at hgb
      have hix : ∀ (n : Nat) (hn : n < 3) S x, opIdxArr 3 1 (.ptr x 0) (I n) S = some (.ptr x n, S) := fun n hn S x => by
        simp [opIdxArr, natOf, hn]
      have hixa := hix a (by omega)
      have hixb := hix b (by omega)
      have fa := hfs.2 _ (List.getElem_mem (l := fs) (n := a) (by omega))
      have fb := hfs.2 _ (List.getElem_mem (l := fs) (n := b) (by omega))
      rw [← getI_eq] at fa fb
      have hz := lowE_in (m := 300) fa fb
      have hsn : quotsOf (ds ++ [fs]) a b = quotsOf ds a b ++ [lowE (getI fs a) (getI fs b)] := by simp [quotsOf]
      simp(maxSteps:=9999999)(disch:=first|omega|(simp only[AN];omega))only[K8,hlo,argT,pad3,List.map_cons,List.map_nil,↓KP,EK,↓reduceIte,reduceCtorEq,Nat.reduceEqDiff,Nat.reduceAdd,Nat.reduceLeDiff,Nat.reduceMul]
      refine K_draw ?_;simp(maxSteps:=9999999)(disch:=first|omega|(simp only[AN];omega))only[h5,h6,hixa,hixb,hga,hgb,↓KP,EK,↓reduceIte,reduceCtorEq,Nat.reduceEqDiff,Nat.reduceAdd,Nat.reduceLeDiff,Nat.reduceMul]
      first|refine C_call ?_|refine C_calld ?_
      refine plow_run _ _ ⟨fa.1, by omega⟩ ⟨fb.1, by omega⟩ fun H3 hg3 => ?_
      have hg3n:=hg3.next;try simp only[AN]at hg3n
      have hdone : ds.map (argT (lookE h but)) ++ [argT (lookE h but) fs] = (ds ++ [fs]).map (argT (lookE h but)) := by rw [List.map_append]; rfl
      have hlo3 : ∀ (S : AH), (∀ x, x < H1.next → x ≠ B.next → x ≠ H.next + 2 → x ≠ H.next + 3 → S.get x = H1.get x) → H1.next ≤ S.next → Kept (Kh N (H.next + 4)) B.next H1 S ∧ S.get H.next = some (.cells false [I a]) ∧ S.get (H.next + 1) = some (.cells false [I b]) ∧ ∀ x, N ≤ x → x < H.next → S.get x = H.get x := fun S hS hn => by
        refine ⟨⟨hn, fun x hx hc => hS x hx ?_ ?_ ?_⟩, by rw [hS _ (by omega) (by omega) (by omega) (by omega)]; exact h5, by rw [hS _ (by omega) (by omega) (by omega) (by omega)]; exact h6, fun x h8 h9 => by rw [hS _ (by omega) (by omega) (by omega) (by omega)]; exact h7 x h8 h9⟩ <;> (simp only [Kh] at hc; omega)
      have fin2 : ∀ (S : AH) (q : (Int × Int) × (Int × Int)) (D : List (List AV)), D = (ds ++ [fs]).map (argT (lookE h but)) → quotE (quotsOf (ds ++ [fs]) a b) = q → (∀ x, x < H1.next → x ≠ B.next → x ≠ H.next + 2 → x ≠ H.next + 3 → S.get x = H1.get x) → H1.next ≤ S.next → S.get (H.next + 2) = some (.cells false [I q.1.1, I q.1.2]) → S.get (H.next + 3) = some (.cells false [I q.2.1, I q.2.2]) →
          Kept (Kh N (H.next + 4)) B.next H1 S ∧ (∃ ds' rs', truthsE (lookE h but) = ds' ++ rs' ∧ D = ds'.map (argT (lookE h but)) ∧ S.get (H.next + 2) = some (.cells false [I (quotE (quotsOf ds' a b)).1.1, I (quotE (quotsOf ds' a b)).1.2]) ∧ S.get (H.next + 3) = some (.cells false [I (quotE (quotsOf ds' a b)).2.1, I (quotE (quotsOf ds' a b)).2.2])) ∧
          S.get H.next = some (.cells false [I a]) ∧ S.get (H.next + 1) = some (.cells false [I b]) ∧ ∀ x, N ≤ x → x < H.next → S.get x = H.get x := fun S q D hD hq hS hn g2 g3 => by
        have := hlo3 S hS hn
        refine ⟨this.1, ⟨ds ++ [fs], rs, by rw [h1]; simp, hD, ?_, ?_⟩, this.2⟩
        · rw [hq]; exact g2
        · rw [hq]; exact g3
      by_cases hd0 : ds = []
      · subst hd0
        have q0 : quotE (quotsOf [] a b) = ((0, 0), (0, 0)) := rfl
        rw [q0] at h3 h4
        simp(maxSteps:=9999999)(disch:=first|omega|(simp only[AN];omega))only[hg3.get,h3,h4,h5,h6,hixa,hixb,hga,hgb,K8,↓KP,EK,↓reduceIte,reduceCtorEq,Nat.reduceEqDiff,Nat.reduceAdd,Nat.reduceLeDiff,Nat.reduceMul]
        refine K_bod ⟨?_, fin2 _ (lowE (getI fs a) (getI fs b), lowE (getI fs a) (getI fs b)) _ rfl (by rw [hsn]; rfl) ?_ ?_ ?_ ?_⟩
        · simp(maxSteps:=9999999)(disch:=first|omega|(simp only[AN];omega))only[hg3.get,↓KP,EK,↓reduceIte,reduceCtorEq,Nat.reduceEqDiff,Nat.reduceAdd,Nat.reduceLeDiff,Nat.reduceMul]
        · intro x x1 x2 x3 x4; simp(maxSteps:=9999999)(disch:=first|omega|(simp only[AN];omega))only[hg3.get,↓KP,EK,↓reduceIte,reduceCtorEq,Nat.reduceEqDiff,Nat.reduceAdd,Nat.reduceLeDiff,Nat.reduceMul]
        · simp(maxSteps:=9999999)(disch:=first|omega|(simp only[AN];omega))only[↓KP,EK,↓reduceIte,reduceCtorEq,Nat.reduceEqDiff,Nat.reduceAdd,Nat.reduceLeDiff,Nat.reduceMul]; omega
        · simp(maxSteps:=9999999)(disch:=first|omega|(simp only[AN];omega))only[↓KP,EK,↓reduceIte,reduceCtorEq,Nat.reduceEqDiff,Nat.reduceAdd,Nat.reduceLeDiff,Nat.reduceMul]
        · simp(maxSteps:=9999999)(disch:=first|omega|(simp only[AN];omega))only[↓KP,EK,↓reduceIte,reduceCtorEq,Nat.reduceEqDiff,Nat.reduceAdd,Nat.reduceLeDiff,Nat.reduceMul]
      · have hin := quotE_in (quotsOf_in hds ha hb) (by simpa [quotsOf] using hd0)
        have hq := quotE_snoc (l := quotsOf ds a b) (q := lowE (getI fs a) (getI fs b)) (by simpa [quotsOf] using hd0)
        rw [← hsn] at hq
        generalize lowE (getI fs a) (getI fs b) = z at hz hsn hq
        generalize hX : quotE (quotsOf ds a b) = X at h3 h4 hin hq
        obtain ⟨x, y⟩ := X
        simp only at hin h3 h4
        have n1 : ¬ x.2 = 0 := by have := hin.1; unfold InR at this; omega
        have n2 : ¬ y.2 = 0 := by have := hin.2; unfold InR at this; omega
        simp(maxSteps:=9999999)(disch:=first|omega|(simp only[AN];omega))only[hg3.get,h3,h4,h5,h6,hixa,hixb,hga,hgb,n1,↓KP,EK,↓reduceIte,reduceCtorEq,Nat.reduceEqDiff,Nat.reduceAdd,Nat.reduceLeDiff,Nat.reduceMul]
        first|refine C_call ?_|refine C_calld ?_
        refine less_run z x (hz.le (by omega)) (hin.1.le (by omega)) fun H4 hg4 => ?_
        have hg4n:=hg4.next;try simp only[AN]at hg4n
        simp(maxSteps:=9999999)(disch:=first|omega|(simp only[AN];omega))only[↓KP,EK,↓reduceIte,reduceCtorEq,Nat.reduceEqDiff,Nat.reduceAdd,Nat.reduceLeDiff,Nat.reduceMul]
        refine C_decide (fun hl1 => ?_) (fun hl1 => ?_)
        · simp(maxSteps:=9999999)(disch:=first|omega|(simp only[AN];omega))only[hg4.get,hg3.get,h3,h4,n2,↓KP,EK,↓reduceIte,reduceCtorEq,Nat.reduceEqDiff,Nat.reduceAdd,Nat.reduceLeDiff,Nat.reduceMul]
          first|refine C_call ?_|refine C_calld ?_
          refine less_run y z (hin.2.le (by omega)) (hz.le (by omega)) fun H5 hg5 => ?_
          have hg5n:=hg5.next;try simp only[AN]at hg5n
          simp(maxSteps:=9999999)(disch:=first|omega|(simp only[AN];omega))only[↓KP,EK,↓reduceIte,reduceCtorEq,Nat.reduceEqDiff,Nat.reduceAdd,Nat.reduceLeDiff,Nat.reduceMul]
          refine C_decide (fun hl2 => ?_) (fun hl2 => ?_)
          · simp(maxSteps:=9999999)(disch:=first|omega|(simp only[AN];omega))only[hg5.get,hg4.get,hg3.get,h3,h4,n2,K8,↓KP,EK,↓reduceIte,reduceCtorEq,Nat.reduceEqDiff,Nat.reduceAdd,Nat.reduceLeDiff,Nat.reduceMul]
            refine K_bod ⟨?_, fin2 _ (z, z) _ hdone (by rw [hq, quotStep]; simp only [hl1, hl2, if_true, if_false]) ?_ ?_ ?_ ?_⟩
            · simp(maxSteps:=9999999)(disch:=first|omega|(simp only[AN];omega))only[hg5.get,hg4.get,hg3.get,↓KP,EK,↓reduceIte,reduceCtorEq,Nat.reduceEqDiff,Nat.reduceAdd,Nat.reduceLeDiff,Nat.reduceMul]
            · intro x x1 x2 x3 x4; simp(maxSteps:=9999999)(disch:=first|omega|(simp only[AN];omega))only[hg5.get,hg4.get,hg3.get,↓KP,EK,↓reduceIte,reduceCtorEq,Nat.reduceEqDiff,Nat.reduceAdd,Nat.reduceLeDiff,Nat.reduceMul]
            · first | omega | (simp(maxSteps:=9999999)(disch:=first|omega|(simp only[AN];omega))only[↓KP,EK,↓reduceIte,reduceCtorEq,Nat.reduceEqDiff,Nat.reduceAdd,Nat.reduceLeDiff,Nat.reduceMul]; omega)
            · simp(maxSteps:=9999999)(disch:=first|omega|(simp only[AN];omega))only[hg5.get,hg4.get,hg3.get,h3,↓KP,EK,↓reduceIte,reduceCtorEq,Nat.reduceEqDiff,Nat.reduceAdd,Nat.reduceLeDiff,Nat.reduceMul]
            · simp(maxSteps:=9999999)(disch:=first|omega|(simp only[AN];omega))only[hg5.get,hg4.get,hg3.get,h4,↓KP,EK,↓reduceIte,reduceCtorEq,Nat.reduceEqDiff,Nat.reduceAdd,Nat.reduceLeDiff,Nat.reduceMul]
          · simp(maxSteps:=9999999)(disch:=first|omega|(simp only[AN];omega))only[hg5.get,hg4.get,hg3.get,h3,h4,n2,K8,↓KP,EK,↓reduceIte,reduceCtorEq,Nat.reduceEqDiff,Nat.reduceAdd,Nat.reduceLeDiff,Nat.reduceMul]
            refine K_bod ⟨?_, fin2 _ (z, y) _ hdone (by rw [hq, quotStep]; simp only [hl1, hl2, if_true, if_false]) ?_ ?_ ?_ ?_⟩
            · simp(maxSteps:=9999999)(disch:=first|omega|(simp only[AN];omega))only[hg5.get,hg4.get,hg3.get,↓KP,EK,↓reduceIte,reduceCtorEq,Nat.reduceEqDiff,Nat.reduceAdd,Nat.reduceLeDiff,Nat.reduceMul]
            · intro x x1 x2 x3 x4; simp(maxSteps:=9999999)(disch:=first|omega|(simp only[AN];omega))only[hg5.get,hg4.get,hg3.get,↓KP,EK,↓reduceIte,reduceCtorEq,Nat.reduceEqDiff,Nat.reduceAdd,Nat.reduceLeDiff,Nat.reduceMul]
            · first | omega | (simp(maxSteps:=9999999)(disch:=first|omega|(simp only[AN];omega))only[↓KP,EK,↓reduceIte,reduceCtorEq,Nat.reduceEqDiff,Nat.reduceAdd,Nat.reduceLeDiff,Nat.reduceMul]; omega)
            · simp(maxSteps:=9999999)(disch:=first|omega|(simp only[AN];omega))only[hg5.get,hg4.get,hg3.get,h3,↓KP,EK,↓reduceIte,reduceCtorEq,Nat.reduceEqDiff,Nat.reduceAdd,Nat.reduceLeDiff,Nat.reduceMul]
            · simp(maxSteps:=9999999)(disch:=first|omega|(simp only[AN];omega))only[hg5.get,hg4.get,hg3.get,h4,↓KP,EK,↓reduceIte,reduceCtorEq,Nat.reduceEqDiff,Nat.reduceAdd,Nat.reduceLeDiff,Nat.reduceMul]
        · simp(maxSteps:=9999999)(disch:=first|omega|(simp only[AN];omega))only[hg4.get,hg3.get,h3,h4,n2,↓KP,EK,↓reduceIte,reduceCtorEq,Nat.reduceEqDiff,Nat.reduceAdd,Nat.reduceLeDiff,Nat.reduceMul]
          first|refine C_call ?_|refine C_calld ?_
          refine less_run y z (hin.2.le (by omega)) (hz.le (by omega)) fun H5 hg5 => ?_
          have hg5n:=hg5.next;try simp only[AN]at hg5n
          simp(maxSteps:=9999999)(disch:=first|omega|(simp only[AN];omega))only[↓KP,EK,↓reduceIte,reduceCtorEq,Nat.reduceEqDiff,Nat.reduceAdd,Nat.reduceLeDiff,Nat.reduceMul]
          refine C_decide (fun hl2 => ?_) (fun hl2 => ?_)
          · simp(maxSteps:=9999999)(disch:=first|omega|(simp only[AN];omega))only[hg5.get,hg4.get,hg3.get,h3,h4,n2,K8,↓KP,EK,↓reduceIte,reduceCtorEq,Nat.reduceEqDiff,Nat.reduceAdd,Nat.reduceLeDiff,Nat.reduceMul]
            refine K_bod ⟨?_, fin2 _ (x, z) _ hdone (by rw [hq, quotStep]; simp only [hl1, hl2, if_true, if_false]) ?_ ?_ ?_ ?_⟩
            · simp(maxSteps:=9999999)(disch:=first|omega|(simp only[AN];omega))only[hg5.get,hg4.get,hg3.get,↓KP,EK,↓reduceIte,reduceCtorEq,Nat.reduceEqDiff,Nat.reduceAdd,Nat.reduceLeDiff,Nat.reduceMul]
            · intro x x1 x2 x3 x4; simp(maxSteps:=9999999)(disch:=first|omega|(simp only[AN];omega))only[hg5.get,hg4.get,hg3.get,↓KP,EK,↓reduceIte,reduceCtorEq,Nat.reduceEqDiff,Nat.reduceAdd,Nat.reduceLeDiff,Nat.reduceMul]
            · first | omega | (simp(maxSteps:=9999999)(disch:=first|omega|(simp only[AN];omega))only[↓KP,EK,↓reduceIte,reduceCtorEq,Nat.reduceEqDiff,Nat.reduceAdd,Nat.reduceLeDiff,Nat.reduceMul]; omega)
            · simp(maxSteps:=9999999)(disch:=first|omega|(simp only[AN];omega))only[hg5.get,hg4.get,hg3.get,h3,↓KP,EK,↓reduceIte,reduceCtorEq,Nat.reduceEqDiff,Nat.reduceAdd,Nat.reduceLeDiff,Nat.reduceMul]
            · simp(maxSteps:=9999999)(disch:=first|omega|(simp only[AN];omega))only[hg5.get,hg4.get,hg3.get,h4,↓KP,EK,↓reduceIte,reduceCtorEq,Nat.reduceEqDiff,Nat.reduceAdd,Nat.reduceLeDiff,Nat.reduceMul]
          · simp(maxSteps:=9999999)(disch:=first|omega|(simp only[AN];omega))only[hg5.get,hg4.get,hg3.get,h3,h4,n2,K8,↓KP,EK,↓reduceIte,reduceCtorEq,Nat.reduceEqDiff,Nat.reduceAdd,Nat.reduceLeDiff,Nat.reduceMul]
            refine K_bod ⟨?_, fin2 _ (x, y) _ hdone (by rw [hq, quotStep]; simp only [hl1, hl2, if_true, if_false]) ?_ ?_ ?_ ?_⟩
            · simp(maxSteps:=9999999)(disch:=first|omega|(simp only[AN];omega))only[hg5.get,hg4.get,hg3.get,↓KP,EK,↓reduceIte,reduceCtorEq,Nat.reduceEqDiff,Nat.reduceAdd,Nat.reduceLeDiff,Nat.reduceMul]
            · intro x x1 x2 x3 x4; simp(maxSteps:=9999999)(disch:=first|omega|(simp only[AN];omega))only[hg5.get,hg4.get,hg3.get,↓KP,EK,↓reduceIte,reduceCtorEq,Nat.reduceEqDiff,Nat.reduceAdd,Nat.reduceLeDiff,Nat.reduceMul]
            · first | omega | (simp(maxSteps:=9999999)(disch:=first|omega|(simp only[AN];omega))only[↓KP,EK,↓reduceIte,reduceCtorEq,Nat.reduceEqDiff,Nat.reduceAdd,Nat.reduceLeDiff,Nat.reduceMul]; omega)
            · simp(maxSteps:=9999999)(disch:=first|omega|(simp only[AN];omega))only[hg5.get,hg4.get,hg3.get,h3,↓KP,EK,↓reduceIte,reduceCtorEq,Nat.reduceEqDiff,Nat.reduceAdd,Nat.reduceLeDiff,Nat.reduceMul]
            · simp(maxSteps:=9999999)(disch:=first|omega|(simp only[AN];omega))only[hg5.get,hg4.get,hg3.get,h4,↓KP,EK,↓reduceIte,reduceCtorEq,Nat.reduceEqDiff,Nat.reduceAdd,Nat.reduceLeDiff,Nat.reduceMul]
  · rintro H2 hn hi2 ⟨⟨ds, rs, h1, h2, h3, h4⟩, h5, h6, h7⟩
    have hrs : rs = [] := by
      have := congrArg List.length h2
      rw [yields, h1, List.length_map, List.length_map, List.length_append] at this
      exact List.length_eq_zero_iff.1 (by omega)
    subst hrs
    rw [List.append_nil] at h1
    subst h1
    simp(maxSteps:=9999999)(disch:=first|omega|(simp only[AN];omega))only[↓KP,EK,↓reduceIte,reduceCtorEq,Nat.reduceEqDiff,Nat.reduceAdd,Nat.reduceLeDiff,Nat.reduceMul]
    refine K_draw ?_;simp(maxSteps:=9999999)(disch:=first|omega|(simp only[AN];omega))only[h3,h4,↓KP,EK,↓reduceIte,reduceCtorEq,Nat.reduceEqDiff,Nat.reduceAdd,Nat.reduceLeDiff,Nat.reduceMul]
    refine k _ ⟨by simp(maxSteps:=9999999)(disch:=first|omega|(simp only[AN];omega))only[↓KP,EK,↓reduceIte,reduceCtorEq,Nat.reduceEqDiff,Nat.reduceAdd,Nat.reduceLeDiff,Nat.reduceMul]; omega, fun x hx hm => ?_⟩ (hi2.keep (by show H2.next ≤ H2.next; omega) fun x hx => by simp only [Kh] at hx; simp(maxSteps:=9999999)(disch:=first|omega|(simp only[AN];omega))only[↓KP,EK,↓reduceIte,reduceCtorEq,Nat.reduceEqDiff,Nat.reduceAdd,Nat.reduceLeDiff,Nat.reduceMul]).held
    by_cases hxN : x < N
    · have := hi2.base x hxN hm
      rw [base x hx] at this
      simp(maxSteps:=9999999)(disch:=first|omega|(simp only[AN];omega))only[↓KP,EK,↓reduceIte,reduceCtorEq,Nat.reduceEqDiff,Nat.reduceAdd,Nat.reduceLeDiff,Nat.reduceMul]
      exact this
    · have := h7 x (by omega) hx
      simp(maxSteps:=9999999)(disch:=first|omega|(simp only[AN];omega))only[↓KP,EK,↓reduceIte,reduceCtorEq,Nat.reduceEqDiff,Nat.reduceAdd,Nat.reduceLeDiff,Nat.reduceMul]
      exact this
  · intro x H2 _ _ _ h; exact h.elim
theorem betweenE_err {h : House} {a b : Int} : enterErr h [a, h.ws.length, b, h.ws.length] 0 = if pairErr h a b ≠ 0 then pairErr h a b else if truthsE h = [] then 8 else 0 := by
  unfold enterErr pairErr indexE
  by_cases he : errE h = 0
  · have hp : (pairsOff [a, (h.ws.length : Int), b, h.ws.length] = true) ↔ ¬ (0 ≤ a ∧ a ≤ (h.ws.length : Int) - 1) ∨ ¬ (0 ≤ b ∧ b ≤ (h.ws.length : Int) - 1) := by
      simp only [pairsOff, offP, Bool.or_false, Bool.or_eq_true, decide_eq_true_eq]; omega
    simp only [he, ne_eq, not_true, if_false, if_true]
    by_cases hw : 0 ≤ a ∧ a ≤ (h.ws.length : Int) - 1
    · by_cases hw2 : 0 ≤ b ∧ b ≤ (h.ws.length : Int) - 1
      · rw [if_neg (fun e => by rcases hp.1 e with h1 | h1; exact h1 hw; exact h1 hw2)]; simp [hw, hw2]
      · rw [if_pos (hp.2 (.inr hw2))]; simp [hw, hw2]
    · rw [if_pos (hp.2 (.inl hw))]; simp [hw]
  · simp [he]
theorem four_slice (H : AH) (x y z w : Int) : IsInts (Old (H.alloc (.cells false [I x, I y, I z, I w]))) (H.alloc (.cells false [I x, I y, I z, I w])) (.slice H.next 0 4 1) [x, y, z, w] :=
  .inr ⟨_, _, [I x, I y, I z, I w], rfl, (by show H.next < H.next + 1; omega), by simp [AH.read, get_alloc_new, readN], Rows.cons (cs := [I x]) rfl rfl (Rows.cons (cs := [I y]) rfl rfl (Rows.cons (cs := [I z]) rfl rfl (Rows.single rfl rfl)))⟩
theorem pBetween_run (v1 v2 : AV) (h : House) (a b : Int) (hh : IsHouse (Old H) H v1 v2 h) (hs : Sized h)
    (k : ∀ H', Grew H H' → R (.tuple [.agg [I (betweenE h a b).1.1.1, I (betweenE h a b).1.1.2], .agg [I (betweenE h a b).1.2.1, I (betweenE h a b).1.2.2], I (betweenE h a b).2]) H') : CallQ prog (.func 25 [] []) [.agg [v1, v2], I a, I b] H R := by
  have hbE : betweenE h a b = if enterErr h [a, h.ws.length, b, h.ws.length] 0 ≠ 0 then (((0, 0), (0, 0)), enterErr h [a, h.ws.length, b, h.ws.length] 0) else (quotE (quotsOf (truthsE h) a.toNat b.toNat), 0) := by
    rw [betweenE_err, betweenE]
    by_cases h1 : pairErr h a b = 0
    · by_cases h2 : truthsE h = []
      · simp [h1, h2]
      · simp [h1, h2]
    · simp [h1]
  have hg0 : Grew H ((((H.alloc (.cells false [v1, v2])).alloc (.cells false [I 0, I 0])).alloc (.cells false [I 0, I 0])).alloc (.cells false [I a, I h.ws.length, I b, I h.ws.length])) := GW
  refine CallQ_enter (fn:=c25) rfl (Nat.le_of_ble_eq_true rfl) ?_;simp(maxSteps:=9999999)(disch:=first|omega|(simp only[AN];omega))only[c25,envFrom,hh.1.len,↓KP,EK,↓reduceIte,reduceCtorEq,Nat.reduceEqDiff,Nat.reduceAdd,Nat.reduceLeDiff,Nat.reduceMul]
  refine C_call (enter_run v1 v2 _ _ h [a, h.ws.length, b, h.ws.length] 0 (hh.grow hg0) (four_slice _ _ _ _ _) (by simp) (fun j hj hodd => ?_) rfl (fun _ _ H1 R _ hk => fine_run (hk _ (Grew.refl _))) (fun he H1 hg => ?_) (fun he hfine hne H1 N p m hg hm hheld => ?_))
  · have : j = 1 ∨ j = 3 := by simp at hj; omega
    have := hs.ws
    rcases ‹j = 1 ∨ j = 3› with rfl | rfl <;> (simp only [List.getElem_cons_succ, List.getElem_cons_zero]; omega)
  · have hgn := hg.next; simp only [AH.next_alloc] at hgn
    simp(maxSteps:=9999999)(disch:=first|omega|(simp only[AN];omega))only[he,hg.get,↓KP,EK,↓reduceIte,reduceCtorEq,Nat.reduceEqDiff,Nat.reduceAdd,Nat.reduceLeDiff,Nat.reduceMul]
    refine K_draw ?_;simp(maxSteps:=9999999)(disch:=first|omega|(simp only[AN];omega))only[hg.get,↓KP,EK,↓reduceIte,reduceCtorEq,Nat.reduceEqDiff,Nat.reduceAdd,Nat.reduceLeDiff,Nat.reduceMul]
    rw [hbE, if_pos he] at k
    refine k _ ?_
    exact GW
  · have hgn := hg.next; simp only [AH.next_alloc] at hgn
    rw [hbE, if_neg (by omega)] at k
    simp only [AH.next_alloc] at hm
    have hw : (0 ≤ a ∧ a ≤ (h.ws.length : Int) - 1) ∧ (0 ≤ b ∧ b ≤ (h.ws.length : Int) - 1) := by
      rw [betweenE_err] at he
      by_cases h1 : pairErr h a b = 0
      · unfold pairErr at h1
        by_cases h2 : indexE h a h.ws.length = 0
        · rw [if_neg (by omega)] at h1
          have := indexE_zero h1
          have := indexE_zero h2
          omega
        · rw [if_pos h2] at h1; omega
      · simp [h1] at he
    obtain ⟨a', rfl⟩ : ∃ a' : Nat, a = a' := ⟨a.toNat, by omega⟩
    obtain ⟨b', rfl⟩ : ∃ b' : Nat, b = b' := ⟨b.toNat, by omega⟩
    simp(maxSteps:=9999999)(disch:=first|omega|(simp only[AN];omega))only[hg.get,↓KP,EK,↓reduceIte,reduceCtorEq,Nat.reduceEqDiff,Nat.reduceAdd,Nat.reduceLeDiff,Nat.reduceMul]
    refine C_call (between_run a' b' hfine (by omega) hheld (by omega) (by omega) fun H2 hg2 hh2 => ?_)
    have hg2' : Grew H H2 := GrewBut.grew (hg0.trans hg) hg2 (by omega)
    have hg2n := hg2.next
    have e6 : H2.get (H.next + 1) = some (.cells false [I 0, I 0]) := by rw [hg2.get _ (by omega) (by omega)]; simp(maxSteps:=9999999)(disch:=first|omega|(simp only[AN];omega))only[hg.get,↓KP,EK,↓reduceIte,reduceCtorEq,Nat.reduceEqDiff,Nat.reduceAdd,Nat.reduceLeDiff,Nat.reduceMul]
    have e7 : H2.get (H.next + 1 + 1) = some (.cells false [I 0, I 0]) := by rw [hg2.get _ (by omega) (by omega)]; simp(maxSteps:=9999999)(disch:=first|omega|(simp only[AN];omega))only[hg.get,↓KP,EK,↓reduceIte,reduceCtorEq,Nat.reduceEqDiff,Nat.reduceAdd,Nat.reduceLeDiff,Nat.reduceMul]
    rw [lookE_zero]
    simp(maxSteps:=9999999)(disch:=first|omega|(simp only[AN];omega))only[e6,e7,↓KP,EK,↓reduceIte,reduceCtorEq,Nat.reduceEqDiff,Nat.reduceAdd,Nat.reduceLeDiff,Nat.reduceMul]
    refine K_draw ?_;simp(maxSteps:=9999999)(disch:=first|omega|(simp only[AN];omega))only[e6,e7,↓KP,EK,↓reduceIte,reduceCtorEq,Nat.reduceEqDiff,Nat.reduceAdd,Nat.reduceLeDiff,Nat.reduceMul]
    refine k _ ?_
    exact GW
end Go.Proofs.Ytgncpbkedhchfaa
