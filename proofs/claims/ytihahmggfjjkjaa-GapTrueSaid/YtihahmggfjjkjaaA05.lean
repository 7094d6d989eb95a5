/- If what was filled is such as any truth makes it nothing is denied -/
import Derived.OrdersIn
import Derived.Test.YtihahmggfjjkjaaA02
import Derived.Test.YtihahmggfjjkjaaA03
import Derived.Test.YtihahmggfjjkjaaA04
set_option linter.unusedVariables false
set_option linter.unusedSimpArgs false
namespace Go.Proofs.Ytihahmggfjjkjaa
open Go.AM Go.IntWalk Go.PL
set_option maxRecDepth 100000
set_option maxHeartbeats 4000000
set_option linter.unusedSimpArgs false
variable {H : AH} {R : AV → AH → Prop}
variable {p m : Nat} {vl vg vf : AV} {s : Series} {but : Nat}
theorem eq8 (f g : Nat → Int) : ∃ b, eqFlatA true [.i, .i, .i, .i, .i, .i, .i, .i] (.agg (arr8 f)) (.agg (arr8 g)) = some b ∧ (b = true → ∀ d, d < 8 → f d = g d) := by
  refine ⟨((f 0 == g 0) && ((f 1 == g 1) && ((f 2 == g 2) && ((f 3 == g 3) && ((f 4 == g 4) && ((f 5 == g 5) && ((f 6 == g 6) && ((f 7 == g 7) && true)))))))), by simp [eqFlatA, eqCells, arr8], fun h => ?_⟩
  simp only [Bool.and_eq_true, beq_iff_eq, and_true] at h
  obtain ⟨h0, h1, h2, h3, h4, h5, h6, h7⟩ := h
  intro d hd
  have : d = 0 ∨ d = 1 ∨ d = 2 ∨ d = 3 ∨ d = 4 ∨ d = 5 ∨ d = 6 ∨ d = 7 := by omega
  rcases this with rfl | rfl | rfl | rfl | rfl | rfl | rfl | rfl <;> assumption
theorem numE_snoc {ts : List Truth} {t : Truth} {d : Int} (h : ts ≠ []) : numE (ts ++ [t]) d = (min (numE ts d).1 (onE t d), max (numE ts d).2 (onE t d)) := by
  unfold numE
  cases ts with
  | nil => exact absurd rfl h
  | cons a l => simp [hull, hullFrom, List.foldl_append, join, Int.min_comm, Int.max_comm]
theorem numE_one {t : Truth} {d : Int} : numE [t] d = (onE t d, onE t d) := rfl
def OpenY (T : List Truth) (b : Nat) (n : Nat) (H2 : AH) : Prop :=
  ∃ f g : Nat → Int, H2.get b = some (.cells false (arr8 f)) ∧ H2.get (b + 1) = some (.cells false (arr8 g)) ∧ H2.get (b + 1 + 1) = some (.cells false [.bool (decide (n = 0))]) ∧
    (n ≠ 0 → ∀ d : Nat, d < 8 → f d = (numE (T.take n) d).1 ∧ g d = (numE (T.take n) d).2)
theorem Open_run (vl vg vf : AV) (s : Series) (hh : IsSer (Old H) H vl vg vf s) (hs : Sized s)
    (k : ∀ H', Grew H H' → R (.tuple [I (openE s).1, I (openE s).2.1, I (openE s).2.2]) H') : CallQ prog (.func 30 [] []) [serArg vl vg vf s] H R := by
  have hlen : (s.looked.length : Int) = s.len := rfl
  refine CallQ_enter (fn:=c30) rfl (Nat.le_of_ble_eq_true rfl) ?_;simp(maxSteps:=9999999)(disch:=first|omega|(simp only[AN];omega))only[c30,envFrom,hh.l.isCell,hh.g.isCell,hh.f.isCell,↓KP,EN,↓reduceIte,reduceCtorEq,Nat.reduceEqDiff,Nat.reduceAdd,Nat.reduceLeDiff,Nat.reduceMul]
  first|refine C_call ?_|refine C_calld ?_
  refine enter_run vl vg vf _ s [] (hh.grow GW) hs (.inl ⟨rfl, rfl⟩) (by simp) (fun j hj => by simp at hj) (fun he H1 hg1 => ?_) (fun he hfine ht H1 p m hg1 hm hheld => ?_)
  · have hg1n := hg1.next
    rw [openE] at k
    simp(maxSteps:=9999999)(disch:=first|omega|(simp only[AN];omega))only[he,↓KP,EN,↓reduceIte,reduceCtorEq,Nat.reduceEqDiff,Nat.reduceAdd,Nat.reduceLeDiff,Nat.reduceMul]
    rw [enter0_err] at he ⊢
    by_cases h1 : errE s ≠ 0
    · rw [if_pos h1] at he k ⊢
      exact k _ GW
    · rw [if_neg h1] at he k ⊢
      by_cases h2 : truthsE s [] = []
      · rw [if_pos h2] at he k ⊢
        exact k _ GW
      · rw [if_neg h2] at he
        exact absurd rfl he
  · have h1 : errE s = 0 := by
      rw [enter0_err] at he
      by_cases h1 : errE s ≠ 0
      · rw [if_pos h1] at he; exact absurd he h1
      · exact Classical.not_not.1 h1
    have hg1n := hg1.next; simp only [AN] at hg1n
    simp only [AN] at hm
    have hg0 : Grew H H1 := Grew.trans GW hg1
    have hg3 := hfine.gl
    have hl8 := hfine.len.2
    have hml := hheld.mlt
    have b1 : H1.get H.next = some (.cells false [vl, I s.lo, I s.hi, vg, .bool s.unseen, vf]) := by simp(maxSteps:=9999999)(disch:=first|omega|(simp only[AN];omega))only[hg1.get,↓KP,EN,↓reduceIte,reduceCtorEq,Nat.reduceEqDiff,Nat.reduceAdd,Nat.reduceLeDiff,Nat.reduceMul]
    rw [openE, if_neg (fun h => h h1), if_neg ht] at k
    simp(maxSteps:=9999999)(disch:=first|omega|(simp only[AN];omega))only[↓KP,EN,↓reduceIte,reduceCtorEq,Nat.reduceEqDiff,Nat.reduceAdd,Nat.reduceLeDiff,Nat.reduceMul]
    first|refine C_call ?_|refine C_calld ?_
    refine truths_run p ?_
    simp(maxSteps:=9999999)(disch:=first|omega|(simp only[AN];omega))only[↓KP,EN,↓reduceIte,reduceCtorEq,Nat.reduceEqDiff,Nat.reduceAdd,Nat.reduceLeDiff,Nat.reduceMul]
    generalize hB : ((((H1.alloc (.cells false [I 0, I 0, I 0, I 0, I 0, I 0, I 0, I 0])).alloc (.cells false [I 0, I 0, I 0, I 0, I 0, I 0, I 0, I 0])).alloc (.cells false [.bool false])).set (H1.next + 1 + 1) (.cells false [.bool true])).alloc (.cells false [.ptr p 0]) = B
    have hgB : Grew H1 B := by rw [← hB]; exact GW
    have hr1 := hheld.up hgB
    have e0 : OpenY (truthsE s []) H1.next 0 B := ⟨fun _ => 0, fun _ => 0, by rw [← hB]; simp(maxSteps:=9999999)(disch:=first|omega|(simp only[AN];omega))only[↓KP,EN,↓reduceIte,reduceCtorEq,Nat.reduceEqDiff,Nat.reduceAdd,Nat.reduceLeDiff,Nat.reduceMul]; rfl, by rw [← hB]; simp(maxSteps:=9999999)(disch:=first|omega|(simp only[AN];omega))only[↓KP,EN,↓reduceIte,reduceCtorEq,Nat.reduceEqDiff,Nat.reduceAdd,Nat.reduceLeDiff,Nat.reduceMul]; rfl, by rw [← hB]; simp(maxSteps:=9999999)(disch:=first|omega|(simp only[AN];omega))only[↓KP,EN,↓reduceIte,reduceCtorEq,Nat.reduceEqDiff,Nat.reduceAdd,Nat.reduceLeDiff,Nat.reduceMul], fun h => absurd rfl h⟩
    have e3 : B.get (H1.next + 1 + 1 + 1) = some (.cells false [.ptr p 0]) := by rw [← hB]; simp(maxSteps:=9999999)(disch:=first|omega|(simp only[AN];omega))only[↓KP,EN,↓reduceIte,reduceCtorEq,Nat.reduceEqDiff,Nat.reduceAdd,Nat.reduceLeDiff,Nat.reduceMul]
    have hBn : B.next = H1.next + 1 + 1 + 1 + 1 := by rw [← hB]; rfl
    clear hB
    have hi := hr1.inv (B := B) (bh := H1.next + 1 + 1 + 1) (fun _ _ _ => rfl) (by omega) e3 (by omega)
    have hTz := truthsB_zero hfine
    have hml3 : ∀ t ∈ truthsE s [], t.1.length ≤ 3 := fun t htm => by rw [truthsE_mem htm]; omega
    generalize truthsE s [] = T at *
    refine K_iter2 (L := yields s 0) (K := Kh H1.next (H1.next + 1 + 1 + 1)) (Inv := Inv H1.next p m (H1.next + 1 + 1 + 1) vl vg vf s 0 B) (J := fun l => Jn H1.next p m (H1.next + 1 + 1 + 1) (fun b => l < b) vl vg vf s 0 B) rfl (truths_iter hfine (by omega)) hi (fun a ha => ?_)
      (fun done H2 => OpenY T H1.next done.length H2) (fun x H2 => False) ?_ ?_ ?_ ?_ ?_ ?_
    · obtain ⟨t, _, rfl⟩ := List.mem_map.1 ha; rfl
    · rintro done H2 H3 hn hs' ⟨f, g, h1, h2, h3, h4⟩
      exact ⟨f, g, by rw [hs' _ (by simp only [Kh]; omega) (by omega)]; exact h1, by rw [hs' _ (by simp only [Kh]; omega) (by omega)]; exact h2, by rw [hs' _ (by simp only [Kh]; omega) (by omega)]; exact h3, h4⟩
    · intro x H2 H3 _ _ h; exact h
    · exact e0
    · rintro done a rest H2 hL hlt hj ⟨f, g, h1, h2, h3, h4⟩ hlo
      rw [yields, hTz] at hL
      obtain ⟨hi', rfl⟩ := hand hL
      have htl := hml3 _ (List.getElem_mem hi')
      have hon := fun d => cnt_on htl d
      have htk : T.take (done.length + 1) = T.take done.length ++ [T[done.length]] := List.take_succ_eq_append_getElem hi'
      generalize T[done.length] = t at *
      simp only [arr8] at h1 h2
      simp(maxSteps:=9999999)(disch:=first|omega|(simp only[AN];omega))only[K8,hlo,argT,arr8,h1,h2,h3,↓KP,EN,↓reduceIte,reduceCtorEq,Nat.reduceEqDiff,Nat.reduceAdd,Nat.reduceLeDiff,Nat.reduceMul]
      by_cases hn0 : done.length = 0
      · have hT1 : T.take (done.length + 1) = [t] := by rw [htk, hn0]; rfl
        have hU : ∀ d : Nat, d < 8 → min (cntE (sp t) d) (cntE (sp t) d) = (numE (T.take (done.length + 1)) d).1 ∧ max (cntE (sp t) d) (cntE (sp t) d) = (numE (T.take (done.length + 1)) d).2 := fun d hd => by
          rw [hT1, numE_one, hon d, Int.min_self, Int.max_self]; exact ⟨rfl, rfl⟩
        have hle : ∀ d : Nat, d < 8 → cntE (sp t) d ≤ cntE (sp t) d := fun d _ => by omega
        simp(maxSteps:=9999999)(disch:=first|omega|(simp only[AN];omega))only[eq_true hn0,↓KP,EN,↓reduceIte,reduceCtorEq,Nat.reduceEqDiff,Nat.reduceAdd,Nat.reduceLeDiff,Nat.reduceMul]
        refine K_draw ?_
        simp(maxSteps:=9999999)(disch:=first|omega|(simp only[AN];omega))only[↓KP,EN,↓reduceIte,reduceCtorEq,Nat.reduceEqDiff,Nat.reduceAdd,Nat.reduceLeDiff,Nat.reduceMul]
        obtain ⟨b, hq, hqt⟩ := eq8 (cntE (sp t)) (cntE (sp t))
        simp only [arr8] at hq
        simp(maxSteps:=9999999)(disch:=first|omega|(simp only[AN];omega))only[h1,h2,h3,hq,↓KP,EN,↓reduceIte,reduceCtorEq,Nat.reduceEqDiff,Nat.reduceAdd,Nat.reduceLeDiff,Nat.reduceMul]
        cases b with
        | true =>
          have hcf := hqt rfl
          simp(maxSteps:=9999999)(disch:=first|omega|(simp only[AN];omega))only[↓KP,EN,↓reduceIte,reduceCtorEq,Nat.reduceEqDiff,Nat.reduceAdd,Nat.reduceLeDiff,Nat.reduceMul]
          refine K_bod ⟨?_, ⟨?_, fun b hb hc => ?_⟩, ?_⟩
          · simp(maxSteps:=9999999)(disch:=first|omega|(simp only[AN];omega))only[↓KP,EN,↓reduceIte,reduceCtorEq,Nat.reduceEqDiff,Nat.reduceAdd,Nat.reduceLeDiff,Nat.reduceMul]
          · first | omega | (simp(maxSteps:=9999999)(disch:=first|omega|(simp only[AN];omega))only[↓KP,EN,↓reduceIte,reduceCtorEq,Nat.reduceEqDiff,Nat.reduceAdd,Nat.reduceLeDiff,Nat.reduceMul]; omega)
          · simp only [Kh] at hc; simp(maxSteps:=9999999)(disch:=first|omega|(simp only[AN];omega))only[↓KP,EN,↓reduceIte,reduceCtorEq,Nat.reduceEqDiff,Nat.reduceAdd,Nat.reduceLeDiff,Nat.reduceMul]
          · refine ⟨(cntE (sp t)), (cntE (sp t)), by simp(maxSteps:=9999999)(disch:=first|omega|(simp only[AN];omega))only[h1,↓KP,EN,↓reduceIte,reduceCtorEq,Nat.reduceEqDiff,Nat.reduceAdd,Nat.reduceLeDiff,Nat.reduceMul]; rfl, by simp(maxSteps:=9999999)(disch:=first|omega|(simp only[AN];omega))only[h2,↓KP,EN,↓reduceIte,reduceCtorEq,Nat.reduceEqDiff,Nat.reduceAdd,Nat.reduceLeDiff,Nat.reduceMul]; rfl, ?_, fun _ d hd => ?_⟩
            · simp(maxSteps:=9999999)(disch:=first|omega|(simp only[AN];omega))only[h3,↓KP,EN,↓reduceIte,reduceCtorEq,Nat.reduceEqDiff,Nat.reduceAdd,Nat.reduceLeDiff,Nat.reduceMul]
              simp
            · have u := hU d hd
              have v := hle d hd
              have w := hcf d hd
              simp only [List.length_append, List.length_singleton]
              omega
        | false =>
          simp(maxSteps:=9999999)(disch:=first|omega|(simp only[AN];omega))only[↓KP,EN,↓reduceIte,reduceCtorEq,Nat.reduceEqDiff,Nat.reduceAdd,Nat.reduceLeDiff,Nat.reduceMul]
          generalize hHb : AH.set _ _ _ = Hb
          have q1 : Hb.get H1.next = some (.cells false (arr8 (cntE (sp t)))) := by rw [← hHb]; simp(maxSteps:=9999999)(disch:=first|omega|(simp only[AN];omega))only[h1,↓KP,EN,↓reduceIte,reduceCtorEq,Nat.reduceEqDiff,Nat.reduceAdd,Nat.reduceLeDiff,Nat.reduceMul]; rfl
          have q2 : Hb.get (H1.next + 1) = some (.cells false (arr8 (cntE (sp t)))) := by rw [← hHb]; simp(maxSteps:=9999999)(disch:=first|omega|(simp only[AN];omega))only[h2,↓KP,EN,↓reduceIte,reduceCtorEq,Nat.reduceEqDiff,Nat.reduceAdd,Nat.reduceLeDiff,Nat.reduceMul]; rfl
          have q3 : Hb.get (H1.next + 1 + 1) = some (.cells false [.bool false]) := by rw [← hHb]; simp(maxSteps:=9999999)(disch:=first|omega|(simp only[AN];omega))only[h3,↓KP,EN,↓reduceIte,reduceCtorEq,Nat.reduceEqDiff,Nat.reduceAdd,Nat.reduceLeDiff,Nat.reduceMul]
          have q4 : Hb.get H2.next = some (.cells false (arr8 (cntE (sp t)))) := by rw [← hHb]; simp(maxSteps:=9999999)(disch:=first|omega|(simp only[AN];omega))only[↓KP,EN,↓reduceIte,reduceCtorEq,Nat.reduceEqDiff,Nat.reduceAdd,Nat.reduceLeDiff,Nat.reduceMul]; rfl
          have q5 := congrArg (·.get B.next) hHb
          try simp only [] at q5
          simp(maxSteps:=9999999)(disch:=first|omega|(simp only[AN];omega))only[↓KP,EN,↓reduceIte,reduceCtorEq,Nat.reduceEqDiff,Nat.reduceAdd,Nat.reduceLeDiff,Nat.reduceMul] at q5
          have q6 : Hb.next = H2.next + 1 := by rw [← hHb]; rfl
          have q7 : ∀ b, b < H2.next → (Kh H1.next (H1.next + 1 + 1 + 1) b ∨ B.next < b) → Hb.get b = H2.get b := fun b hb hc => by
            simp only [Kh] at hc
            rw [← hHb]; simp(maxSteps:=9999999)(disch:=first|omega|(simp only[AN];omega))only[↓KP,EN,↓reduceIte,reduceCtorEq,Nat.reduceEqDiff,Nat.reduceAdd,Nat.reduceLeDiff,Nat.reduceMul]
          clear hHb
          refine K_loop (fun mz ez H4 => ∃ (d : Nat) (tail : Env), ez = (0, serArg vl vg vf s) :: (1, .ptr H.next 0) :: (2, I 0) :: (3, I 0) :: (4, I 0) :: tail ∧ (tail.get 6 = some (.ptr H1.next 0)) ∧ (tail.get 7 = some (.ptr (H1.next + 1) 0)) ∧ (tail.get 10 = some (.ptr H2.next 0)) ∧ (tail.get 32 = some (I d)) ∧ (d ≤ 8) ∧ (H4.next = Hb.next) ∧ (H4.get H1.next = some (.cells false (arr8 fun e => if e < d then min ((cntE (sp t)) e) (cntE (sp t) e) else (cntE (sp t)) e))) ∧ (H4.get (H1.next + 1) = some (.cells false (arr8 fun e => if e < d then max ((cntE (sp t)) e) (cntE (sp t) e) else (cntE (sp t)) e))) ∧ (∀ b, b ≠ H1.next → b ≠ H1.next + 1 → H4.get b = Hb.get b) ∧ mz = 8 - d) _ ⟨0, _, rfl, ?_, ?_, ?_, ?_, ?_, ?_, (by rw [q1]; congr 2), (by rw [q2]; congr 2), (by intro _ _ _; rfl), rfl⟩ ?_
          iterate 6 (focus (first|(with_reducible rfl)|omega|(with_reducible(repeat first|exact Grew.refl _|assumption|apply Grew.alloc|refine Grew.set ?_ _ (by first|omega|(simp only[AN];omega)));done)|(simp(maxSteps:=9999999)(disch:=first|omega|(simp only[AN];omega))only[↓KP,EN,↓reduceIte,reduceCtorEq,Nat.reduceEqDiff,Nat.reduceAdd,Nat.reduceLeDiff,Nat.reduceMul]<;>first|omega|rfl)|(simp;done)|rfl))
          rintro mz ez H4 ⟨d, tail, rfl, t6, t7, t10, t32, hd, r0, r1, r2, r3, hmz⟩; subst mz
          simp(maxSteps:=9999999)(disch:=first|omega|(simp only[AN];omega))only[t32,↓KP,EN,↓reduceIte,reduceCtorEq,Nat.reduceEqDiff,Nat.reduceAdd,Nat.reduceLeDiff,Nat.reduceMul]
          refine C_decide (fun hc => ?_) (fun hc => ?_)
          · have hd8 : d < 8 := by omega
            have ix1 := idx8 H1.next (n := (d : Int)) rfl hd8
            have ix2 := idx8 (H1.next + 1) (n := (d : Int)) rfl hd8
            have ix3 := idx8 H2.next (n := (d : Int)) rfl hd8
            have a1 := arr8_get (f := fun e => if e < d then min ((cntE (sp t)) e) (cntE (sp t) e) else (cntE (sp t)) e) hd8
            have a2 := arr8_get (f := fun e => if e < d then max ((cntE (sp t)) e) (cntE (sp t) e) else (cntE (sp t)) e) hd8
            have a3 := arr8_get (f := cntE (sp t)) hd8
            simp only [if_neg (Nat.lt_irrefl d)] at a1 a2
            have s1 := arr8_set (f := fun e => if e < d then min ((cntE (sp t)) e) (cntE (sp t) e) else (cntE (sp t)) e) hd8 (min ((cntE (sp t)) d) (cntE (sp t) d))
            have s2 := arr8_set (f := fun e => if e < d then max ((cntE (sp t)) e) (cntE (sp t) e) else (cntE (sp t)) e) hd8 (max ((cntE (sp t)) d) (cntE (sp t) d))
            have hn1 : (arr8 fun e => if e = d then min ((cntE (sp t)) d) (cntE (sp t) d) else if e < d then min ((cntE (sp t)) e) (cntE (sp t) e) else (cntE (sp t)) e) = arr8 fun e => if e < d + 1 then min ((cntE (sp t)) e) (cntE (sp t) e) else (cntE (sp t)) e := arr8_congr fun e _ => by
              by_cases h : e = d
              · subst h; rw [if_pos rfl, if_pos (by omega)]
              · rw [if_neg h]
                by_cases h2 : e < d
                · rw [if_pos h2, if_pos (by omega)]
                · rw [if_neg h2, if_neg (by omega)]
            have hn2 : (arr8 fun e => if e = d then max ((cntE (sp t)) d) (cntE (sp t) d) else if e < d then max ((cntE (sp t)) e) (cntE (sp t) e) else (cntE (sp t)) e) = arr8 fun e => if e < d + 1 then max ((cntE (sp t)) e) (cntE (sp t) e) else (cntE (sp t)) e := arr8_congr fun e _ => by
              by_cases h : e = d
              · subst h; rw [if_pos rfl, if_pos (by omega)]
              · rw [if_neg h]
                by_cases h2 : e < d
                · rw [if_pos h2, if_pos (by omega)]
                · rw [if_neg h2, if_neg (by omega)]
            rw [hn1] at s1
            rw [hn2] at s2
            have e1 : IntKind.i64.wrap ((d : Int) + 1) = ((d + 1 : Nat) : Int) := i64_in _ (by omega)
            have q4' : H4.get H2.next = some (.cells false (arr8 (cntE (sp t)))) := by rw [r3 _ (by omega) (by omega)]; exact q4
            simp(maxSteps:=9999999)(disch:=first|omega|(simp only[AN];omega))only[t32,↓KP,EN,↓reduceIte,reduceCtorEq,Nat.reduceEqDiff,Nat.reduceAdd,Nat.reduceLeDiff,Nat.reduceMul]
            refine K_draw ?_
            simp(maxSteps:=9999999)(disch:=first|omega|(simp only[AN];omega))only[t6,t7,t10,t32,ix1,ix2,ix3,a1,a2,a3,r1,r2,q4',s1,s2,e1,↓KP,EN,↓reduceIte,reduceCtorEq,Nat.reduceEqDiff,Nat.reduceAdd,Nat.reduceLeDiff,Nat.reduceMul]
            refine ⟨_, ?_, d + 1, _, rfl, ?_, ?_, ?_, ?_, ?_, ?_, ?_, ?_, (by intro b hb1 hb2; simp(maxSteps:=9999999)(disch:=first|omega|(simp only[AN];omega))only[r3 b hb1 hb2,↓KP,EN,↓reduceIte,reduceCtorEq,Nat.reduceEqDiff,Nat.reduceAdd,Nat.reduceLeDiff,Nat.reduceMul]), rfl⟩ <;> (first|omega|(with_reducible assumption)|(with_reducible(repeat first|exact Grew.refl _|assumption|apply Grew.alloc|refine Grew.set ?_ _ (by first|omega|(simp only[AN];omega)));done)|(simp(maxSteps:=9999999)(disch:=first|omega|(simp only[AN];omega))only[t6,t7,t10,↓KP,EN,↓reduceIte,reduceCtorEq,Nat.reduceEqDiff,Nat.reduceAdd,Nat.reduceLeDiff,Nat.reduceMul]<;>first|omega|rfl))
          · have hde : d = 8 := by omega
            subst hde
            simp(maxSteps:=9999999)(disch:=first|omega|(simp only[AN];omega))only[↓KP,EN,↓reduceIte,reduceCtorEq,Nat.reduceEqDiff,Nat.reduceAdd,Nat.reduceLeDiff,Nat.reduceMul]
            refine K_bod ⟨?_, ⟨?_, fun b hb hc => ?_⟩, ?_⟩
            · rw [r3 _ (by omega) (by omega)]; exact q5.symm
            · omega
            · rw [r3 b (by simp only [Kh] at hc; omega) (by simp only [Kh] at hc; omega)]; exact q7 b hb hc
            · refine ⟨fun e => min ((cntE (sp t)) e) (cntE (sp t) e), fun e => max ((cntE (sp t)) e) (cntE (sp t) e), ?_, ?_, ?_, fun _ d hd => ?_⟩
              · rw [r1]; congr 2
              · rw [r2]; congr 2
              · rw [r3 _ (by omega) (by omega), q3]
                simp
              · have u := hU d hd
                simp only [List.length_append, List.length_singleton]
                exact u
      · have hne : T.take done.length ≠ [] := fun e => by have := congrArg List.length e; simp only [List.length_take, List.length_nil] at this; omega
        have hU : ∀ d : Nat, d < 8 → min (f d) (cntE (sp t) d) = (numE (T.take (done.length + 1)) d).1 ∧ max (g d) (cntE (sp t) d) = (numE (T.take (done.length + 1)) d).2 := fun d hd => by
          rw [htk, numE_snoc hne, hon d, (h4 hn0 d hd).1, (h4 hn0 d hd).2]; exact ⟨rfl, rfl⟩
        have hle : ∀ d : Nat, d < 8 → f d ≤ g d := fun d hd => by
          rw [(h4 hn0 d hd).1, (h4 hn0 d hd).2]
          exact (numE_bound hne fun t ht => by have := hml3 t (List.mem_of_mem_take ht); omega).2.1
        rw [decide_eq_false hn0] at h3
        simp(maxSteps:=9999999)(disch:=first|omega|(simp only[AN];omega))only[hn0,h3,↓KP,EN,↓reduceIte,reduceCtorEq,Nat.reduceEqDiff,Nat.reduceAdd,Nat.reduceLeDiff,Nat.reduceMul]
        obtain ⟨b, hq, hqt⟩ := eq8 (cntE (sp t)) f
        simp only [arr8] at hq
        simp(maxSteps:=9999999)(disch:=first|omega|(simp only[AN];omega))only[h1,h2,h3,hq,↓KP,EN,↓reduceIte,reduceCtorEq,Nat.reduceEqDiff,Nat.reduceAdd,Nat.reduceLeDiff,Nat.reduceMul]
        cases b with
        | true =>
          have hcf := hqt rfl
          simp(maxSteps:=9999999)(disch:=first|omega|(simp only[AN];omega))only[↓KP,EN,↓reduceIte,reduceCtorEq,Nat.reduceEqDiff,Nat.reduceAdd,Nat.reduceLeDiff,Nat.reduceMul]
          refine K_bod ⟨?_, ⟨?_, fun b hb hc => ?_⟩, ?_⟩
          · simp(maxSteps:=9999999)(disch:=first|omega|(simp only[AN];omega))only[↓KP,EN,↓reduceIte,reduceCtorEq,Nat.reduceEqDiff,Nat.reduceAdd,Nat.reduceLeDiff,Nat.reduceMul]
          · first | omega | (simp(maxSteps:=9999999)(disch:=first|omega|(simp only[AN];omega))only[↓KP,EN,↓reduceIte,reduceCtorEq,Nat.reduceEqDiff,Nat.reduceAdd,Nat.reduceLeDiff,Nat.reduceMul]; omega)
          · simp only [Kh] at hc; simp(maxSteps:=9999999)(disch:=first|omega|(simp only[AN];omega))only[↓KP,EN,↓reduceIte,reduceCtorEq,Nat.reduceEqDiff,Nat.reduceAdd,Nat.reduceLeDiff,Nat.reduceMul]
          · refine ⟨f, g, by simp(maxSteps:=9999999)(disch:=first|omega|(simp only[AN];omega))only[h1,↓KP,EN,↓reduceIte,reduceCtorEq,Nat.reduceEqDiff,Nat.reduceAdd,Nat.reduceLeDiff,Nat.reduceMul]; rfl, by simp(maxSteps:=9999999)(disch:=first|omega|(simp only[AN];omega))only[h2,↓KP,EN,↓reduceIte,reduceCtorEq,Nat.reduceEqDiff,Nat.reduceAdd,Nat.reduceLeDiff,Nat.reduceMul]; rfl, ?_, fun _ d hd => ?_⟩
            · simp(maxSteps:=9999999)(disch:=first|omega|(simp only[AN];omega))only[h3,↓KP,EN,↓reduceIte,reduceCtorEq,Nat.reduceEqDiff,Nat.reduceAdd,Nat.reduceLeDiff,Nat.reduceMul]
              simp
            · have u := hU d hd
              have v := hle d hd
              have w := hcf d hd
              simp only [List.length_append, List.length_singleton]
              omega
        | false =>
          simp(maxSteps:=9999999)(disch:=first|omega|(simp only[AN];omega))only[↓KP,EN,↓reduceIte,reduceCtorEq,Nat.reduceEqDiff,Nat.reduceAdd,Nat.reduceLeDiff,Nat.reduceMul]
          generalize hHb : AH.set _ _ _ = Hb
          have q1 : Hb.get H1.next = some (.cells false (arr8 f)) := by rw [← hHb]; simp(maxSteps:=9999999)(disch:=first|omega|(simp only[AN];omega))only[h1,↓KP,EN,↓reduceIte,reduceCtorEq,Nat.reduceEqDiff,Nat.reduceAdd,Nat.reduceLeDiff,Nat.reduceMul]; rfl
          have q2 : Hb.get (H1.next + 1) = some (.cells false (arr8 g)) := by rw [← hHb]; simp(maxSteps:=9999999)(disch:=first|omega|(simp only[AN];omega))only[h2,↓KP,EN,↓reduceIte,reduceCtorEq,Nat.reduceEqDiff,Nat.reduceAdd,Nat.reduceLeDiff,Nat.reduceMul]; rfl
          have q3 : Hb.get (H1.next + 1 + 1) = some (.cells false [.bool false]) := by rw [← hHb]; simp(maxSteps:=9999999)(disch:=first|omega|(simp only[AN];omega))only[h3,↓KP,EN,↓reduceIte,reduceCtorEq,Nat.reduceEqDiff,Nat.reduceAdd,Nat.reduceLeDiff,Nat.reduceMul]
          have q4 : Hb.get H2.next = some (.cells false (arr8 (cntE (sp t)))) := by rw [← hHb]; simp(maxSteps:=9999999)(disch:=first|omega|(simp only[AN];omega))only[↓KP,EN,↓reduceIte,reduceCtorEq,Nat.reduceEqDiff,Nat.reduceAdd,Nat.reduceLeDiff,Nat.reduceMul]; rfl
          have q5 := congrArg (·.get B.next) hHb
          try simp only [] at q5
          simp(maxSteps:=9999999)(disch:=first|omega|(simp only[AN];omega))only[↓KP,EN,↓reduceIte,reduceCtorEq,Nat.reduceEqDiff,Nat.reduceAdd,Nat.reduceLeDiff,Nat.reduceMul] at q5
          have q6 : Hb.next = H2.next + 1 := by rw [← hHb]; rfl
          have q7 : ∀ b, b < H2.next → (Kh H1.next (H1.next + 1 + 1 + 1) b ∨ B.next < b) → Hb.get b = H2.get b := fun b hb hc => by
            simp only [Kh] at hc
            rw [← hHb]; simp(maxSteps:=9999999)(disch:=first|omega|(simp only[AN];omega))only[↓KP,EN,↓reduceIte,reduceCtorEq,Nat.reduceEqDiff,Nat.reduceAdd,Nat.reduceLeDiff,Nat.reduceMul]
          clear hHb
          refine K_loop (fun mz ez H4 => ∃ (d : Nat) (tail : Env), ez = (0, serArg vl vg vf s) :: (1, .ptr H.next 0) :: (2, I 0) :: (3, I 0) :: (4, I 0) :: tail ∧ (tail.get 6 = some (.ptr H1.next 0)) ∧ (tail.get 7 = some (.ptr (H1.next + 1) 0)) ∧ (tail.get 10 = some (.ptr H2.next 0)) ∧ (tail.get 32 = some (I d)) ∧ (d ≤ 8) ∧ (H4.next = Hb.next) ∧ (H4.get H1.next = some (.cells false (arr8 fun e => if e < d then min (f e) (cntE (sp t) e) else f e))) ∧ (H4.get (H1.next + 1) = some (.cells false (arr8 fun e => if e < d then max (g e) (cntE (sp t) e) else g e))) ∧ (∀ b, b ≠ H1.next → b ≠ H1.next + 1 → H4.get b = Hb.get b) ∧ mz = 8 - d) _ ⟨0, _, rfl, ?_, ?_, ?_, ?_, ?_, ?_, (by rw [q1]; congr 2), (by rw [q2]; congr 2), (by intro _ _ _; rfl), rfl⟩ ?_
          iterate 6 (focus (first|(with_reducible rfl)|omega|(with_reducible(repeat first|exact Grew.refl _|assumption|apply Grew.alloc|refine Grew.set ?_ _ (by first|omega|(simp only[AN];omega)));done)|(simp(maxSteps:=9999999)(disch:=first|omega|(simp only[AN];omega))only[↓KP,EN,↓reduceIte,reduceCtorEq,Nat.reduceEqDiff,Nat.reduceAdd,Nat.reduceLeDiff,Nat.reduceMul]<;>first|omega|rfl)|(simp;done)|rfl))
          rintro mz ez H4 ⟨d, tail, rfl, t6, t7, t10, t32, hd, r0, r1, r2, r3, hmz⟩; subst mz
          simp(maxSteps:=9999999)(disch:=first|omega|(simp only[AN];omega))only[t32,↓KP,EN,↓reduceIte,reduceCtorEq,Nat.reduceEqDiff,Nat.reduceAdd,Nat.reduceLeDiff,Nat.reduceMul]
          refine C_decide (fun hc => ?_) (fun hc => ?_)
          · have hd8 : d < 8 := by omega
            have ix1 := idx8 H1.next (n := (d : Int)) rfl hd8
            have ix2 := idx8 (H1.next + 1) (n := (d : Int)) rfl hd8
            have ix3 := idx8 H2.next (n := (d : Int)) rfl hd8
            have a1 := arr8_get (f := fun e => if e < d then min (f e) (cntE (sp t) e) else f e) hd8
            have a2 := arr8_get (f := fun e => if e < d then max (g e) (cntE (sp t) e) else g e) hd8
            have a3 := arr8_get (f := cntE (sp t)) hd8
            simp only [if_neg (Nat.lt_irrefl d)] at a1 a2
            have s1 := arr8_set (f := fun e => if e < d then min (f e) (cntE (sp t) e) else f e) hd8 (min (f d) (cntE (sp t) d))
            have s2 := arr8_set (f := fun e => if e < d then max (g e) (cntE (sp t) e) else g e) hd8 (max (g d) (cntE (sp t) d))
            have hn1 : (arr8 fun e => if e = d then min (f d) (cntE (sp t) d) else if e < d then min (f e) (cntE (sp t) e) else f e) = arr8 fun e => if e < d + 1 then min (f e) (cntE (sp t) e) else f e := arr8_congr fun e _ => by
              by_cases h : e = d
              · subst h; rw [if_pos rfl, if_pos (by omega)]
              · rw [if_neg h]
                by_cases h2 : e < d
                · rw [if_pos h2, if_pos (by omega)]
                · rw [if_neg h2, if_neg (by omega)]
            have hn2 : (arr8 fun e => if e = d then max (g d) (cntE (sp t) d) else if e < d then max (g e) (cntE (sp t) e) else g e) = arr8 fun e => if e < d + 1 then max (g e) (cntE (sp t) e) else g e := arr8_congr fun e _ => by
              by_cases h : e = d
              · subst h; rw [if_pos rfl, if_pos (by omega)]
              · rw [if_neg h]
                by_cases h2 : e < d
                · rw [if_pos h2, if_pos (by omega)]
                · rw [if_neg h2, if_neg (by omega)]
            rw [hn1] at s1
            rw [hn2] at s2
            have e1 : IntKind.i64.wrap ((d : Int) + 1) = ((d + 1 : Nat) : Int) := i64_in _ (by omega)
            have q4' : H4.get H2.next = some (.cells false (arr8 (cntE (sp t)))) := by rw [r3 _ (by omega) (by omega)]; exact q4
            simp(maxSteps:=9999999)(disch:=first|omega|(simp only[AN];omega))only[t32,↓KP,EN,↓reduceIte,reduceCtorEq,Nat.reduceEqDiff,Nat.reduceAdd,Nat.reduceLeDiff,Nat.reduceMul]
            refine K_draw ?_
            simp(maxSteps:=9999999)(disch:=first|omega|(simp only[AN];omega))only[t6,t7,t10,t32,ix1,ix2,ix3,a1,a2,a3,r1,r2,q4',s1,s2,e1,↓KP,EN,↓reduceIte,reduceCtorEq,Nat.reduceEqDiff,Nat.reduceAdd,Nat.reduceLeDiff,Nat.reduceMul]
            refine ⟨_, ?_, d + 1, _, rfl, ?_, ?_, ?_, ?_, ?_, ?_, ?_, ?_, (by intro b hb1 hb2; simp(maxSteps:=9999999)(disch:=first|omega|(simp only[AN];omega))only[r3 b hb1 hb2,↓KP,EN,↓reduceIte,reduceCtorEq,Nat.reduceEqDiff,Nat.reduceAdd,Nat.reduceLeDiff,Nat.reduceMul]), rfl⟩ <;> (first|omega|(with_reducible assumption)|(with_reducible(repeat first|exact Grew.refl _|assumption|apply Grew.alloc|refine Grew.set ?_ _ (by first|omega|(simp only[AN];omega)));done)|(simp(maxSteps:=9999999)(disch:=first|omega|(simp only[AN];omega))only[t6,t7,t10,↓KP,EN,↓reduceIte,reduceCtorEq,Nat.reduceEqDiff,Nat.reduceAdd,Nat.reduceLeDiff,Nat.reduceMul]<;>first|omega|rfl))
          · have hde : d = 8 := by omega
            subst hde
            simp(maxSteps:=9999999)(disch:=first|omega|(simp only[AN];omega))only[↓KP,EN,↓reduceIte,reduceCtorEq,Nat.reduceEqDiff,Nat.reduceAdd,Nat.reduceLeDiff,Nat.reduceMul]
            refine K_bod ⟨?_, ⟨?_, fun b hb hc => ?_⟩, ?_⟩
            · rw [r3 _ (by omega) (by omega)]; exact q5.symm
            · omega
            · rw [r3 b (by simp only [Kh] at hc; omega) (by simp only [Kh] at hc; omega)]; exact q7 b hb hc
            · refine ⟨fun e => min (f e) (cntE (sp t) e), fun e => max (g e) (cntE (sp t) e), ?_, ?_, ?_, fun _ d hd => ?_⟩
              · rw [r1]; congr 2
              · rw [r2]; congr 2
              · rw [r3 _ (by omega) (by omega), q3]
                simp
              · have u := hU d hd
                simp only [List.length_append, List.length_singleton]
                exact u
    · rintro H2 hn hj ⟨f, g, h1, h2, h3, h4⟩
      rw [show (yields s 0).length = T.length by rw [yields, hTz, List.length_map]] at h3 h4
      rw [List.take_length] at h4
      have h4 := h4 (by have := List.length_pos_iff.2 ht; omega)
      have b2 : H2.get H.next = some (.cells false [vl, I s.lo, I s.hi, vg, .bool s.unseen, vf]) := by simp(maxSteps:=9999999)(disch:=first|omega|(simp only[AN];omega))only[hj.base,hgB.get,b1,↓KP,EN,↓reduceIte,reduceCtorEq,Nat.reduceEqDiff,Nat.reduceAdd,Nat.reduceLeDiff,Nat.reduceMul]
      have hbd := fun (d : Int) => numE_bound (d := d) ht fun t htm => by have := hml3 t htm; omega
      have hgF : Grew H H2 := ⟨by omega, fun b hb => by simp(maxSteps:=9999999)(disch:=first|omega|(simp only[AN];omega))only[hj.base,hgB.get,hg0.get,↓KP,EN,↓reduceIte,reduceCtorEq,Nat.reduceEqDiff,Nat.reduceAdd,Nat.reduceLeDiff,Nat.reduceMul]⟩
      simp(maxSteps:=9999999)(disch:=first|omega|(simp only[AN];omega))only[b2,hh.l.len,↓KP,EN,↓reduceIte,reduceCtorEq,Nat.reduceEqDiff,Nat.reduceAdd,Nat.reduceLeDiff,Nat.reduceMul]
      refine K_loop (fun mz ez H4 => ∃ (d : Nat) (a : Int) (w : Int) (tail : Env), ez = (0, serArg vl vg vf s) :: (1, .ptr H.next 0) :: (2, I a) :: (3, I w) :: (4, I 0) :: tail ∧ (H4 = H2) ∧ (tail.get 6 = some (.ptr H1.next 0)) ∧ (tail.get 7 = some (.ptr (H1.next + 1) 0)) ∧ (tail.get 55 = some vl) ∧ (tail.get 56 = some (I s.looked.length)) ∧ (tail.get 57 = some (I d)) ∧ (d ≤ s.len) ∧ ((a, w) = openTo s T d) ∧ mz = s.len - d) _ ⟨0, 0, 0, _, rfl, ?_, ?_, ?_, ?_, ?_, ?_, ?_, (by rfl), rfl⟩ ?_
      iterate 7 (focus (first|(with_reducible rfl)|omega|(with_reducible(repeat first|exact Grew.refl _|assumption|apply Grew.alloc|refine Grew.set ?_ _ (by first|omega|(simp only[AN];omega)));done)|(simp(maxSteps:=9999999)(disch:=first|omega|(simp only[AN];omega))only[↓KP,EN,↓reduceIte,reduceCtorEq,Nat.reduceEqDiff,Nat.reduceAdd,Nat.reduceLeDiff,Nat.reduceMul]<;>first|omega|rfl)|(simp;done)|rfl))
      rintro mz ez H4 ⟨d, a, w, tail, rfl, hH, u6, u7, u55, u56, u57, hd, ha, hmz⟩; subst mz
      subst H4
      simp(maxSteps:=9999999)(disch:=first|omega|(simp only[AN];omega))only[u56,u57,↓KP,EN,↓reduceIte,reduceCtorEq,Nat.reduceEqDiff,Nat.reduceAdd,Nat.reduceLeDiff,Nat.reduceMul]
      refine C_decide (fun hc1 => ?_) (fun hc1 => ?_)
      · have hd' : d < s.looked.length := by omega
        have hd8 : d < 8 := by omega
        obtain ⟨pb, pi, pro, pvs, plt, p⟩ := rdB hh.l (k := d) rfl hd'
        rw [lk_eq hd'] at p
        have e1 : IntKind.i64.wrap ((d : Int) + 1) = ((d + 1 : Nat) : Int) := i64_in _ (by omega)
        have hst : openTo s T (d + 1) = openStep s T (openTo s T d) d := by rw [openTo, List.range_succ, List.foldl_append]; rfl
        rw [← ha, openStep] at hst
        have hb := hbd d
        obtain ⟨f1, g1⟩ := h4 d hd8
        have ix1 := idx8 H1.next (n := (d : Int)) rfl hd8
        have ix2 := idx8 (H1.next + 1) (n := (d : Int)) rfl hd8
        have a1 := arr8_get (f := f) hd8
        have a2 := arr8_get (f := g) hd8
        rw [f1] at a1
        rw [g1] at a2
        have w1 : IntKind.i64.wrap ((numE T d).2 - (numE T d).1) = (numE T d).2 - (numE T d).1 := i64_in _ (by omega)
        simp(maxSteps:=9999999)(disch:=first|omega|(simp only[AN];omega))only[u55,u57,hgF.get,p,↓KP,EN,↓reduceIte,reduceCtorEq,Nat.reduceEqDiff,Nat.reduceAdd,Nat.reduceLeDiff,Nat.reduceMul]
        generalize numE T d = N at *
        cases hlk : lk s d with
        | true =>
          rw [hlk] at p hst
          simp only [Bool.true_eq_false, false_and, if_false] at hst
          refine K_draw ?_
          simp(maxSteps:=9999999)(disch:=first|omega|(simp only[AN];omega))only[u6,u7,u55,u56,u57,e1,↓KP,EN,↓reduceIte,reduceCtorEq,Nat.reduceEqDiff,Nat.reduceAdd,Nat.reduceLeDiff,Nat.reduceMul]
          refine ⟨_, ?_, d + 1, a, w, _, rfl, ?_, ?_, ?_, ?_, ?_, ?_, ?_, (by exact hst.symm), rfl⟩ <;> (first|omega|(with_reducible assumption)|(with_reducible(repeat first|exact Grew.refl _|assumption|apply Grew.alloc|refine Grew.set ?_ _ (by first|omega|(simp only[AN];omega)));done)|(simp(maxSteps:=9999999)(disch:=first|omega|(simp only[AN];omega))only[u6,u7,u55,u56,↓KP,EN,↓reduceIte,reduceCtorEq,Nat.reduceEqDiff,Nat.reduceAdd,Nat.reduceLeDiff,Nat.reduceMul]<;>first|omega|rfl))
        | false =>
          rw [hlk] at p hst
          simp only [true_and] at hst
          refine K_draw ?_
          simp(maxSteps:=9999999)(disch:=first|omega|(simp only[AN];omega))only[u6,u7,u55,u56,u57,ix1,ix2,h1,h2,a1,a2,w1,↓KP,EN,↓reduceIte,reduceCtorEq,Nat.reduceEqDiff,Nat.reduceAdd,Nat.reduceLeDiff,Nat.reduceMul]
          by_cases hw : w < N.2 - N.1
          · rw [if_pos hw] at hst
            simp(maxSteps:=9999999)(disch:=first|omega|(simp only[AN];omega))only[hw,↓KP,EN,↓reduceIte,reduceCtorEq,Nat.reduceEqDiff,Nat.reduceAdd,Nat.reduceLeDiff,Nat.reduceMul]
            refine K_draw ?_
            simp(maxSteps:=9999999)(disch:=first|omega|(simp only[AN];omega))only[u6,u7,u55,u56,u57,ix1,ix2,h1,h2,a1,a2,w1,e1,↓KP,EN,↓reduceIte,reduceCtorEq,Nat.reduceEqDiff,Nat.reduceAdd,Nat.reduceLeDiff,Nat.reduceMul]
            refine ⟨_, ?_, d + 1, (d : Int), N.2 - N.1, _, rfl, ?_, ?_, ?_, ?_, ?_, ?_, ?_, (by exact hst.symm), rfl⟩ <;> (first|omega|(with_reducible assumption)|(with_reducible(repeat first|exact Grew.refl _|assumption|apply Grew.alloc|refine Grew.set ?_ _ (by first|omega|(simp only[AN];omega)));done)|(simp(maxSteps:=9999999)(disch:=first|omega|(simp only[AN];omega))only[u6,u7,u55,u56,↓KP,EN,↓reduceIte,reduceCtorEq,Nat.reduceEqDiff,Nat.reduceAdd,Nat.reduceLeDiff,Nat.reduceMul]<;>first|omega|rfl))
          · rw [if_neg hw] at hst
            simp(maxSteps:=9999999)(disch:=first|omega|(simp only[AN];omega))only[u6,u7,u55,u56,u57,hw,e1,↓KP,EN,↓reduceIte,reduceCtorEq,Nat.reduceEqDiff,Nat.reduceAdd,Nat.reduceLeDiff,Nat.reduceMul]
            refine ⟨_, ?_, d + 1, a, w, _, rfl, ?_, ?_, ?_, ?_, ?_, ?_, ?_, (by exact hst.symm), rfl⟩ <;> (first|omega|(with_reducible assumption)|(with_reducible(repeat first|exact Grew.refl _|assumption|apply Grew.alloc|refine Grew.set ?_ _ (by first|omega|(simp only[AN];omega)));done)|(simp(maxSteps:=9999999)(disch:=first|omega|(simp only[AN];omega))only[u6,u7,u55,u56,↓KP,EN,↓reduceIte,reduceCtorEq,Nat.reduceEqDiff,Nat.reduceAdd,Nat.reduceLeDiff,Nat.reduceMul]<;>first|omega|rfl))
      · have hde : d = s.len := by omega
        subst hde
        rw [← ha] at k
        by_cases hw : w = 0
        · rw [if_pos hw] at k
          simp(maxSteps:=9999999)(disch:=first|omega|(simp only[AN];omega))only[eq_true hw,↓KP,EN,↓reduceIte,reduceCtorEq,Nat.reduceEqDiff,Nat.reduceAdd,Nat.reduceLeDiff,Nat.reduceMul]
          exact k _ hgF
        · rw [if_neg hw] at k
          simp(maxSteps:=9999999)(disch:=first|omega|(simp only[AN];omega))only[hw,↓KP,EN,↓reduceIte,reduceCtorEq,Nat.reduceEqDiff,Nat.reduceAdd,Nat.reduceLeDiff,Nat.reduceMul]
          exact k _ hgF
    · intro x H2 _ _ _ h; exact h.elim
end Go.Proofs.Ytihahmggfjjkjaa
namespace Go.Proofs.Ytihahmggfjjkjaa
open Go.AM Go.IntWalk Go.PL
set_option maxRecDepth 100000
set_option maxHeartbeats 4000000
set_option linter.unusedSimpArgs false
variable {H : AH} {R : AV → AH → Prop}
def cmpE (a b : Int) : Int := if a < b then -1 else if b < a then 1 else 0
theorem isNaN_run (a : Int) (k : R (.bool false) H) : CallQ prog (.func 92 [] []) [I a] H R := by
  have h : (!decide (a = a)) = false := by rw [decide_eq_true rfl]; rfl
  refine CallQ_enter (fn:=c92) rfl (Nat.le_of_ble_eq_true rfl) ?_;simp(maxSteps:=9999999)(disch:=first|omega|(simp only[AN];omega))only[c92,envFrom,h,↓KP,EN,↓reduceIte,reduceCtorEq,Nat.reduceEqDiff,Nat.reduceAdd,Nat.reduceLeDiff,Nat.reduceMul]
  exact k
theorem cmp_run (a b : Int) (k : R (I (cmpE a b)) H) : CallQ prog (.func 91 [] []) [I a, I b] H R := by
  unfold cmpE at k
  refine CallQ_enter (fn:=c91) rfl (Nat.le_of_ble_eq_true rfl) ?_;simp(maxSteps:=9999999)(disch:=first|omega|(simp only[AN];omega))only[c91,envFrom,↓KP,EN,↓reduceIte,reduceCtorEq,Nat.reduceEqDiff,Nat.reduceAdd,Nat.reduceLeDiff,Nat.reduceMul]
  first|refine C_call ?_|refine C_calld ?_
  refine isNaN_run a ?_
  simp(maxSteps:=9999999)(disch:=first|omega|(simp only[AN];omega))only[↓KP,EN,↓reduceIte,reduceCtorEq,Nat.reduceEqDiff,Nat.reduceAdd,Nat.reduceLeDiff,Nat.reduceMul]
  first|refine C_call ?_|refine C_calld ?_
  refine isNaN_run b ?_
  by_cases h1 : a < b
  · rw [if_pos h1] at k
    simp(maxSteps:=9999999)(disch:=first|omega|(simp only[AN];omega))only[h1,↓KP,EN,↓reduceIte,reduceCtorEq,Nat.reduceEqDiff,Nat.reduceAdd,Nat.reduceLeDiff,Nat.reduceMul]
    exact k
  · by_cases h2 : b < a
    · rw [if_neg h1, if_pos h2] at k
      simp(maxSteps:=9999999)(disch:=first|omega|(simp only[AN];omega))only[h1,h2,↓KP,EN,↓reduceIte,reduceCtorEq,Nat.reduceEqDiff,Nat.reduceAdd,Nat.reduceLeDiff,Nat.reduceMul]
      exact k
    · rw [if_neg h1, if_neg h2] at k
      simp(maxSteps:=9999999)(disch:=first|omega|(simp only[AN];omega))only[h1,h2,↓KP,EN,↓reduceIte,reduceCtorEq,Nat.reduceEqDiff,Nat.reduceAdd,Nat.reduceLeDiff,Nat.reduceMul]
      exact k
def compE : List Int → List Int → Int
  | [], [] => 0
  | [], _ :: _ => -1
  | _ :: _, [] => 1
  | a :: l, b :: m => if cmpE a b = 0 then compE l m else cmpE a b
theorem compE_drop {a b : List Int} (i : Nat) (ha : i < a.length) (hb : i < b.length) : compE (a.drop i) (b.drop i) = if cmpE a[i] b[i] = 0 then compE (a.drop (i + 1)) (b.drop (i + 1)) else cmpE a[i] b[i] := by
  rw [List.drop_eq_getElem_cons ha, List.drop_eq_getElem_cons hb, compE]
theorem Compare_run (v w : AV) (a b : List Int) (hv : IsInts (Old H) H v a) (hw : IsInts (Old H) H w b) (ha : a.length < 1000000000) (hb : b.length < 1000000000) (k : R (I (compE a b)) H) : CallQ prog (.func 76 [] []) [v, w] H R := by
  refine CallQ_enter (fn:=c76) rfl (Nat.le_of_ble_eq_true rfl) ?_;simp(maxSteps:=9999999)(disch:=first|omega|(simp only[AN];omega))only[c76,envFrom,hv.len,↓KP,EN,↓reduceIte,reduceCtorEq,Nat.reduceEqDiff,Nat.reduceAdd,Nat.reduceLeDiff,Nat.reduceMul]
  refine K_loop (fun mz ez H1 => ∃ (i : Nat) (tail : Env), ez = (0, v) :: (1, w) :: (4, I 0) :: (9, v) :: (10, I a.length) :: (11, I i) :: tail ∧ (H1 = H) ∧ (i ≤ a.length) ∧ (i ≤ b.length) ∧ (compE (a.drop i) (b.drop i) = compE a b) ∧ mz = a.length - i) _ ⟨0, _, rfl, ?_, ?_, ?_, ?_, rfl⟩ ?_
  iterate 4 (focus (first|(with_reducible rfl)|omega|(with_reducible(repeat first|exact Grew.refl _|assumption|apply Grew.alloc|refine Grew.set ?_ _ (by first|omega|(simp only[AN];omega)));done)|(simp(maxSteps:=9999999)(disch:=first|omega|(simp only[AN];omega))only[↓KP,EN,↓reduceIte,reduceCtorEq,Nat.reduceEqDiff,Nat.reduceAdd,Nat.reduceLeDiff,Nat.reduceMul]<;>first|omega|rfl)|(simp;done)|rfl))
  rintro mz ez H1 ⟨i, tail, rfl, hH, hia, hib, hl, hmz⟩; subst mz
  subst H1
  simp(maxSteps:=9999999)(disch:=first|omega|(simp only[AN];omega))only[↓KP,EN,↓reduceIte,reduceCtorEq,Nat.reduceEqDiff,Nat.reduceAdd,Nat.reduceLeDiff,Nat.reduceMul]
  refine C_decide (fun hc => ?_) (fun hc => ?_)
  · have hi' : i < a.length := by omega
    have e1 : IntKind.i64.wrap ((i : Int) + 1) = ((i + 1 : Nat) : Int) := i64_in _ (by omega)
    obtain ⟨p_b, p_i, p_ro, p_vs, p_lt, p⟩ := hv.rdInt rfl hi'
    by_cases h2 : i < b.length
    · have h2' : ¬ (b.length : Int) ≤ i := by omega
      obtain ⟨q_b, q_i, q_ro, q_vs, q_lt, q⟩ := hw.rdInt rfl h2
      rw [compE_drop i hi' h2] at hl
      simp(maxSteps:=9999999)(disch:=first|omega|(simp only[AN];omega))only[p,hw.len,h2',q,↓KP,EN,↓reduceIte,reduceCtorEq,Nat.reduceEqDiff,Nat.reduceAdd,Nat.reduceLeDiff,Nat.reduceMul]
      first|refine C_call ?_|refine C_calld ?_
      refine cmp_run a[i] b[i] ?_
      by_cases he : cmpE a[i] b[i] = 0
      · rw [if_pos he] at hl
        simp(maxSteps:=9999999)(disch:=first|omega|(simp only[AN];omega))only[he,e1,↓KP,EN,↓reduceIte,reduceCtorEq,Nat.reduceEqDiff,Nat.reduceAdd,Nat.reduceLeDiff,Nat.reduceMul]
        refine ⟨_, ?_, i + 1, _, rfl, ?_, ?_, ?_, ?_, rfl⟩ <;> (first|omega|(with_reducible assumption)|(with_reducible(repeat first|exact Grew.refl _|assumption|apply Grew.alloc|refine Grew.set ?_ _ (by first|omega|(simp only[AN];omega)));done)|(simp(maxSteps:=9999999)(disch:=first|omega|(simp only[AN];omega))only[↓KP,EN,↓reduceIte,reduceCtorEq,Nat.reduceEqDiff,Nat.reduceAdd,Nat.reduceLeDiff,Nat.reduceMul]<;>first|omega|rfl))
      · rw [if_neg he] at hl
        rw [← hl] at k
        simp(maxSteps:=9999999)(disch:=first|omega|(simp only[AN];omega))only[he,↓KP,EN,↓reduceIte,reduceCtorEq,Nat.reduceEqDiff,Nat.reduceAdd,Nat.reduceLeDiff,Nat.reduceMul]
        exact k
    · have h2' : (b.length : Int) ≤ i := by omega
      have hx : compE a b = 1 := by
        rw [← hl, List.drop_of_length_le (l := b) (by omega), List.drop_eq_getElem_cons hi', compE]
      rw [hx] at k
      simp(maxSteps:=9999999)(disch:=first|omega|(simp only[AN];omega))only[p,hw.len,h2',↓KP,EN,↓reduceIte,reduceCtorEq,Nat.reduceEqDiff,Nat.reduceAdd,Nat.reduceLeDiff,Nat.reduceMul]
      exact k
  · have hie : i = a.length := by omega
    by_cases h2 : i < b.length
    · have h2' : (a.length : Int) < b.length := by omega
      have hx : compE a b = -1 := by
        rw [← hl, List.drop_of_length_le (l := a) (by omega), List.drop_eq_getElem_cons h2, compE]
      rw [hx] at k
      simp(maxSteps:=9999999)(disch:=first|omega|(simp only[AN];omega))only[hv.len,hw.len,h2',↓KP,EN,↓reduceIte,reduceCtorEq,Nat.reduceEqDiff,Nat.reduceAdd,Nat.reduceLeDiff,Nat.reduceMul]
      exact k
    · have h2' : ¬ (a.length : Int) < b.length := by omega
      have hx : compE a b = 0 := by
        rw [← hl, List.drop_of_length_le (l := a) (by omega), List.drop_of_length_le (l := b) (by omega), compE]
      rw [hx] at k
      simp(maxSteps:=9999999)(disch:=first|omega|(simp only[AN];omega))only[hv.len,hw.len,h2',↓KP,EN,↓reduceIte,reduceCtorEq,Nat.reduceEqDiff,Nat.reduceAdd,Nat.reduceLeDiff,Nat.reduceMul]
      exact k
def bitsTo (j n : Nat) : List Int := (List.range n).filterMap fun (i : Nat) => if j.testBit i then some (i : Int) else none
theorem bitsTo_succ {j n : Nat} : bitsTo j (n + 1) = bitsTo j n ++ (if j.testBit n then [(n : Int)] else []) := by
  unfold bitsTo
  rw [List.range_succ, List.filterMap_append]
  congr 1
  cases h : j.testBit n <;> simp [h]
theorem bitsTo_length {j n : Nat} : (bitsTo j n).length ≤ n := by
  unfold bitsTo
  have := List.length_filterMap_le (fun (i : Nat) => if j.testBit i then some (i : Int) else none) (List.range n)
  simpa using this
theorem bitsTo_mem {j n k : Nat} (hk : k < n) : (k : Int) ∈ bitsTo j n ↔ j.testBit k = true := by
  unfold bitsTo
  rw [List.mem_filterMap]
  constructor
  · rintro ⟨i, _, h⟩
    by_cases hb : j.testBit i
    · rw [if_pos hb] at h
      have : (i : Int) = k := by simpa using h
      obtain rfl : i = k := by omega
      exact hb
    · rw [if_neg hb] at h; cases h
  · intro h
    exact ⟨k, by simpa using hk, by rw [if_pos h]⟩
def gtE (l b : List Int) : Bool := decide ((b.length : Int) < l.length) || (decide ((l.length : Int) = b.length) && decide (0 < compE l b))
def wStep (s : Series) (n : Nat) (a : Bool × List Int) (j : Nat) : Bool × List Int :=
  if a.1 = true ∧ gtE (bitsTo j n) a.2 = true then a else if 0 < (truthsB s j).length then (true, bitsTo j n) else a
def wTo (s : Series) (n m : Nat) : Bool × List Int := (List.range m).foldl (wStep s n) (false, [])
theorem wTo_succ {s : Series} {n m : Nat} : wTo s n (m + 1) = wStep s n (wTo s n m) m := by rw [wTo, List.range_succ, List.foldl_append]; rfl
def pWrong (s : Series) : List Int × Int := if errE s ≠ 0 then ([], errE s) else if (wTo s s.filled.length (2 ^ s.filled.length)).1 = true then ((wTo s s.filled.length (2 ^ s.filled.length)).2, 0) else ([], 8)
theorem cand_rank : ∀ n, n ≤ 4 → (∀ i, i < (candTo n (n + 1)).length → ∀ j, j < (candTo n (n + 1)).length → gtE ((candTo n (n + 1)).getD i []) ((candTo n (n + 1)).getD j []) = decide (j < i)) ∧ (∀ j, j < 2 ^ n → bitsTo j n ∈ candTo n (n + 1)) ∧ (∀ c ∈ candTo n (n + 1), ∃ j, j < 2 ^ n ∧ bitsTo j n = c) := by
  decide +kernel
theorem fold_first {C : List (List Int)} {good : List Int → Bool} (hr : ∀ i, i < C.length → ∀ j, j < C.length → gtE (C.getD i []) (C.getD j []) = decide (j < i)) :
    ∀ (D : List (List Int)), (∀ d ∈ D, d ∈ C) → ∀ a : Bool × List Int, (a.1 = true → a.2 ∈ C) →
      ∃ r : Bool × List Int, r = D.foldl (fun a l => if a.1 = true ∧ gtE l a.2 = true then a else if good l = true then (true, l) else a) a ∧
        (r.1 = true → (r.2 ∈ C ∧ (r = a ∨ good r.2 = true)) ∧ (a.1 = true → r.2 = a.2 ∨ gtE a.2 r.2 = true) ∧ ∀ d ∈ D, good d = true → d = r.2 ∨ gtE d r.2 = true) ∧ (r.1 = false → r = a ∧ ∀ d ∈ D, good d = false)
  | [], _, a, ha => ⟨a, rfl, fun h => ⟨⟨ha h, .inl rfl⟩, fun _ => .inl rfl, fun d hd => by cases hd⟩, fun _ => ⟨rfl, fun d hd => by cases hd⟩⟩
  | l :: D, hD, a, ha => by
    have idx : ∀ {x}, x ∈ C → ∃ i, i < C.length ∧ x = C.getD i [] := fun {x} hx => by
      obtain ⟨i, hi, rfl⟩ := List.getElem_of_mem hx
      exact ⟨i, hi, by simp [hi]⟩
    have trans : ∀ {x y z}, x ∈ C → y ∈ C → z ∈ C → (x = y ∨ gtE x y = true) → (y = z ∨ gtE y z = true) → (x = z ∨ gtE x z = true) := fun {x y z} hx hy hz h1 h2 => by
      rcases h1 with rfl | h1
      · exact h2
      · rcases h2 with rfl | h2
        · exact .inr h1
        · obtain ⟨i, hi, rfl⟩ := idx hx
          obtain ⟨j, hj, rfl⟩ := idx hy
          obtain ⟨k, hk, rfl⟩ := idx hz
          rw [hr _ hi _ hj, decide_eq_true_eq] at h1
          rw [hr _ hj _ hk, decide_eq_true_eq] at h2
          exact .inr (by rw [hr _ hi _ hk, decide_eq_true_eq]; omega)
    have tot : ∀ {x y}, x ∈ C → y ∈ C → gtE x y = false → (y = x ∨ gtE y x = true) := fun {x y} hx hy h1 => by
      obtain ⟨i, hi, rfl⟩ := idx hx
      obtain ⟨j, hj, rfl⟩ := idx hy
      rw [hr _ hi _ hj, decide_eq_false_iff_not] at h1
      by_cases hij : i = j
      · subst hij; exact .inl rfl
      · exact .inr (by rw [hr _ hj _ hi, decide_eq_true_eq]; omega)
    have hl : l ∈ C := hD l (by simp)
    by_cases h1 : a.1 = true ∧ gtE l a.2 = true
    · obtain ⟨r, hr1, hr2, hr3⟩ := fold_first hr D (fun d hd => hD d (by simp [hd])) a ha
      refine ⟨r, by rw [List.foldl_cons, if_pos h1]; exact hr1, fun h => ⟨(hr2 h).1, (hr2 h).2.1, fun d hd hg => ?_⟩, fun h => ?_⟩
      · rcases List.mem_cons.1 hd with rfl | hd
        · exact trans hl (ha h1.1) (hr2 h).1.1 (.inr h1.2) (((hr2 h).2.1 h1.1).imp Eq.symm id)
        · exact (hr2 h).2.2 d hd hg
      · have := (hr3 h).1
        rw [this, h1.1] at h; cases h
    · by_cases h2 : good l = true
      · obtain ⟨r, hr1, hr2, hr3⟩ := fold_first hr D (fun d hd => hD d (by simp [hd])) (true, l) (fun _ => hl)
        refine ⟨r, by rw [List.foldl_cons, if_neg h1, if_pos h2]; exact hr1, fun h => ⟨⟨(hr2 h).1.1, ?_⟩, fun ha1 => ?_, fun d hd hg => ?_⟩, fun h => ?_⟩
        · rcases (hr2 h).1.2 with e | e
          · rw [e]; exact .inr h2
          · exact .inr e
        · have hx : gtE l a.2 = false := by
            cases hg : gtE l a.2 with
            | false => rfl
            | true => exact absurd ⟨ha1, hg⟩ h1
          rcases trans (ha ha1) hl (hr2 h).1.1 (tot hl (ha ha1) hx) (((hr2 h).2.1 rfl).imp Eq.symm id) with e | e
          · exact .inl e.symm
          · exact .inr e
        · rcases List.mem_cons.1 hd with rfl | hd
          · rcases (hr2 h).2.1 rfl with e | e
            · exact .inl e.symm
            · exact .inr e
          · exact (hr2 h).2.2 d hd hg
        · have := (hr3 h).1
          rw [this] at h; cases h
      · obtain ⟨r, hr1, hr2, hr3⟩ := fold_first hr D (fun d hd => hD d (by simp [hd])) a ha
        refine ⟨r, by rw [List.foldl_cons, if_neg h1, if_neg h2]; exact hr1, fun h => ⟨(hr2 h).1, (hr2 h).2.1, fun d hd hg => ?_⟩, fun h => ⟨(hr3 h).1, fun d hd => ?_⟩⟩
        · rcases List.mem_cons.1 hd with rfl | hd
          · exact absurd hg h2
          · exact (hr2 h).2.2 d hd hg
        · rcases List.mem_cons.1 hd with rfl | hd
          · simpa using h2
          · exact (hr3 h).2 d hd
theorem pWrong_eq {s : Series} : pWrong s = wrongE s := by
  unfold pWrong wrongE
  by_cases he : errE s = 0
  · have hfine := fine_of he
    have hfl := hfine.fl
    have hne : ¬ errE s ≠ 0 := fun h => h he
    rw [if_neg hne, if_neg hne]
    obtain ⟨q1, q2, q3⟩ := cand_rank s.filled.length hfl
    have hgood : ∀ j, decide (0 < (truthsB s j).length) = goodE s (bitsTo j s.filled.length) := fun j => by
      rw [goodE, truthsB_eq hfine (bl := bitsTo j s.filled.length) fun k hk => by rw [Bool.eq_iff_iff, decide_eq_true_eq]; exact (bitsTo_mem hk).symm]
      exact decide_eq_decide.2 List.length_pos_iff
    have hw : wTo s s.filled.length (2 ^ s.filled.length) = ((List.range (2 ^ s.filled.length)).map fun j => bitsTo j s.filled.length).foldl (fun a l => if a.1 = true ∧ gtE l a.2 = true then a else if goodE s l = true then (true, l) else a) (false, []) := by
      rw [List.foldl_map, wTo]
      congr 1
      funext a j
      rw [wStep, ← hgood j]
      simp only [decide_eq_true_eq]
    obtain ⟨r, hr1, hr2, hr3⟩ := fold_first (good := goodE s) q1 ((List.range (2 ^ s.filled.length)).map fun j => bitsTo j s.filled.length) (fun d hd => by
      obtain ⟨j, hj, rfl⟩ := List.mem_map.1 hd
      exact q2 j (by simpa using hj)) (false, []) (fun h => by cases h)
    rw [hw, ← hr1]
    have hmem : ∀ c ∈ candTo s.filled.length (s.filled.length + 1), c ∈ (List.range (2 ^ s.filled.length)).map fun j => bitsTo j s.filled.length := fun c hc => by
      obtain ⟨j, hj, rfl⟩ := q3 c hc
      exact List.mem_map.2 ⟨j, by simpa using hj, rfl⟩
    generalize candTo s.filled.length (s.filled.length + 1) = C at *
    cases hr : r.1 with
    | false =>
      have hno : C.find? (goodE s) = none := List.find?_eq_none.2 fun c hc => by rw [(hr3 hr).2 c (hmem c hc)]; simp
      rw [hno]; rfl
    | true =>
      obtain ⟨⟨h1, h2⟩, _, h4⟩ := hr2 hr
      have h2' : goodE s r.2 = true := by
        rcases h2 with e | e
        · rw [e] at hr; cases hr
        · exact e
      rw [if_pos rfl]
      cases hf : C.find? (goodE s) with
      | none => exact absurd h2' (List.find?_eq_none.1 hf _ h1)
      | some c =>
        obtain ⟨hg, la, lb, e1, e2⟩ := List.find?_eq_some_iff_append.1 hf
        have hcm : c ∈ C := by rw [e1]; simp
        rcases h4 c (hmem c hcm) hg with e | e
        · rw [e]
        · exfalso
          obtain ⟨i, hi, hri⟩ := List.getElem_of_mem h1
          have hrl : la.length < C.length := by rw [e1]; simp
          have hcl : C.getD la.length [] = c := by simp [e1]
          have hrc : C.getD i [] = r.2 := by simp [hi, hri]
          rw [← hcl, ← hrc, q1 _ hrl _ hi, decide_eq_true_eq] at e
          have : C[i] ∈ la := by
            have : C[i]? = la[i]? := by rw [e1, List.getElem?_append_left e]
            rw [List.getElem?_eq_getElem hi, List.getElem?_eq_getElem e, Option.some.injEq] at this
            rw [this]; exact List.getElem_mem e
          have := e2 _ this
          rw [hri, h2'] at this
          simp at this
  · rw [if_pos he, if_pos he]
end Go.Proofs.Ytihahmggfjjkjaa
namespace Go.Proofs.Ytihahmggfjjkjaa
open Go.AM Go.IntWalk Go.PL
set_option maxRecDepth 100000
set_option maxHeartbeats 4000000
set_option linter.unusedSimpArgs false
variable {H : AH} {R : AV → AH → Prop}
theorem pow_le16 {n : Nat} (h : n ≤ 4) : 2 ^ n ≤ 16 := Nat.le_trans (Nat.pow_le_pow_right (by omega) h) (Nat.le_refl _)
theorem wTo_len {s : Series} {n : Nat} : ∀ m, (wTo s n m).2.length ≤ n
  | 0 => Nat.zero_le _
  | m + 1 => by
    have ih := wTo_len (s := s) (n := n) m
    rw [wTo_succ, wStep]
    split
    · exact ih
    · split
      · exact bitsTo_length
      · exact ih
theorem Wrong_run (vl vg vf : AV) (s : Series) (hh : IsSer (Old H) H vl vg vf s) (hs : Sized s)
    (k : ∀ H' v, Grew H H' → IsInts (Old H') H' v (wrongE s).1 → R (.tuple [v, I (wrongE s).2]) H') : CallQ prog (.func 32 [] []) [serArg vl vg vf s] H R := by
  rw [← pWrong_eq, pWrong] at k
  refine CallQ_enter (fn:=c32) rfl (Nat.le_of_ble_eq_true rfl) ?_;simp(maxSteps:=9999999)(disch:=first|omega|(simp only[AN];omega))only[c32,envFrom,hh.l.isCell,hh.g.isCell,hh.f.isCell,↓KP,EN,↓reduceIte,reduceCtorEq,Nat.reduceEqDiff,Nat.reduceAdd,Nat.reduceLeDiff,Nat.reduceMul]
  first|refine C_call ?_|refine C_calld ?_
  refine Check_run vl vg vf s (hh.grow GW) hs fun H1 hg1 => ?_
  have hg1n:=hg1.next;try simp only[AN]at hg1n
  have hg1' : Grew H H1 := Grew.trans GW hg1
  have hbox1 : H1.get H.next = some (.cells false [vl, I s.lo, I s.hi, vg, .bool s.unseen, vf]) := by simp(maxSteps:=9999999)(disch:=first|omega|(simp only[AN];omega))only[hg1.get,↓KP,EN,↓reduceIte,reduceCtorEq,Nat.reduceEqDiff,Nat.reduceAdd,Nat.reduceLeDiff,Nat.reduceMul]
  by_cases he : (checkE s).2.2 = 0
  · have he' : errE s = 0 := he
    have hfine := fine_of he'
    have hfl := hfine.fl
    rw [if_neg (fun h => h he')] at k
    have hsh := shl_one (s.filled.length : Int) (by omega)
    rw [Int.toNat_natCast] at hsh
    have hq := pow_le16 hfl
    simp(maxSteps:=9999999)(disch:=first|omega|(simp only[AN];omega))only[he,hbox1,hh.f.len,hsh,↓KP,EN,↓reduceIte,reduceCtorEq,Nat.reduceEqDiff,Nat.reduceAdd,Nat.reduceLeDiff,Nat.reduceMul]
    generalize hN : s.filled.length = n at *
    generalize 2 ^ n = q at *
    refine K_loop (fun mz ez H2 => ∃ (j : Nat) (vb : AV) (a : Bool × List Int) (tail : Env), ez = (0, serArg vl vg vf s) :: (1, .ptr H.next 0) :: (2, vb) :: (3, I 0) :: tail ∧ (tail.get 4 = some (.bool a.1)) ∧ (tail.get 20 = some (I q)) ∧ (tail.get 21 = some (I j)) ∧ (Grew H1 H2) ∧ (j ≤ q) ∧ (a = wTo s n j) ∧ (IsInts (Old H2) H2 vb a.2) ∧ mz = q - j) _ ⟨0, .nilslice, (false, []), _, rfl, ?_, ?_, ?_, ?_, ?_, (by rfl), (by exact .inl ⟨rfl, rfl⟩), rfl⟩ ?_
    iterate 5 (focus (first|(with_reducible rfl)|omega|(with_reducible(repeat first|exact Grew.refl _|assumption|apply Grew.alloc|refine Grew.set ?_ _ (by first|omega|(simp only[AN];omega)));done)|(simp(maxSteps:=9999999)(disch:=first|omega|(simp only[AN];omega))only[↓KP,EN,↓reduceIte,reduceCtorEq,Nat.reduceEqDiff,Nat.reduceAdd,Nat.reduceLeDiff,Nat.reduceMul]<;>first|omega|rfl)|(simp;done)|rfl))
    rintro mz ez H2 ⟨j, vb, a, tail, rfl, f4, f20, f21, hG, hj, ha, hvb, hmz⟩; subst mz; have hGn := hG.next
    have hst : wTo s n (j + 1) = wStep s n (wTo s n j) j := wTo_succ
    rw [← ha, wStep] at hst
    have hal : a.2.length ≤ n := by rw [ha]; exact wTo_len _
    simp(maxSteps:=9999999)(disch:=first|omega|(simp only[AN];omega))only[f20,f21,↓KP,EN,↓reduceIte,reduceCtorEq,Nat.reduceEqDiff,Nat.reduceAdd,Nat.reduceLeDiff,Nat.reduceMul]
    refine C_decide (fun hc => ?_) (fun hc => ?_)
    · have hj' : j < q := by omega
      have e1 : IntKind.i64.wrap ((j : Int) + 1) = ((j + 1 : Nat) : Int) := i64_in _ (by omega)
      simp(maxSteps:=9999999)(disch:=first|omega|(simp only[AN];omega))only[f20,f21,hG.get,hbox1,hh.f.len,hN,↓KP,EN,↓reduceIte,reduceCtorEq,Nat.reduceEqDiff,Nat.reduceAdd,Nat.reduceLeDiff,Nat.reduceMul]
      refine K_loop (fun mz ez H3 => ∃ (i : Nat) (vq : AV) (tail : Env), ez = (0, serArg vl vg vf s) :: (1, .ptr H.next 0) :: (2, vb) :: (3, I 0) :: tail ∧ (tail.get 4 = some (.bool a.1)) ∧ (tail.get 20 = some (I q)) ∧ (tail.get 21 = some (I j)) ∧ (tail.get 5 = some (I j)) ∧ (tail.get 6 = some vq) ∧ (tail.get 26 = some (I n)) ∧ (tail.get 27 = some (I i)) ∧ (Grew H2 H3) ∧ (i ≤ n) ∧ (Mine 1 EInt (fun _ => False) H2.next H3 vq (bitsTo j i)) ∧ mz = n - i) _ ⟨0, .nilslice, _, rfl, (by simp(maxSteps:=9999999)(disch:=first|omega|(simp only[AN];omega))only[f4,↓KP,EN,↓reduceIte,reduceCtorEq,Nat.reduceEqDiff,Nat.reduceAdd,Nat.reduceLeDiff,Nat.reduceMul]), (by simp(maxSteps:=9999999)(disch:=first|omega|(simp only[AN];omega))only[f20,↓KP,EN,↓reduceIte,reduceCtorEq,Nat.reduceEqDiff,Nat.reduceAdd,Nat.reduceLeDiff,Nat.reduceMul]), (by simp(maxSteps:=9999999)(disch:=first|omega|(simp only[AN];omega))only[f21,↓KP,EN,↓reduceIte,reduceCtorEq,Nat.reduceEqDiff,Nat.reduceAdd,Nat.reduceLeDiff,Nat.reduceMul]), ?_, ?_, ?_, ?_, ?_, ?_, (by exact Mine.nil), rfl⟩ ?_
      iterate 6 (focus (first|(with_reducible rfl)|omega|(with_reducible(repeat first|exact Grew.refl _|assumption|apply Grew.alloc|refine Grew.set ?_ _ (by first|omega|(simp only[AN];omega)));done)|(simp(maxSteps:=9999999)(disch:=first|omega|(simp only[AN];omega))only[↓KP,EN,↓reduceIte,reduceCtorEq,Nat.reduceEqDiff,Nat.reduceAdd,Nat.reduceLeDiff,Nat.reduceMul]<;>first|omega|rfl)|(simp;done)|rfl))
      rintro mz ez H3 ⟨i, vq, tail, rfl, g4, g20, g21, g5, g6, g26, g27, hG3, hi, hvq, hmz⟩; subst mz; have hG3n := hG3.next
      simp(maxSteps:=9999999)(disch:=first|omega|(simp only[AN];omega))only[g26,g27,↓KP,EN,↓reduceIte,reduceCtorEq,Nat.reduceEqDiff,Nat.reduceAdd,Nat.reduceLeDiff,Nat.reduceMul]
      refine C_decide (fun hc2 => ?_) (fun hc2 => ?_)
      · have hi' : i < n := by omega
        have e2 : IntKind.i64.wrap ((i : Int) + 1) = ((i + 1 : Nat) : Int) := i64_in _ (by omega)
        have hbs := bitsTo_succ (j := j) (n := i)
        have hbl := bitsTo_length (j := j) (n := i)
        have s1 := shr_nat j i (by omega)
        have s2 := and_one (j / 2 ^ i) (Nat.lt_of_le_of_lt (Nat.div_le_self _ _) (by omega))
        have s3 := bit_is j i
        cases hb : j.testBit i with
        | true =>
          rw [hb] at s3
          rw [hb, if_pos rfl] at hbs
          have s4 : ((j / 2 ^ i % 2 : Nat) : Int) = 1 := of_decide_eq_true s3
          obtain ⟨vb', H5, b1, b2, b3, b4⟩ := hvq.push (bytes := 8) (cs := [I (i : Int)]) (a := (i : Int)) (F := fun _ => False) EInt.stays (by omega) rfl (fun _ h => h.elim) rfl rfl (by omega)
          simp(maxSteps:=9999999)(disch:=first|omega|(simp only[AN];omega))only[g5,g6,g27,s1,s2,eq_true s4,b1,e2,↓KP,EN,↓reduceIte,reduceCtorEq,Nat.reduceEqDiff,Nat.reduceAdd,Nat.reduceLeDiff,Nat.reduceMul]
          refine ⟨_, ?_, i + 1, vb', _, rfl, ?_, ?_, ?_, ?_, ?_, ?_, ?_, (by exact ⟨by omega, fun b hb => by simp(maxSteps:=9999999)(disch:=first|omega|(simp only[AN];omega))only[b4,hG3.get,↓KP,EN,↓reduceIte,reduceCtorEq,Nat.reduceEqDiff,Nat.reduceAdd,Nat.reduceLeDiff,Nat.reduceMul]⟩), ?_, (by rw [hbs]; exact b2), rfl⟩ <;> (first|omega|(with_reducible assumption)|(with_reducible(repeat first|exact Grew.refl _|assumption|apply Grew.alloc|refine Grew.set ?_ _ (by first|omega|(simp only[AN];omega)));done)|(simp(maxSteps:=9999999)(disch:=first|omega|(simp only[AN];omega))only[g4,g20,g21,g5,g26,↓KP,EN,↓reduceIte,reduceCtorEq,Nat.reduceEqDiff,Nat.reduceAdd,Nat.reduceLeDiff,Nat.reduceMul]<;>first|omega|rfl))
        | false =>
          rw [hb] at s3
          rw [hb, if_neg (by simp), List.append_nil] at hbs
          have s4 : ¬ ((j / 2 ^ i % 2 : Nat) : Int) = 1 := of_decide_eq_false s3
          simp(maxSteps:=9999999)(disch:=first|omega|(simp only[AN];omega))only[g5,g6,g27,s1,s2,s4,e2,↓KP,EN,↓reduceIte,reduceCtorEq,Nat.reduceEqDiff,Nat.reduceAdd,Nat.reduceLeDiff,Nat.reduceMul]
          refine ⟨_, ?_, i + 1, vq, _, rfl, ?_, ?_, ?_, ?_, ?_, ?_, ?_, ?_, ?_, (by rw [hbs]; exact hvq), rfl⟩ <;> (first|omega|(with_reducible assumption)|(with_reducible(repeat first|exact Grew.refl _|assumption|apply Grew.alloc|refine Grew.set ?_ _ (by first|omega|(simp only[AN];omega))|refine Grew.trans ?_ hG3);done)|(simp(maxSteps:=9999999)(disch:=first|omega|(simp only[AN];omega))only[g4,g20,g21,g5,g6,g26,hG3.get,↓KP,EN,↓reduceIte,reduceCtorEq,Nat.reduceEqDiff,Nat.reduceAdd,Nat.reduceLeDiff,Nat.reduceMul]<;>first|omega|rfl))
      · have hin : i = n := by omega
        subst hin
        have hbl := bitsTo_length (j := j) (n := i)
        have hvqs := hvq.sl EInt.stays
        have hvb3 := hvb.grow EInt.stays hG3
        have hgH3 : Grew H H3 := hg1'.trans (hG.trans hG3)
        have hgx : gtE (bitsTo j i) a.2 = (decide ((a.2.length : Int) < (bitsTo j i).length) || (decide (((bitsTo j i).length : Int) = a.2.length) && decide (0 < compE (bitsTo j i) a.2))) := rfl
        generalize bitsTo j i = L at *
        cases ha1 : a.1 with
        | false =>
          rw [ha1] at g4 hst
          simp(maxSteps:=9999999)(disch:=first|omega|(simp only[AN];omega))only[g4,↓KP,EN,↓reduceIte,reduceCtorEq,Nat.reduceEqDiff,Nat.reduceAdd,Nat.reduceLeDiff,Nat.reduceMul]
          simp(maxSteps:=9999999)(disch:=first|omega|(simp only[AN];omega))only[g5,hG3.get,hG.get,hbox1,↓KP,EN,↓reduceIte,reduceCtorEq,Nat.reduceEqDiff,Nat.reduceAdd,Nat.reduceLeDiff,Nat.reduceMul]
          first|refine C_call ?_|refine C_calld ?_
          refine look_run vl vg vf s j (hh.grow hgH3) fun H4 p m hg4 hm4 hheld => ?_
          have hg4n := hg4.next
          simp(maxSteps:=9999999)(disch:=first|omega|(simp only[AN];omega))only[↓KP,EN,↓reduceIte,reduceCtorEq,Nat.reduceEqDiff,Nat.reduceAdd,Nat.reduceLeDiff,Nat.reduceMul]
          first|refine C_call ?_|refine C_calld ?_
          refine some_run hfine (by omega) hheld fun H5 hg5 hh5 => ?_
          have hg5' : Grew H3 H5 := ⟨by have := hg5.next; omega, fun b hb' => by rw [hg5.get b (by omega) (by omega), hg4.get b hb']⟩
          have hg5n := hg5'.next
          by_cases ht : 0 < (truthsB s j).length
          · rw [if_neg (by simp), if_pos ht] at hst
            simp(maxSteps:=9999999)(disch:=first|omega|(simp only[AN];omega))only[ht,↓KP,EN,↓reduceIte,reduceCtorEq,Nat.reduceEqDiff,Nat.reduceAdd,Nat.reduceLeDiff,Nat.reduceMul]
            simp(maxSteps:=9999999)(disch:=first|omega|(simp only[AN];omega))only[g4,g6,g20,g21,e1,↓KP,EN,↓reduceIte,reduceCtorEq,Nat.reduceEqDiff,Nat.reduceAdd,Nat.reduceLeDiff,Nat.reduceMul]
            refine ⟨_, ?_, j + 1, vq, (true, L), _, rfl, ?_, ?_, ?_, ?_, ?_, (by exact hst.symm), (by exact hvqs.grow EInt.stays hg5'), rfl⟩ <;> (first|omega|(with_reducible assumption)|(with_reducible(repeat first|exact Grew.refl _|assumption|apply Grew.alloc|refine Grew.set ?_ _ (by first|omega|(simp only[AN];omega))|refine Grew.trans ?_ hg5'|refine Grew.trans ?_ hG3|refine Grew.trans ?_ hG);done)|(simp(maxSteps:=9999999)(disch:=first|omega|(simp only[AN];omega))only[g4,g6,g20,g21,e1,hg5'.get,hG3.get,hG.get,↓KP,EN,↓reduceIte,reduceCtorEq,Nat.reduceEqDiff,Nat.reduceAdd,Nat.reduceLeDiff,Nat.reduceMul]<;>first|omega|rfl))
          · rw [if_neg (by simp), if_neg ht] at hst
            simp(maxSteps:=9999999)(disch:=first|omega|(simp only[AN];omega))only[ht,↓KP,EN,↓reduceIte,reduceCtorEq,Nat.reduceEqDiff,Nat.reduceAdd,Nat.reduceLeDiff,Nat.reduceMul]
            simp(maxSteps:=9999999)(disch:=first|omega|(simp only[AN];omega))only[g4,g6,g20,g21,e1,↓KP,EN,↓reduceIte,reduceCtorEq,Nat.reduceEqDiff,Nat.reduceAdd,Nat.reduceLeDiff,Nat.reduceMul]
            refine ⟨_, ?_, j + 1, vb, a, _, rfl, (by rw [ha1]; simp(maxSteps:=9999999)(disch:=first|omega|(simp only[AN];omega))only[g4,↓KP,EN,↓reduceIte,reduceCtorEq,Nat.reduceEqDiff,Nat.reduceAdd,Nat.reduceLeDiff,Nat.reduceMul]), ?_, ?_, ?_, ?_, (by exact hst.symm), (by exact hvb3.grow EInt.stays hg5'), rfl⟩ <;> (first|omega|(with_reducible assumption)|(with_reducible(repeat first|exact Grew.refl _|assumption|apply Grew.alloc|refine Grew.set ?_ _ (by first|omega|(simp only[AN];omega))|refine Grew.trans ?_ hg5'|refine Grew.trans ?_ hG3|refine Grew.trans ?_ hG);done)|(simp(maxSteps:=9999999)(disch:=first|omega|(simp only[AN];omega))only[g4,g6,g20,g21,e1,hg5'.get,hG3.get,hG.get,↓KP,EN,↓reduceIte,reduceCtorEq,Nat.reduceEqDiff,Nat.reduceAdd,Nat.reduceLeDiff,Nat.reduceMul]<;>first|omega|rfl))
        | true =>
          rw [ha1] at g4 hst
          by_cases c1 : (a.2.length : Int) < L.length
          · rw [decide_eq_true c1, Bool.true_or] at hgx
            rw [if_pos ⟨rfl, hgx⟩] at hst
            simp(maxSteps:=9999999)(disch:=first|omega|(simp only[AN];omega))only[g4,g6,hvq.len,hvb.len,c1,↓KP,EN,↓reduceIte,reduceCtorEq,Nat.reduceEqDiff,Nat.reduceAdd,Nat.reduceLeDiff,Nat.reduceMul]
            simp(maxSteps:=9999999)(disch:=first|omega|(simp only[AN];omega))only[g4,g6,g20,g21,e1,↓KP,EN,↓reduceIte,reduceCtorEq,Nat.reduceEqDiff,Nat.reduceAdd,Nat.reduceLeDiff,Nat.reduceMul]
            refine ⟨_, ?_, j + 1, vb, a, _, rfl, (by rw [ha1]; simp(maxSteps:=9999999)(disch:=first|omega|(simp only[AN];omega))only[g4,↓KP,EN,↓reduceIte,reduceCtorEq,Nat.reduceEqDiff,Nat.reduceAdd,Nat.reduceLeDiff,Nat.reduceMul]), ?_, ?_, ?_, ?_, (by exact hst.symm), (by exact hvb3), rfl⟩ <;> (first|omega|(with_reducible assumption)|(with_reducible(repeat first|exact Grew.refl _|assumption|apply Grew.alloc|refine Grew.set ?_ _ (by first|omega|(simp only[AN];omega))|refine Grew.trans ?_ hG3|refine Grew.trans ?_ hG);done)|(simp(maxSteps:=9999999)(disch:=first|omega|(simp only[AN];omega))only[g4,g6,g20,g21,e1,hG3.get,hG.get,↓KP,EN,↓reduceIte,reduceCtorEq,Nat.reduceEqDiff,Nat.reduceAdd,Nat.reduceLeDiff,Nat.reduceMul]<;>first|omega|rfl))
          · by_cases c2 : (L.length : Int) = a.2.length
            · simp(maxSteps:=9999999)(disch:=first|omega|(simp only[AN];omega))only[g4,g6,hvq.len,hvb.len,c1,eq_true c2,↓KP,EN,↓reduceIte,reduceCtorEq,Nat.reduceEqDiff,Nat.reduceAdd,Nat.reduceLeDiff,Nat.reduceMul]
              first|refine C_call ?_|refine C_calld ?_
              refine Compare_run vq vb L a.2 hvqs hvb3 (by omega) (by omega) ?_
              by_cases c3 : 0 < compE L a.2
              · rw [decide_eq_true c2, decide_eq_true c3, Bool.true_and, Bool.or_true] at hgx
                rw [if_pos ⟨rfl, hgx⟩] at hst
                simp(maxSteps:=9999999)(disch:=first|omega|(simp only[AN];omega))only[c3,↓KP,EN,↓reduceIte,reduceCtorEq,Nat.reduceEqDiff,Nat.reduceAdd,Nat.reduceLeDiff,Nat.reduceMul]
                simp(maxSteps:=9999999)(disch:=first|omega|(simp only[AN];omega))only[g4,g6,g20,g21,e1,↓KP,EN,↓reduceIte,reduceCtorEq,Nat.reduceEqDiff,Nat.reduceAdd,Nat.reduceLeDiff,Nat.reduceMul]
                refine ⟨_, ?_, j + 1, vb, a, _, rfl, (by rw [ha1]; simp(maxSteps:=9999999)(disch:=first|omega|(simp only[AN];omega))only[g4,↓KP,EN,↓reduceIte,reduceCtorEq,Nat.reduceEqDiff,Nat.reduceAdd,Nat.reduceLeDiff,Nat.reduceMul]), ?_, ?_, ?_, ?_, (by exact hst.symm), (by exact hvb3), rfl⟩ <;> (first|omega|(with_reducible assumption)|(with_reducible(repeat first|exact Grew.refl _|assumption|apply Grew.alloc|refine Grew.set ?_ _ (by first|omega|(simp only[AN];omega))|refine Grew.trans ?_ hG3|refine Grew.trans ?_ hG);done)|(simp(maxSteps:=9999999)(disch:=first|omega|(simp only[AN];omega))only[g4,g6,g20,g21,e1,hG3.get,hG.get,↓KP,EN,↓reduceIte,reduceCtorEq,Nat.reduceEqDiff,Nat.reduceAdd,Nat.reduceLeDiff,Nat.reduceMul]<;>first|omega|rfl))
              · rw [decide_eq_false c1, decide_eq_false c3, Bool.and_false, Bool.or_false] at hgx
                simp(maxSteps:=9999999)(disch:=first|omega|(simp only[AN];omega))only[c3,↓KP,EN,↓reduceIte,reduceCtorEq,Nat.reduceEqDiff,Nat.reduceAdd,Nat.reduceLeDiff,Nat.reduceMul]
                simp(maxSteps:=9999999)(disch:=first|omega|(simp only[AN];omega))only[g5,hG3.get,hG.get,hbox1,↓KP,EN,↓reduceIte,reduceCtorEq,Nat.reduceEqDiff,Nat.reduceAdd,Nat.reduceLeDiff,Nat.reduceMul]
                first|refine C_call ?_|refine C_calld ?_
                refine look_run vl vg vf s j (hh.grow hgH3) fun H4 p m hg4 hm4 hheld => ?_
                have hg4n := hg4.next
                simp(maxSteps:=9999999)(disch:=first|omega|(simp only[AN];omega))only[↓KP,EN,↓reduceIte,reduceCtorEq,Nat.reduceEqDiff,Nat.reduceAdd,Nat.reduceLeDiff,Nat.reduceMul]
                first|refine C_call ?_|refine C_calld ?_
                refine some_run hfine (by omega) hheld fun H5 hg5 hh5 => ?_
                have hg5' : Grew H3 H5 := ⟨by have := hg5.next; omega, fun b hb' => by rw [hg5.get b (by omega) (by omega), hg4.get b hb']⟩
                have hg5n := hg5'.next
                by_cases ht : 0 < (truthsB s j).length
                · rw [if_neg (by rw [hgx]; simp), if_pos ht] at hst
                  simp(maxSteps:=9999999)(disch:=first|omega|(simp only[AN];omega))only[ht,↓KP,EN,↓reduceIte,reduceCtorEq,Nat.reduceEqDiff,Nat.reduceAdd,Nat.reduceLeDiff,Nat.reduceMul]
                  simp(maxSteps:=9999999)(disch:=first|omega|(simp only[AN];omega))only[g4,g6,g20,g21,e1,↓KP,EN,↓reduceIte,reduceCtorEq,Nat.reduceEqDiff,Nat.reduceAdd,Nat.reduceLeDiff,Nat.reduceMul]
                  refine ⟨_, ?_, j + 1, vq, (true, L), _, rfl, ?_, ?_, ?_, ?_, ?_, (by exact hst.symm), (by exact hvqs.grow EInt.stays hg5'), rfl⟩ <;> (first|omega|(with_reducible assumption)|(with_reducible(repeat first|exact Grew.refl _|assumption|apply Grew.alloc|refine Grew.set ?_ _ (by first|omega|(simp only[AN];omega))|refine Grew.trans ?_ hg5'|refine Grew.trans ?_ hG3|refine Grew.trans ?_ hG);done)|(simp(maxSteps:=9999999)(disch:=first|omega|(simp only[AN];omega))only[g4,g6,g20,g21,e1,hg5'.get,hG3.get,hG.get,↓KP,EN,↓reduceIte,reduceCtorEq,Nat.reduceEqDiff,Nat.reduceAdd,Nat.reduceLeDiff,Nat.reduceMul]<;>first|omega|rfl))
                · rw [if_neg (by rw [hgx]; simp), if_neg ht] at hst
                  simp(maxSteps:=9999999)(disch:=first|omega|(simp only[AN];omega))only[ht,↓KP,EN,↓reduceIte,reduceCtorEq,Nat.reduceEqDiff,Nat.reduceAdd,Nat.reduceLeDiff,Nat.reduceMul]
                  simp(maxSteps:=9999999)(disch:=first|omega|(simp only[AN];omega))only[g4,g6,g20,g21,e1,↓KP,EN,↓reduceIte,reduceCtorEq,Nat.reduceEqDiff,Nat.reduceAdd,Nat.reduceLeDiff,Nat.reduceMul]
                  refine ⟨_, ?_, j + 1, vb, a, _, rfl, (by rw [ha1]; simp(maxSteps:=9999999)(disch:=first|omega|(simp only[AN];omega))only[g4,↓KP,EN,↓reduceIte,reduceCtorEq,Nat.reduceEqDiff,Nat.reduceAdd,Nat.reduceLeDiff,Nat.reduceMul]), ?_, ?_, ?_, ?_, (by exact hst.symm), (by exact hvb3.grow EInt.stays hg5'), rfl⟩ <;> (first|omega|(with_reducible assumption)|(with_reducible(repeat first|exact Grew.refl _|assumption|apply Grew.alloc|refine Grew.set ?_ _ (by first|omega|(simp only[AN];omega))|refine Grew.trans ?_ hg5'|refine Grew.trans ?_ hG3|refine Grew.trans ?_ hG);done)|(simp(maxSteps:=9999999)(disch:=first|omega|(simp only[AN];omega))only[g4,g6,g20,g21,e1,hg5'.get,hG3.get,hG.get,↓KP,EN,↓reduceIte,reduceCtorEq,Nat.reduceEqDiff,Nat.reduceAdd,Nat.reduceLeDiff,Nat.reduceMul]<;>first|omega|rfl))
            · rw [decide_eq_false c1, decide_eq_false c2, Bool.false_and, Bool.or_false] at hgx
              simp(maxSteps:=9999999)(disch:=first|omega|(simp only[AN];omega))only[g4,g6,hvq.len,hvb.len,c1,c2,↓KP,EN,↓reduceIte,reduceCtorEq,Nat.reduceEqDiff,Nat.reduceAdd,Nat.reduceLeDiff,Nat.reduceMul]
              simp(maxSteps:=9999999)(disch:=first|omega|(simp only[AN];omega))only[g5,hG3.get,hG.get,hbox1,↓KP,EN,↓reduceIte,reduceCtorEq,Nat.reduceEqDiff,Nat.reduceAdd,Nat.reduceLeDiff,Nat.reduceMul]
              first|refine C_call ?_|refine C_calld ?_
              refine look_run vl vg vf s j (hh.grow hgH3) fun H4 p m hg4 hm4 hheld => ?_
              have hg4n := hg4.next
              simp(maxSteps:=9999999)(disch:=first|omega|(simp only[AN];omega))only[↓KP,EN,↓reduceIte,reduceCtorEq,Nat.reduceEqDiff,Nat.reduceAdd,Nat.reduceLeDiff,Nat.reduceMul]
              first|refine C_call ?_|refine C_calld ?_
              refine some_run hfine (by omega) hheld fun H5 hg5 hh5 => ?_
              have hg5' : Grew H3 H5 := ⟨by have := hg5.next; omega, fun b hb' => by rw [hg5.get b (by omega) (by omega), hg4.get b hb']⟩
              have hg5n := hg5'.next
              by_cases ht : 0 < (truthsB s j).length
              · rw [if_neg (by rw [hgx]; simp), if_pos ht] at hst
                simp(maxSteps:=9999999)(disch:=first|omega|(simp only[AN];omega))only[ht,↓KP,EN,↓reduceIte,reduceCtorEq,Nat.reduceEqDiff,Nat.reduceAdd,Nat.reduceLeDiff,Nat.reduceMul]
                simp(maxSteps:=9999999)(disch:=first|omega|(simp only[AN];omega))only[g4,g6,g20,g21,e1,↓KP,EN,↓reduceIte,reduceCtorEq,Nat.reduceEqDiff,Nat.reduceAdd,Nat.reduceLeDiff,Nat.reduceMul]
                refine ⟨_, ?_, j + 1, vq, (true, L), _, rfl, ?_, ?_, ?_, ?_, ?_, (by exact hst.symm), (by exact hvqs.grow EInt.stays hg5'), rfl⟩ <;> (first|omega|(with_reducible assumption)|(with_reducible(repeat first|exact Grew.refl _|assumption|apply Grew.alloc|refine Grew.set ?_ _ (by first|omega|(simp only[AN];omega))|refine Grew.trans ?_ hg5'|refine Grew.trans ?_ hG3|refine Grew.trans ?_ hG);done)|(simp(maxSteps:=9999999)(disch:=first|omega|(simp only[AN];omega))only[g4,g6,g20,g21,e1,hg5'.get,hG3.get,hG.get,↓KP,EN,↓reduceIte,reduceCtorEq,Nat.reduceEqDiff,Nat.reduceAdd,Nat.reduceLeDiff,Nat.reduceMul]<;>first|omega|rfl))
              · rw [if_neg (by rw [hgx]; simp), if_neg ht] at hst
                simp(maxSteps:=9999999)(disch:=first|omega|(simp only[AN];omega))only[ht,↓KP,EN,↓reduceIte,reduceCtorEq,Nat.reduceEqDiff,Nat.reduceAdd,Nat.reduceLeDiff,Nat.reduceMul]
                simp(maxSteps:=9999999)(disch:=first|omega|(simp only[AN];omega))only[g4,g6,g20,g21,e1,↓KP,EN,↓reduceIte,reduceCtorEq,Nat.reduceEqDiff,Nat.reduceAdd,Nat.reduceLeDiff,Nat.reduceMul]
                refine ⟨_, ?_, j + 1, vb, a, _, rfl, (by rw [ha1]; simp(maxSteps:=9999999)(disch:=first|omega|(simp only[AN];omega))only[g4,↓KP,EN,↓reduceIte,reduceCtorEq,Nat.reduceEqDiff,Nat.reduceAdd,Nat.reduceLeDiff,Nat.reduceMul]), ?_, ?_, ?_, ?_, (by exact hst.symm), (by exact hvb3.grow EInt.stays hg5'), rfl⟩ <;> (first|omega|(with_reducible assumption)|(with_reducible(repeat first|exact Grew.refl _|assumption|apply Grew.alloc|refine Grew.set ?_ _ (by first|omega|(simp only[AN];omega))|refine Grew.trans ?_ hg5'|refine Grew.trans ?_ hG3|refine Grew.trans ?_ hG);done)|(simp(maxSteps:=9999999)(disch:=first|omega|(simp only[AN];omega))only[g4,g6,g20,g21,e1,hg5'.get,hG3.get,hG.get,↓KP,EN,↓reduceIte,reduceCtorEq,Nat.reduceEqDiff,Nat.reduceAdd,Nat.reduceLeDiff,Nat.reduceMul]<;>first|omega|rfl))
    · have hje : j = q := by omega
      subst hje
      rw [← ha] at k
      cases ha1 : a.1 with
      | false =>
        rw [ha1] at k f4
        simp(maxSteps:=9999999)(disch:=first|omega|(simp only[AN];omega))only[f4,↓KP,EN,↓reduceIte,reduceCtorEq,Nat.reduceEqDiff,Nat.reduceAdd,Nat.reduceLeDiff,Nat.reduceMul]
        exact k _ _ GW (.inl ⟨rfl, rfl⟩)
      | true =>
        rw [ha1] at k f4
        simp(maxSteps:=9999999)(disch:=first|omega|(simp only[AN];omega))only[f4,↓KP,EN,↓reduceIte,reduceCtorEq,Nat.reduceEqDiff,Nat.reduceAdd,Nat.reduceLeDiff,Nat.reduceMul]
        exact k _ _ GW hvb
  · have he' : ¬ errE s = 0 := he
    rw [if_pos he'] at k
    simp(maxSteps:=9999999)(disch:=first|omega|(simp only[AN];omega))only[he,↓KP,EN,↓reduceIte,reduceCtorEq,Nat.reduceEqDiff,Nat.reduceAdd,Nat.reduceLeDiff,Nat.reduceMul]
    exact k _ _ GW (.inl ⟨rfl, rfl⟩)
end Go.Proofs.Ytihahmggfjjkjaa
namespace Go.Proofs.Ytihahmggfjjkjaa
open Go.AM Go.IntWalk Go.PL
set_option maxRecDepth 100000
set_option maxHeartbeats 4000000
set_option linter.unusedSimpArgs false
variable {H : AH} {R : AV → AH → Prop}
def seriesE (f : List (Int × Int)) : Series := ⟨[true, false, false, true, false, false, false, true], 3, 5, [8, 9], true, f⟩
def fillA (a : Int) : List (Int × Int) := if 0 ≤ a then [(4, a)] else []
def fillE (a b : Int) : List (Int × Int) := fillA a ++ (if 0 ≤ b then [(2, b)] else [])
theorem span_run (a b : Int) (k : ∀ H', Grew H H' → R (.agg [I a, I b]) H') : CallQ prog (.func 36 [] []) [I a, I b] H R := by
  refine CallQ_enter (fn:=c36) rfl (Nat.le_of_ble_eq_true rfl) ?_;simp(maxSteps:=9999999)(disch:=first|omega|(simp only[AN];omega))only[c36,envFrom,↓KP,EN,↓reduceIte,reduceCtorEq,Nat.reduceEqDiff,Nat.reduceAdd,Nat.reduceLeDiff,Nat.reduceMul]
  refine k _ ?_
  exact GW
theorem bool_rows {F : Nat → Prop} {H : AH} : ∀ l : List Bool, Go.AM.Rows 1 (EB F H) (l.map AV.bool) l
  | [] => .nil
  | a :: l => .cons (cs := [.bool a]) rfl rfl (bool_rows l)
theorem Series_run (a b : Int) (k : ∀ H' vl vg vf, Grew H H' → IsSer (Old H') H' vl vg vf (seriesE (fillE a b)) → R (serArg vl vg vf (seriesE (fillE a b))) H') : CallQ prog (.func 35 [] []) [I a, I b] H R := by
  refine CallQ_enter (fn:=c35) rfl (Nat.le_of_ble_eq_true rfl) ?_;simp(maxSteps:=9999999)(disch:=first|omega|(simp only[AN];omega))only[c35,envFrom,↓KP,EN,↓reduceIte,reduceCtorEq,Nat.reduceEqDiff,Nat.reduceAdd,Nat.reduceLeDiff,Nat.reduceMul]
  first|refine C_call ?_|refine C_calld ?_
  refine span_run 3 5 fun H1 hg1 => ?_
  have hg1n:=hg1.next;try simp only[AN]at hg1n
  have hg1' : Grew H H1 := Grew.trans GW hg1
  simp(maxSteps:=9999999)(disch:=first|omega|(simp only[AN];omega))only[↓KP,EN,↓reduceIte,reduceCtorEq,Nat.reduceEqDiff,Nat.reduceAdd,Nat.reduceLeDiff,Nat.reduceMul]
  generalize hB : AH.set _ _ _ = B
  have e0 : B.get (H.next + 1) = some (.cells false ([true, false, false, true, false, false, false, true].map AV.bool)) := by rw [← hB]; simp(maxSteps:=9999999)(disch:=first|omega|(simp only[AN];omega))only[hg1.get,↓KP,EN,↓reduceIte,reduceCtorEq,Nat.reduceEqDiff,Nat.reduceAdd,Nat.reduceLeDiff,Nat.reduceMul]; rfl
  have e1 : B.get H1.next = some (.cells false [I 8, I 9]) := by rw [← hB]; simp(maxSteps:=9999999)(disch:=first|omega|(simp only[AN];omega))only[↓KP,EN,↓reduceIte,reduceCtorEq,Nat.reduceEqDiff,Nat.reduceAdd,Nat.reduceLeDiff,Nat.reduceMul]
  have e2 : B.get (H1.next + 1) = some (.cells false [.slice (H.next + 1) 0 8 1, I 3, I 5, .slice H1.next 0 2 1, .bool true, .nilslice]) := by rw [← hB]; simp(maxSteps:=9999999)(disch:=first|omega|(simp only[AN];omega))only[↓KP,EN,↓reduceIte,reduceCtorEq,Nat.reduceEqDiff,Nat.reduceAdd,Nat.reduceLeDiff,Nat.reduceMul]
  have e3 : B.get H.next = some (.cells false [.nilslice, I 0, I 0, .nilslice, .bool false, .nilslice]) := by rw [← hB]; simp(maxSteps:=9999999)(disch:=first|omega|(simp only[AN];omega))only[hg1.get,↓KP,EN,↓reduceIte,reduceCtorEq,Nat.reduceEqDiff,Nat.reduceAdd,Nat.reduceLeDiff,Nat.reduceMul]
  have hn : B.next = H1.next + 1 + 1 := by rw [← hB]; rfl
  have hgB : Grew H B := by rw [← hB]; exact GW
  clear hB
  refine C_join (fun e' H' => e' = [(0, I a), (1, I b), (4, .ptr H.next 0), (5, .ptr (H1.next + 1) 0), (11, .bool (decide (0 ≤ a)))] ∧ ∃ vf, B.next ≤ H'.next ∧ (∀ b, b < B.next → b ≠ H1.next + 1 → H'.get b = B.get b) ∧ H'.get (H1.next + 1) = some (.cells false [.slice (H.next + 1) 0 8 1, I 3, I 5, .slice H1.next 0 2 1, .bool true, vf]) ∧ Mine 2 EP (fun _ => False) B.next H' vf (fillA a)) ?_ ?_
  · refine C_decide (fun ha => ?_) (fun ha => ?_)
    · obtain ⟨v, H2, b1, b2, b3, b4⟩ := (Mine.nil (H := B) (z := 2) (E := EP) (P := fun _ => False) (N := B.next)).push (bytes := 16) (cs := [I 4, I a]) (a := (4, a)) (F := fun _ => False) EP.stays (by omega) rfl (fun _ h => h.elim) rfl rfl (by decide)
      have b5 : H2.get (H1.next + 1) = B.get (H1.next + 1) := b4 _ (by omega)
      simp(maxSteps:=9999999)(disch:=first|omega|(simp only[AN];omega))only[e2,b1,b5,b2.cells?,b2.isCell,↓KP,EN,↓reduceIte,reduceCtorEq,Nat.reduceEqDiff,Nat.reduceAdd,Nat.reduceLeDiff,Nat.reduceMul]
      refine K_joined ⟨?_, v, ?_, ?_, ?_, ?_⟩
      · rw [decide_eq_true ha]
      · simp(maxSteps:=9999999)(disch:=first|omega|(simp only[AN];omega))only[↓KP,EN,↓reduceIte,reduceCtorEq,Nat.reduceEqDiff,Nat.reduceAdd,Nat.reduceLeDiff,Nat.reduceMul]; omega
      · intro b hb hb'
        simp(maxSteps:=9999999)(disch:=first|omega|(simp only[AN];omega))only[b4,↓KP,EN,↓reduceIte,reduceCtorEq,Nat.reduceEqDiff,Nat.reduceAdd,Nat.reduceLeDiff,Nat.reduceMul]
      · simp(maxSteps:=9999999)(disch:=first|omega|(simp only[AN];omega))only[↓KP,EN,↓reduceIte,reduceCtorEq,Nat.reduceEqDiff,Nat.reduceAdd,Nat.reduceLeDiff,Nat.reduceMul]
      · rw [fillA, if_pos ha]
        exact b2.move EP.stays (fun k hk hor => by rcases hor with h | h; exact h.elim; simp(maxSteps:=9999999)(disch:=first|omega|(simp only[AN];omega))only[↓KP,EN,↓reduceIte,reduceCtorEq,Nat.reduceEqDiff,Nat.reduceAdd,Nat.reduceLeDiff,Nat.reduceMul]) (by simp(maxSteps:=9999999)(disch:=first|omega|(simp only[AN];omega))only[↓KP,EN,↓reduceIte,reduceCtorEq,Nat.reduceEqDiff,Nat.reduceAdd,Nat.reduceLeDiff,Nat.reduceMul]; omega)
    · simp(maxSteps:=9999999)(disch:=first|omega|(simp only[AN];omega))only[↓KP,EN,↓reduceIte,reduceCtorEq,Nat.reduceEqDiff,Nat.reduceAdd,Nat.reduceLeDiff,Nat.reduceMul]
      refine K_joined ⟨?_, .nilslice, Nat.le_refl _, fun _ _ _ => rfl, e2, ?_⟩
      · rw [decide_eq_false ha]
      · rw [fillA, if_neg ha]; exact Mine.nil
  · rintro _ H2 ⟨rfl, v2, c1, c2, c3, c4⟩
    have hl2 : (fillA a).length ≤ 1 := by unfold fillA; split <;> simp
    simp(maxSteps:=9999999)(disch:=first|omega|(simp only[AN];omega))only[↓KP,EN,↓reduceIte,reduceCtorEq,Nat.reduceEqDiff,Nat.reduceAdd,Nat.reduceLeDiff,Nat.reduceMul]
    refine C_join (fun e' H' => e' = [(0, I a), (1, I b), (4, .ptr H.next 0), (5, .ptr (H1.next + 1) 0), (11, .bool (decide (0 ≤ a))), (20, .bool (decide (0 ≤ b)))] ∧ ∃ vf, B.next ≤ H'.next ∧ (∀ b, b < B.next → b ≠ H1.next + 1 → H'.get b = B.get b) ∧ H'.get (H1.next + 1) = some (.cells false [.slice (H.next + 1) 0 8 1, I 3, I 5, .slice H1.next 0 2 1, .bool true, vf]) ∧ Mine 2 EP (fun _ => False) B.next H' vf (fillE a b)) ?_ ?_
    · refine C_decide (fun hb => ?_) (fun hb => ?_)
      · obtain ⟨v3, H3, b1, b2, b3, b4⟩ := copy_mine (P := fun _ => False) (N := H2.next) (bytes := 16) EP.stays (c4.sl EP.stays) (fun k hk => hk) (fun _ _ h => h) (Nat.le_refl _) EP.isCell (by omega)
        have b5 : H3.get (H1.next + 1) = H2.get (H1.next + 1) := b4 _ (by omega)
        obtain ⟨v4, H4, d1, d2, d3, d4⟩ := b2.push (bytes := 16) (cs := [I 2, I b]) (a := (2, b)) (F := fun _ => False) EP.stays (by omega) rfl (fun _ h => h.elim) rfl rfl (by omega)
        have d5 : H4.get (H1.next + 1) = H2.get (H1.next + 1) := by rw [d4 _ (by omega), b5]
        simp(maxSteps:=9999999)(disch:=first|omega|(simp only[AN];omega))only[c3,b1,b5,d1,d5,d2.cells?,d2.isCell,↓KP,EN,↓reduceIte,reduceCtorEq,Nat.reduceEqDiff,Nat.reduceAdd,Nat.reduceLeDiff,Nat.reduceMul]
        refine K_joined ⟨?_, v4, ?_, ?_, ?_, ?_⟩
        · rw [decide_eq_true hb]
        · simp(maxSteps:=9999999)(disch:=first|omega|(simp only[AN];omega))only[↓KP,EN,↓reduceIte,reduceCtorEq,Nat.reduceEqDiff,Nat.reduceAdd,Nat.reduceLeDiff,Nat.reduceMul]; omega
        · intro b hb hb'
          simp(maxSteps:=9999999)(disch:=first|omega|(simp only[AN];omega))only[d4,b4,c2,↓KP,EN,↓reduceIte,reduceCtorEq,Nat.reduceEqDiff,Nat.reduceAdd,Nat.reduceLeDiff,Nat.reduceMul]
        · simp(maxSteps:=9999999)(disch:=first|omega|(simp only[AN];omega))only[↓KP,EN,↓reduceIte,reduceCtorEq,Nat.reduceEqDiff,Nat.reduceAdd,Nat.reduceLeDiff,Nat.reduceMul]
        · rw [fillE, if_pos hb]
          exact (d2.move (H' := H4.set (H1.next + 1) _) EP.stays (fun k hk hor => by rcases hor with h | h; exact h.elim; simp(maxSteps:=9999999)(disch:=first|omega|(simp only[AN];omega))only[↓KP,EN,↓reduceIte,reduceCtorEq,Nat.reduceEqDiff,Nat.reduceAdd,Nat.reduceLeDiff,Nat.reduceMul]) (by simp(maxSteps:=9999999)(disch:=first|omega|(simp only[AN];omega))only[↓KP,EN,↓reduceIte,reduceCtorEq,Nat.reduceEqDiff,Nat.reduceAdd,Nat.reduceLeDiff,Nat.reduceMul]; omega)).weak (by omega) (fun _ h => h.elim) EP.stays
      · simp(maxSteps:=9999999)(disch:=first|omega|(simp only[AN];omega))only[↓KP,EN,↓reduceIte,reduceCtorEq,Nat.reduceEqDiff,Nat.reduceAdd,Nat.reduceLeDiff,Nat.reduceMul]
        refine K_joined ⟨?_, v2, c1, c2, c3, ?_⟩
        · rw [decide_eq_false hb]
        · rw [fillE, if_neg hb, List.append_nil]; exact c4
    · rintro _ H3 ⟨rfl, v3, d1, d2, d3, d4⟩
      have d6 := d2 H.next (by omega) (by omega)
      rw [e3] at d6
      simp(maxSteps:=9999999)(disch:=first|omega|(simp only[AN];omega))only[d3,d6,d4.isCell,↓KP,EN,↓reduceIte,reduceCtorEq,Nat.reduceEqDiff,Nat.reduceAdd,Nat.reduceLeDiff,Nat.reduceMul]
      have hgF : ∀ o, Grew H (H3.set H.next o) := fun o => ⟨by simp(maxSteps:=9999999)(disch:=first|omega|(simp only[AN];omega))only[↓KP,EN,↓reduceIte,reduceCtorEq,Nat.reduceEqDiff,Nat.reduceAdd,Nat.reduceLeDiff,Nat.reduceMul]; omega, fun b hb => by simp(maxSteps:=9999999)(disch:=first|omega|(simp only[AN];omega))only[d2,hgB.get,↓KP,EN,↓reduceIte,reduceCtorEq,Nat.reduceEqDiff,Nat.reduceAdd,Nat.reduceLeDiff,Nat.reduceMul]⟩
      have l8 : (H3.set H.next (.cells false [.slice (H.next + 1) 0 8 1, I 3, I 5, .slice H1.next 0 2 1, .bool true, v3])).read (H.next + 1) 0 8 = some ([true, false, false, true, false, false, false, true].map AV.bool) := by simp only [AH.read]; simp(maxSteps:=9999999)(disch:=first|omega|(simp only[AN];omega))only[d2,e0,↓KP,EN,↓reduceIte,reduceCtorEq,Nat.reduceEqDiff,Nat.reduceAdd,Nat.reduceLeDiff,Nat.reduceMul]; rfl
      have l2 : (H3.set H.next (.cells false [.slice (H.next + 1) 0 8 1, I 3, I 5, .slice H1.next 0 2 1, .bool true, v3])).read H1.next 0 2 = some [I 8, I 9] := by simp only [AH.read]; simp(maxSteps:=9999999)(disch:=first|omega|(simp only[AN];omega))only[d2,e1,↓KP,EN,↓reduceIte,reduceCtorEq,Nat.reduceEqDiff,Nat.reduceAdd,Nat.reduceLeDiff,Nat.reduceMul]
      refine k _ (.slice (H.next + 1) 0 8 1) (.slice H1.next 0 2 1) v3 (hgF _) ⟨.inr ⟨H.next + 1, 0, _, rfl, ?_, l8, bool_rows _⟩, .inr ⟨H1.next, 0, _, rfl, ?_, l2, ints_rows [8, 9]⟩, ?_⟩
      · show H.next + 1 < H3.next; omega
      · show H1.next < H3.next; omega
      · exact (d4.move (H' := H3.set H.next _) EP.stays (fun k hk hor => by rcases hor with h | h; exact h.elim; simp(maxSteps:=9999999)(disch:=first|omega|(simp only[AN];omega))only[↓KP,EN,↓reduceIte,reduceCtorEq,Nat.reduceEqDiff,Nat.reduceAdd,Nat.reduceLeDiff,Nat.reduceMul]) (by simp(maxSteps:=9999999)(disch:=first|omega|(simp only[AN];omega))only[↓KP,EN,↓reduceIte,reduceCtorEq,Nat.reduceEqDiff,Nat.reduceAdd,Nat.reduceLeDiff,Nat.reduceMul]; omega)).sl EP.stays
theorem sized_series (f : List (Int × Int)) (h : f.length ≤ 4) : Sized (seriesE f) := ⟨by show 8 ≤ 9223372036854775807; omega, by show 2 ≤ 9223372036854775807; omega, Nat.le_trans h (by omega), by show IntKind.i64.min ≤ 3 ∧ 3 ≤ IntKind.i64.max; decide, by show IntKind.i64.min ≤ 5 ∧ 5 ≤ IntKind.i64.max; decide⟩
theorem series_s : fillE (-1) (-1) = [] := rfl
theorem series_f : fillE 3 (-1) = [(4, 3)] := rfl
theorem series_w : fillE 3 0 = [(4, 3), (2, 0)] := rfl
end Go.Proofs.Ytihahmggfjjkjaa
namespace Go.Proofs.Ytihahmggfjjkjaa
open Go.AM Go.IntWalk Go.PL
set_option maxRecDepth 100000
set_option maxHeartbeats 4000000
set_option linter.unusedSimpArgs false
variable {H : AH} {R : AV → AH → Prop}
abbrev sS : Series := seriesE []
abbrev sF : Series := seriesE [(4, 3)]
abbrev sW : Series := seriesE [(4, 3), (2, 0)]
theorem ex_t1 : thereE sS 0 4 = (0, 0) := by decide +kernel
theorem ex_t2 : thereE sS 1 2 = (1, 0) := by decide +kernel
theorem ex_t3 : thereE sS 1 5 = (2, 0) := by decide +kernel
theorem ex_n1 : numberE sS 4 = ((0, 3), 0) := by decide +kernel
theorem ex_n2 : numberE sF 5 = ((1, 2), 0) := by decide +kernel
theorem ex_l1 : lastedE sS 1 = ((4, 5), 0) := by decide +kernel
theorem ex_u1 : unseenE sF = (1, 0) := by decide +kernel
theorem ex_f1 : firstE sS = ([(1, 3), (0, 3)], 0) := by decide +kernel
theorem ex_o1 : openE sS = (4, 3, 0) := by decide +kernel
theorem ex_w1 : wrongE sW = ([1], 0) := by decide +kernel
theorem ex_u2 : unseenE sW = (0, 8) := by decide +kernel
theorem ex_t4 : thereE sS 2 0 = (0, 4) := by decide +kernel
theorem two_spans (H : AH) (p q : Int × Int) : IsSl 2 EP (Old (H.alloc (.cells false [I p.1, I p.2, I q.1, I q.2]))) (H.alloc (.cells false [I p.1, I p.2, I q.1, I q.2])) (.slice H.next 0 2 2) [p, q] :=
  .inr ⟨_, _, [I p.1, I p.2, I q.1, I q.2], rfl, (by show H.next < H.next + 1; omega), by simp [AH.read, get_alloc_new, readN], Rows.cons (cs := [I p.1, I p.2]) rfl rfl (Rows.single rfl rfl)⟩
theorem Awake_run (k : ∀ H', Grew H H' → R (.bool true) H') : CallQ prog (.func 22 [] []) [] H R := by
  refine CallQ_enter (fn:=c22) rfl (Nat.le_of_ble_eq_true rfl) ?_;simp(maxSteps:=9999999)(disch:=first|omega|(simp only[AN];omega))only[c22,envFrom,↓KP,EN,↓reduceIte,reduceCtorEq,Nat.reduceEqDiff,Nat.reduceAdd,Nat.reduceLeDiff,Nat.reduceMul]
  first|refine C_call ?_|refine C_calld ?_
  refine Series_run (-1) (-1) fun A1 l1 g1 f1 ga1 ha1 => ?_
  rw [series_s] at ha1 ⊢
  have na1 := ga1.next
  simp(maxSteps:=9999999)(disch:=first|omega|(simp only[AN];omega))only[↓KP,EN,↓reduceIte,reduceCtorEq,Nat.reduceEqDiff,Nat.reduceAdd,Nat.reduceLeDiff,Nat.reduceMul]
  first|refine C_call ?_|refine C_calld ?_
  refine Series_run 3 (-1) fun A2 l2 g2 f2 ga2 ha2 => ?_
  rw [series_f] at ha2 ⊢
  have na2 := ga2.next
  simp(maxSteps:=9999999)(disch:=first|omega|(simp only[AN];omega))only[↓KP,EN,↓reduceIte,reduceCtorEq,Nat.reduceEqDiff,Nat.reduceAdd,Nat.reduceLeDiff,Nat.reduceMul]
  first|refine C_call ?_|refine C_calld ?_
  refine Series_run 3 0 fun A3 l3 g3 f3 ga3 ha3 => ?_
  rw [series_w] at ha3 ⊢
  have na3 := ga3.next
  replace ha1 := (ha1.grow ga2).grow ga3
  replace ha2 := ha2.grow ga3
  have hgA : Grew H A3 := (ga1.trans ga2).trans ga3
  simp(maxSteps:=9999999)(disch:=first|omega|(simp only[AN];omega))only[ha1.l.isCell,ha1.g.isCell,ha1.f.isCell,ha2.l.isCell,ha2.g.isCell,ha2.f.isCell,ha3.l.isCell,ha3.g.isCell,ha3.f.isCell,↓KP,EN,↓reduceIte,reduceCtorEq,Nat.reduceEqDiff,Nat.reduceAdd,Nat.reduceLeDiff,Nat.reduceMul]
  generalize hB : AH.set _ _ _ = B
  have b1 : B.get A3.next = some (.cells false [l1, I 3, I 5, g1, .bool true, f1]) := by rw [← hB]; simp(maxSteps:=9999999)(disch:=first|omega|(simp only[AN];omega))only[↓KP,EN,↓reduceIte,reduceCtorEq,Nat.reduceEqDiff,Nat.reduceAdd,Nat.reduceLeDiff,Nat.reduceMul]; rfl
  have b2 : B.get (A3.next + 1) = some (.cells false [l2, I 3, I 5, g2, .bool true, f2]) := by rw [← hB]; simp(maxSteps:=9999999)(disch:=first|omega|(simp only[AN];omega))only[↓KP,EN,↓reduceIte,reduceCtorEq,Nat.reduceEqDiff,Nat.reduceAdd,Nat.reduceLeDiff,Nat.reduceMul]; rfl
  have b3 : B.get (A3.next + 1 + 1) = some (.cells false [l3, I 3, I 5, g3, .bool true, f3]) := by rw [← hB]; simp(maxSteps:=9999999)(disch:=first|omega|(simp only[AN];omega))only[↓KP,EN,↓reduceIte,reduceCtorEq,Nat.reduceEqDiff,Nat.reduceAdd,Nat.reduceLeDiff,Nat.reduceMul]; rfl
  have hgB : Grew A3 B := by rw [← hB]; exact GW
  have hBn : B.next = A3.next + 1 + 1 + 1 := by rw [← hB]; rfl
  clear hB
  replace ha1 := ha1.grow hgB
  replace ha2 := ha2.grow hgB
  replace ha3 := ha3.grow hgB
  have hgH : Grew H B := hgA.trans hgB
  have z1 := sized_series [] (by decide)
  have z2 := sized_series [(4, 3)] (by decide)
  have z3 := sized_series [(4, 3), (2, 0)] (by decide)
  first|refine C_call ?_|refine C_calld ?_
  refine There_run l1 g1 f1 sS 0 4 (ha1.grow GW) z1 fun D1 hg1 => ?_
  have hg1n := hg1.next; try simp only [AN] at hg1n
  rw [ex_t1]
  simp(maxSteps:=9999999)(disch:=first|omega|(simp only[AN];omega))only[hg1.get,b1,b2,b3,↓KP,EN,↓reduceIte,reduceCtorEq,Nat.reduceEqDiff,Nat.reduceAdd,Nat.reduceLeDiff,Nat.reduceMul]
  first|refine C_call ?_|refine C_calld ?_
  refine There_run l1 g1 f1 sS 1 2 (ha1.grow GW) z1 fun D2 hg2 => ?_
  have hg2n := hg2.next; try simp only [AN] at hg2n
  rw [ex_t2]
  simp(maxSteps:=9999999)(disch:=first|omega|(simp only[AN];omega))only[hg2.get,hg1.get,b1,b2,b3,↓KP,EN,↓reduceIte,reduceCtorEq,Nat.reduceEqDiff,Nat.reduceAdd,Nat.reduceLeDiff,Nat.reduceMul]
  first|refine C_call ?_|refine C_calld ?_
  refine There_run l1 g1 f1 sS 1 5 (ha1.grow GW) z1 fun D3 hg3 => ?_
  have hg3n := hg3.next; try simp only [AN] at hg3n
  rw [ex_t3]
  simp(maxSteps:=9999999)(disch:=first|omega|(simp only[AN];omega))only[hg3.get,hg2.get,hg1.get,b1,b2,b3,↓KP,EN,↓reduceIte,reduceCtorEq,Nat.reduceEqDiff,Nat.reduceAdd,Nat.reduceLeDiff,Nat.reduceMul]
  first|refine C_call ?_|refine C_calld ?_
  refine Number_run l1 g1 f1 sS 4 (ha1.grow GW) z1 fun D4 hg4 => ?_
  have hg4n := hg4.next; try simp only [AN] at hg4n
  rw [ex_n1]
  simp(maxSteps:=9999999)(disch:=first|omega|(simp only[AN];omega))only[hg4.get,hg3.get,hg2.get,hg1.get,b1,b2,b3,↓KP,EN,↓reduceIte,reduceCtorEq,Nat.reduceEqDiff,Nat.reduceAdd,Nat.reduceLeDiff,Nat.reduceMul]
  first|refine C_call ?_|refine C_calld ?_
  refine Number_run l2 g2 f2 sF 5 (ha2.grow GW) z2 fun D5 hg5 => ?_
  have hg5n := hg5.next; try simp only [AN] at hg5n
  rw [ex_n2]
  simp(maxSteps:=9999999)(disch:=first|omega|(simp only[AN];omega))only[hg5.get,hg4.get,hg3.get,hg2.get,hg1.get,b1,b2,b3,↓KP,EN,↓reduceIte,reduceCtorEq,Nat.reduceEqDiff,Nat.reduceAdd,Nat.reduceLeDiff,Nat.reduceMul]
  first|refine C_call ?_|refine C_calld ?_
  refine Lasted_run l1 g1 f1 sS 1 (ha1.grow GW) z1 fun D6 hg6 => ?_
  have hg6n := hg6.next; try simp only [AN] at hg6n
  rw [ex_l1]
  simp(maxSteps:=9999999)(disch:=first|omega|(simp only[AN];omega))only[hg6.get,hg5.get,hg4.get,hg3.get,hg2.get,hg1.get,b1,b2,b3,↓KP,EN,↓reduceIte,reduceCtorEq,Nat.reduceEqDiff,Nat.reduceAdd,Nat.reduceLeDiff,Nat.reduceMul]
  first|refine C_call ?_|refine C_calld ?_
  refine Unseen_run l2 g2 f2 sF (ha2.grow GW) z2 fun D7 hg7 => ?_
  have hg7n := hg7.next; try simp only [AN] at hg7n
  rw [ex_u1]
  simp(maxSteps:=9999999)(disch:=first|omega|(simp only[AN];omega))only[hg7.get,hg6.get,hg5.get,hg4.get,hg3.get,hg2.get,hg1.get,b1,b2,b3,↓KP,EN,↓reduceIte,reduceCtorEq,Nat.reduceEqDiff,Nat.reduceAdd,Nat.reduceLeDiff,Nat.reduceMul]
  first|refine C_call ?_|refine C_calld ?_
  refine First_run l1 g1 f1 sS (ha1.grow GW) z1 fun D8 v8 hg8 hv8 => ?_
  have hg8n := hg8.next; try simp only [AN] at hg8n
  rw [ex_f1] at hv8 ⊢
  simp(maxSteps:=9999999)(disch:=first|omega|(simp only[AN];omega))only[hg8.get,hg7.get,hg6.get,hg5.get,hg4.get,hg3.get,hg2.get,hg1.get,b1,b2,b3,↓KP,EN,↓reduceIte,reduceCtorEq,Nat.reduceEqDiff,Nat.reduceAdd,Nat.reduceLeDiff,Nat.reduceMul]
  first|refine C_call ?_|refine C_calld ?_
  refine Open_run l1 g1 f1 sS (ha1.grow GW) z1 fun D9 hg9 => ?_
  have hg9n := hg9.next; try simp only [AN] at hg9n
  rw [ex_o1]
  simp(maxSteps:=9999999)(disch:=first|omega|(simp only[AN];omega))only[hg9.get,hg8.get,hg7.get,hg6.get,hg5.get,hg4.get,hg3.get,hg2.get,hg1.get,b1,b2,b3,↓KP,EN,↓reduceIte,reduceCtorEq,Nat.reduceEqDiff,Nat.reduceAdd,Nat.reduceLeDiff,Nat.reduceMul]
  first|refine C_call ?_|refine C_calld ?_
  refine Wrong_run l3 g3 f3 sW (ha3.grow GW) z3 fun D10 v10 hg10 hv10 => ?_
  have hg10n := hg10.next; try simp only [AN] at hg10n
  rw [ex_w1] at hv10 ⊢
  simp(maxSteps:=9999999)(disch:=first|omega|(simp only[AN];omega))only[hg10.get,hg9.get,hg8.get,hg7.get,hg6.get,hg5.get,hg4.get,hg3.get,hg2.get,hg1.get,b1,b2,b3,↓KP,EN,↓reduceIte,reduceCtorEq,Nat.reduceEqDiff,Nat.reduceAdd,Nat.reduceLeDiff,Nat.reduceMul]
  first|refine C_call ?_|refine C_calld ?_
  refine Unseen_run l3 g3 f3 sW (ha3.grow GW) z3 fun D11 hg11 => ?_
  have hg11n := hg11.next; try simp only [AN] at hg11n
  rw [ex_u2]
  simp(maxSteps:=9999999)(disch:=first|omega|(simp only[AN];omega))only[hg11.get,hg10.get,hg9.get,hg8.get,hg7.get,hg6.get,hg5.get,hg4.get,hg3.get,hg2.get,hg1.get,b1,b2,b3,↓KP,EN,↓reduceIte,reduceCtorEq,Nat.reduceEqDiff,Nat.reduceAdd,Nat.reduceLeDiff,Nat.reduceMul]
  first|refine C_call ?_|refine C_calld ?_
  refine There_run l1 g1 f1 sS 2 0 (ha1.grow GW) z1 fun D12 hg12 => ?_
  have hg12n := hg12.next; try simp only [AN] at hg12n
  rw [ex_t4]
  simp(maxSteps:=9999999)(disch:=first|omega|(simp only[AN];omega))only[hg12.get,hg11.get,hg10.get,hg9.get,hg8.get,hg7.get,hg6.get,hg5.get,hg4.get,hg3.get,hg2.get,hg1.get,b1,b2,b3,↓KP,EN,↓reduceIte,reduceCtorEq,Nat.reduceEqDiff,Nat.reduceAdd,Nat.reduceLeDiff,Nat.reduceMul]
  have c1 : D12.get D4.next = some (.cells false [I 0, I 3]) := by simp(maxSteps:=9999999)(disch:=first|omega|(simp only[AN];omega))only[hg12.get,hg11.get,hg10.get,hg9.get,hg8.get,hg7.get,hg6.get,hg5.get,hg4.get,hg3.get,hg2.get,hg1.get,↓KP,EN,↓reduceIte,reduceCtorEq,Nat.reduceEqDiff,Nat.reduceAdd,Nat.reduceLeDiff,Nat.reduceMul]
  have c2 : D12.get D5.next = some (.cells false [I 1, I 2]) := by simp(maxSteps:=9999999)(disch:=first|omega|(simp only[AN];omega))only[hg12.get,hg11.get,hg10.get,hg9.get,hg8.get,hg7.get,hg6.get,hg5.get,hg4.get,hg3.get,hg2.get,hg1.get,↓KP,EN,↓reduceIte,reduceCtorEq,Nat.reduceEqDiff,Nat.reduceAdd,Nat.reduceLeDiff,Nat.reduceMul]
  have c3 : D12.get D6.next = some (.cells false [I 4, I 5]) := by simp(maxSteps:=9999999)(disch:=first|omega|(simp only[AN];omega))only[hg12.get,hg11.get,hg10.get,hg9.get,hg8.get,hg7.get,hg6.get,hg5.get,hg4.get,hg3.get,hg2.get,hg1.get,↓KP,EN,↓reduceIte,reduceCtorEq,Nat.reduceEqDiff,Nat.reduceAdd,Nat.reduceLeDiff,Nat.reduceMul]
  have hgD : Grew B D12 := GW
  have nD := hgD.next
  replace hv8 := hv8.grow EP.stays (((hg9.trans hg10).trans hg11).trans hg12)
  replace hv10 := hv10.grow EInt.stays (hg11.trans hg12)
  have n4 : D4.next < D12.next := by omega
  have n5 : D5.next < D12.next := by omega
  have n6 : D6.next < D12.next := by omega
  clear hg1 hg2 hg3 hg4 hg5 hg6 hg7 hg8 hg9 hg10 hg11 hg12 b1 b2 b3
  refine K_draw ?_
  simp(maxSteps:=9999999)(disch:=first|omega|(simp only[AN];omega))only[eqs2,c1,c2,c3,↓KP,EN,↓reduceIte,reduceCtorEq,Nat.reduceEqDiff,Nat.reduceAdd,Nat.reduceLeDiff,Nat.reduceMul]
  refine C_calld ?_
  refine span_run 0 3 fun E1 he1 => ?_
  have he1n:=he1.next;try simp only[AN]at he1n
  simp(maxSteps:=9999999)(disch:=first|omega|(simp only[AN];omega))only[eqs2,he1.get,c1,c2,c3,↓KP,EN,↓reduceIte,reduceCtorEq,Nat.reduceEqDiff,Nat.reduceAdd,Nat.reduceLeDiff,Nat.reduceMul]
  refine C_calld ?_
  refine span_run 1 2 fun E2 he2 => ?_
  have he2n:=he2.next;try simp only[AN]at he2n
  simp(maxSteps:=9999999)(disch:=first|omega|(simp only[AN];omega))only[eqs2,he2.get,he1.get,c1,c2,c3,↓KP,EN,↓reduceIte,reduceCtorEq,Nat.reduceEqDiff,Nat.reduceAdd,Nat.reduceLeDiff,Nat.reduceMul]
  refine C_calld ?_
  refine span_run 4 5 fun E3 he3 => ?_
  have he3n:=he3.next;try simp only[AN]at he3n
  simp(maxSteps:=9999999)(disch:=first|omega|(simp only[AN];omega))only[eqs2,he3.get,he2.get,he1.get,c1,c2,c3,↓KP,EN,↓reduceIte,reduceCtorEq,Nat.reduceEqDiff,Nat.reduceAdd,Nat.reduceLeDiff,Nat.reduceMul]
  refine C_calld ?_
  refine span_run 1 3 fun E4 he4 => ?_
  have he4n:=he4.next;try simp only[AN]at he4n
  simp(maxSteps:=9999999)(disch:=first|omega|(simp only[AN];omega))only[eqs2,he4.get,he3.get,he2.get,he1.get,c1,c2,c3,↓KP,EN,↓reduceIte,reduceCtorEq,Nat.reduceEqDiff,Nat.reduceAdd,Nat.reduceLeDiff,Nat.reduceMul]
  refine C_calld ?_
  refine span_run 0 3 fun E5 he5 => ?_
  have he5n:=he5.next;try simp only[AN]at he5n
  simp(maxSteps:=9999999)(disch:=first|omega|(simp only[AN];omega))only[eqs2,he5.get,he4.get,he3.get,he2.get,he1.get,c1,c2,c3,↓KP,EN,↓reduceIte,reduceCtorEq,Nat.reduceEqDiff,Nat.reduceAdd,Nat.reduceLeDiff,Nat.reduceMul]
  refine C_calld ?_
  have hD5 : Grew D12 E5 := (((he1.trans he2).trans he3).trans he4).trans he5
  refine Spans_run _ _ [(1, 3), (0, 3)] [(1, 3), (0, 3)] (hv8.grow EP.stays GW) (two_spans E5 (1, 3) (0, 3)) (by decide) ?_
  rw [decide_eq_true rfl]
  simp(maxSteps:=9999999)(disch:=first|omega|(simp only[AN];omega))only[eqs2,he5.get,he4.get,he3.get,he2.get,he1.get,c1,c2,c3,↓KP,EN,↓reduceIte,reduceCtorEq,Nat.reduceEqDiff,Nat.reduceAdd,Nat.reduceLeDiff,Nat.reduceMul]
  refine C_calld ?_
  refine Ints_run v10 _ [1] [1] (hv10.grow EInt.stays GW) (one_slice _ 1) (by decide) ?_
  simp(maxSteps:=9999999)(disch:=first|omega|(simp only[AN];omega))only[eqs2,he5.get,he4.get,he3.get,he2.get,he1.get,c1,c2,c3,↓KP,EN,↓reduceIte,reduceCtorEq,Nat.reduceEqDiff,Nat.reduceAdd,Nat.reduceLeDiff,Nat.reduceMul]
  exact k _ GW
end Go.Proofs.Ytihahmggfjjkjaa
namespace Go.Proofs.Ytihahmggfjjkjaa
open Go.AM Go.IntWalk Go.PL
set_option maxRecDepth 100000
set_option maxHeartbeats 4000000
set_option linter.unusedSimpArgs false
variable {H : AH} {R : AV → AH → Prop}
theorem valid_run (vl vg vf : AV) (s : Series) (hh : IsSer (Old H) H vl vg vf s) (hs : Sized s) (k : ∀ H', Grew H H' → R (.bool (decide (errE s = 0))) H') : CallQ prog (.func 37 [] []) [serArg vl vg vf s] H R := by
  refine CallQ_enter (fn:=c37) rfl (Nat.le_of_ble_eq_true rfl) ?_;simp(maxSteps:=9999999)(disch:=first|omega|(simp only[AN];omega))only[c37,envFrom,hh.l.isCell,hh.g.isCell,hh.f.isCell,↓KP,EN,↓reduceIte,reduceCtorEq,Nat.reduceEqDiff,Nat.reduceAdd,Nat.reduceLeDiff,Nat.reduceMul]
  first|refine C_call ?_|refine C_calld ?_
  refine rCheck_run vl vg vf s (hh.grow GW) hs fun H1 hg1 => ?_
  have hg1n:=hg1.next;try simp only[AN]at hg1n
  simp(maxSteps:=9999999)(disch:=first|omega|(simp only[AN];omega))only[↓KP,EN,↓reduceIte,reduceCtorEq,Nat.reduceEqDiff,Nat.reduceAdd,Nat.reduceLeDiff,Nat.reduceMul]
  exact k _ GW
def deniesE (how : Int) (is : Bool) : Bool := (decide (how = 1) && !is) || (decide (how = 2) && is)
theorem denies_run (how : Int) (is : Bool) (k : R (.bool (deniesE how is)) H) : CallQ prog (.func 39 [] []) [I how, .bool is] H R := by
  unfold deniesE at k
  by_cases h1 : how = 1
  · have h2 : ¬ how = 2 := by omega
    rw [decide_eq_true h1, decide_eq_false h2, Bool.true_and, Bool.false_and, Bool.or_false] at k
    cases is with
    | true => refine CallQ_enter (fn:=c39) rfl (Nat.le_of_ble_eq_true rfl) ?_;simp(maxSteps:=9999999)(disch:=first|omega|(simp only[AN];omega))only[c39,envFrom,eq_true h1,h2,↓KP,EN,↓reduceIte,reduceCtorEq,Nat.reduceEqDiff,Nat.reduceAdd,Nat.reduceLeDiff,Nat.reduceMul]; exact k
    | false => refine CallQ_enter (fn:=c39) rfl (Nat.le_of_ble_eq_true rfl) ?_;simp(maxSteps:=9999999)(disch:=first|omega|(simp only[AN];omega))only[c39,envFrom,eq_true h1,h2,↓KP,EN,↓reduceIte,reduceCtorEq,Nat.reduceEqDiff,Nat.reduceAdd,Nat.reduceLeDiff,Nat.reduceMul]; exact k
  · by_cases h2 : how = 2
    · rw [decide_eq_false h1, decide_eq_true h2, Bool.true_and, Bool.false_and, Bool.false_or] at k
      refine CallQ_enter (fn:=c39) rfl (Nat.le_of_ble_eq_true rfl) ?_;simp(maxSteps:=9999999)(disch:=first|omega|(simp only[AN];omega))only[c39,envFrom,h1,eq_true h2,↓KP,EN,↓reduceIte,reduceCtorEq,Nat.reduceEqDiff,Nat.reduceAdd,Nat.reduceLeDiff,Nat.reduceMul]
      exact k
    · rw [decide_eq_false h1, decide_eq_false h2, Bool.false_and, Bool.false_and] at k
      refine CallQ_enter (fn:=c39) rfl (Nat.le_of_ble_eq_true rfl) ?_;simp(maxSteps:=9999999)(disch:=first|omega|(simp only[AN];omega))only[c39,envFrom,h1,h2,↓KP,EN,↓reduceIte,reduceCtorEq,Nat.reduceEqDiff,Nat.reduceAdd,Nat.reduceLeDiff,Nat.reduceMul]
      exact k
theorem there_ok {s : Series} (he : errE s = 0) (ht : truthsE s [] ≠ []) {i d : Nat} (hi : i < s.groups.length) (hd : d < s.len) : thereE s i d = (settledE (((truthsE s []).countP fun t => inS d (getP t.1 i) : Nat) : Int) (truthsE s []).length, 0) := by
  have h1 : indexE s i s.groups.length = 0 := by rw [indexE, if_pos he, if_pos (by omega)]
  have h2 : indexE s d s.len = 0 := by rw [indexE, if_pos he, if_pos (by omega)]
  have h3 : thereErr s i d = 0 := by rw [thereErr, if_pos h1, h2]
  rw [thereE, h3, if_neg (by decide), if_neg ht]; rfl
theorem number_ok {s : Series} (he : errE s = 0) (ht : truthsE s [] ≠ []) {d : Nat} (hd : d < s.len) : numberE s d = (numE (truthsE s []) d, 0) := by
  have h2 : indexE s d s.len = 0 := by rw [indexE, if_pos he, if_pos (by omega)]
  rw [numberE, h2, if_neg (by decide), if_neg ht]
theorem lasted_ok {s : Series} (he : errE s = 0) (ht : truthsE s [] ≠ []) {i : Nat} (hi : i < s.groups.length) : lastedE s i = (lastsE (truthsE s []) i, 0) := by
  have h1 : indexE s i s.groups.length = 0 := by rw [indexE, if_pos he, if_pos (by omega)]
  rw [lastedE, h1, if_neg (by decide), if_neg ht]; rfl
theorem unseen_ok {s : Series} (he : errE s = 0) (ht : truthsE s [] ≠ []) : unseenE s = (settledE (((truthsE s []).countP fun t => t.2.isSome : Nat) : Int) (truthsE s []).length, 0) := by
  rw [unseenE, if_neg (fun h => h he), if_neg ht]
theorem settle_spec {α : Type} {l : List α} {p : α → Bool} (h : l ≠ []) : (settledE (l.countP p : Nat) l.length = 1 ↔ ∀ t ∈ l, p t = true) ∧ (settledE (l.countP p : Nat) l.length = 2 ↔ ∀ t ∈ l, p t = false) ∧ (settledE (l.countP p : Nat) l.length = 0 ∨ settledE (l.countP p : Nat) l.length = 1 ∨ settledE (l.countP p : Nat) l.length = 2) := by
  have hl := List.length_pos_iff.2 h
  have h1 : (((l.countP p : Nat) : Int) = l.length) ↔ ∀ t ∈ l, p t = true := by rw [← List.countP_eq_length]; omega
  have h2 : (((l.countP p : Nat) : Int) = 0) ↔ ∀ t ∈ l, p t = false := by
    rw [show (((l.countP p : Nat) : Int) = 0) ↔ l.countP p = 0 by omega, List.countP_eq_zero]
    simp
  unfold settledE
  refine ⟨?_, ?_, ?_⟩
  · rw [← h1]
    by_cases c : ((l.countP p : Nat) : Int) = l.length
    · simp [c]
    · rw [if_neg c]; refine ⟨fun e => ?_, fun e => absurd e c⟩
      by_cases c2 : ((l.countP p : Nat) : Int) = 0
      · rw [if_pos c2] at e; omega
      · rw [if_neg c2] at e; omega
  · rw [← h2]
    by_cases c : ((l.countP p : Nat) : Int) = l.length
    · rw [if_pos c]; omega
    · rw [if_neg c]
      by_cases c2 : ((l.countP p : Nat) : Int) = 0
      · rw [if_pos c2]; omega
      · rw [if_neg c2]; omega
  · split
    · exact .inr (.inl rfl)
    · split
      · exact .inr (.inr rfl)
      · exact .inl rfl
theorem num_spec {ts : List Truth} {d : Int} (h : ts ≠ []) : (∀ t ∈ ts, (numE ts d).1 ≤ onE t d ∧ onE t d ≤ (numE ts d).2) ∧ (∃ t ∈ ts, (numE ts d).1 = onE t d) ∧ (∃ t ∈ ts, (numE ts d).2 = onE t d) := by
  have hne : (ts.map fun t => (onE t d, onE t d)) ≠ [] := by simpa using h
  obtain ⟨h1, ⟨x, hx, e1⟩, ⟨y, hy, e2⟩⟩ := hull_spec hne
  obtain ⟨t, ht, rfl⟩ := List.mem_map.1 hx
  obtain ⟨u, hu, rfl⟩ := List.mem_map.1 hy
  exact ⟨fun t ht => h1 _ (List.mem_map.2 ⟨t, ht, rfl⟩), ⟨t, ht, e1⟩, ⟨u, hu, e2⟩⟩
theorem lasts_spec {ts : List Truth} {i : Nat} (h : ts ≠ []) : (∀ t ∈ ts, (lastsE ts i).1 ≤ daysE (getP t.1 i) ∧ daysE (getP t.1 i) ≤ (lastsE ts i).2) ∧ (∃ t ∈ ts, (lastsE ts i).1 = daysE (getP t.1 i)) ∧ (∃ t ∈ ts, (lastsE ts i).2 = daysE (getP t.1 i)) := by
  have hne : (ts.map fun t => (daysE (getP t.1 i), daysE (getP t.1 i))) ≠ [] := by simpa using h
  obtain ⟨h1, ⟨x, hx, e1⟩, ⟨y, hy, e2⟩⟩ := hull_spec hne
  obtain ⟨t, ht, rfl⟩ := List.mem_map.1 hx
  obtain ⟨u, hu, rfl⟩ := List.mem_map.1 hy
  exact ⟨fun t ht => h1 _ (List.mem_map.2 ⟨t, ht, rfl⟩), ⟨t, ht, e1⟩, ⟨u, hu, e2⟩⟩
end Go.Proofs.Ytihahmggfjjkjaa
namespace Go.Proofs.Ytihahmggfjjkjaa
open Go.AM Go.IntWalk Go.PL
set_option maxRecDepth 100000
set_option maxHeartbeats 4000000
set_option linter.unusedSimpArgs false
variable {H : AH} {R : AV → AH → Prop}
theorem wrong_none {s : Series} (he : errE s = 0) (ht : truthsE s [] ≠ []) : wrongE s = ([], 0) := by
  rw [wrongE, if_neg (fun h => h he)]
  obtain ⟨r, hr⟩ := candTo_split (n := s.filled.length) (m := 0) (l := s.filled.length + 1) (by omega)
  have hc : candTo s.filled.length 0 = [] := rfl
  have h0 : choicesE s.filled.length 0 = [[]] := rfl
  have hg : goodE s [] = true := by simp [goodE, ht]
  rw [hr, hc, h0, List.nil_append, List.singleton_append, List.find?_cons, hg]
end Go.Proofs.Ytihahmggfjjkjaa
namespace Go.Proofs.Ytihahmggfjjkjaa
open Go.AM Go.IntWalk Go.PL
set_option maxRecDepth 100000
set_option maxHeartbeats 4000000
set_option linter.unusedSimpArgs false
variable {H : AH} {R : AV → AH → Prop}
theorem cand_facts : ∀ n, n ≤ 4 → (∀ i, i < (candTo n (n + 1)).length → ∀ j, j < (candTo n (n + 1)).length → fewerE ((candTo n (n + 1)).getD i []) ((candTo n (n + 1)).getD j []) = decide (i < j)) ∧ (∀ c ∈ candTo n (n + 1), risingE c (-1) n = true) := by
  decide +kernel
theorem wrong_cases {s : Series} (he : errE s = 0) : (wrongE s = ([], 8) ∧ ∀ c ∈ candTo s.filled.length (s.filled.length + 1), goodE s c = false) ∨
    ∃ c, wrongE s = (c, 0) ∧ c ∈ candTo s.filled.length (s.filled.length + 1) ∧ goodE s c = true ∧ risingE c (-1) s.filled.length = true ∧ ∀ d ∈ candTo s.filled.length (s.filled.length + 1), goodE s d = true → fewerE d c = false := by
  have hfl := (fine_of he).fl
  obtain ⟨q1, q2⟩ := cand_facts _ hfl
  rw [wrongE, if_neg (fun h => h he)]
  generalize candTo s.filled.length (s.filled.length + 1) = C at *
  cases hf : C.find? (goodE s) with
  | none => exact .inl ⟨rfl, fun c hc => by simpa using List.find?_eq_none.1 hf c hc⟩
  | some c =>
    obtain ⟨hg, la, lb, e1, e2⟩ := List.find?_eq_some_iff_append.1 hf
    have hcm : c ∈ C := by rw [e1]; simp
    refine .inr ⟨c, rfl, hcm, hg, q2 c hcm, fun d hd hgd => ?_⟩
    obtain ⟨i, hi, hdi⟩ := List.getElem_of_mem hd
    have hrl : la.length < C.length := by rw [e1]; simp
    have hcl : C.getD la.length [] = c := by simp [e1]
    have hdc : C.getD i [] = d := by simp [hi, hdi]
    rw [← hcl, ← hdc, q1 _ hi _ hrl, decide_eq_false_iff_not]
    intro hlt
    have : C[i] ∈ la := by
      have : C[i]? = la[i]? := by rw [e1, List.getElem?_append_left hlt]
      rw [List.getElem?_eq_getElem hi, List.getElem?_eq_getElem hlt, Option.some.injEq] at this
      rw [this]; exact List.getElem_mem hlt
    have := e2 _ this
    rw [hdi, hgd] at this
    cases this
end Go.Proofs.Ytihahmggfjjkjaa
namespace Go.Proofs.Ytihahmggfjjkjaa
open Go.AM Go.IntWalk Go.PL
set_option maxRecDepth 100000
set_option maxHeartbeats 4000000
set_option linter.unusedSimpArgs false
variable {H : AH} {R : AV → AH → Prop}
theorem All_own (vl vg vf : AV) (s : Series) (hh : IsSer (Old H) H vl vg vf s) (hf : Fine s)
    (k : ∀ H' v, Grew H H' → IsSl 2 ETr (fun b => H.next < b ∧ b < H'.next) H' v (allE s) → R v H') : CallQ prog (.func 45 [] []) [serArg vl vg vf s] H R := by
  have hl8 := hf.len.2
  have hg3 := hf.gl
  refine CallQ_enter (fn:=c45) rfl (Nat.le_of_ble_eq_true rfl) ?_;simp(maxSteps:=9999999)(disch:=first|omega|(simp only[AN];omega))only[c45,envFrom,hh.l.isCell,hh.g.isCell,hh.f.isCell,↓KP,EN,↓reduceIte,reduceCtorEq,Nat.reduceEqDiff,Nat.reduceAdd,Nat.reduceLeDiff,Nat.reduceMul]
  refine K_loop (fun mz ez H1 => ∃ (i : Nat) (v3 : AV) (tail : Env), ez = (0, serArg vl vg vf s) :: (1, .ptr H.next 0) :: (2, .nilslice) :: (3, v3) :: (4, I i) :: tail ∧ (Grew H H1) ∧ (H.next < H1.next) ∧ (H1.get H.next = some (.cells false [vl, I s.lo, I s.hi, vg, .bool s.unseen, vf])) ∧ (Mine 1 (ESl 2 EP) (fun _ => False) (H.next + 1) H1 v3 ((s.groups.take i).foldl (gStep s) [[]])) ∧ (i ≤ s.groups.length) ∧ mz = s.groups.length - i) _ ⟨0, .slice (H.next + 1) 0 1 1, _, rfl, ?_, ?_, ?_, (by exact .inr ⟨H.next + 1, 0, [.nilslice], [.nilslice], rfl, by omega, by simp(maxSteps:=9999999)(disch:=first|omega|(simp only[AN];omega))only[↓KP,EN,↓reduceIte,reduceCtorEq,Nat.reduceEqDiff,Nat.reduceAdd,Nat.reduceLeDiff,Nat.reduceMul]; omega, by simp(maxSteps:=9999999)(disch:=first|omega|(simp only[AN];omega))only[↓KP,EN,↓reduceIte,reduceCtorEq,Nat.reduceEqDiff,Nat.reduceAdd,Nat.reduceLeDiff,Nat.reduceMul], rfl, Rows.single rfl ⟨_, rfl, .inl ⟨rfl, rfl⟩⟩⟩), ?_, rfl⟩ ?_
  iterate 4 (focus (first|(with_reducible rfl)|omega|(with_reducible(repeat first|exact Grew.refl _|assumption|apply Grew.alloc|refine Grew.set ?_ _ (by first|omega|(simp only[AN];omega)));done)|(simp(maxSteps:=9999999)(disch:=first|omega|(simp only[AN];omega))only[↓KP,EN,↓reduceIte,reduceCtorEq,Nat.reduceEqDiff,Nat.reduceAdd,Nat.reduceLeDiff,Nat.reduceMul]<;>first|omega|rfl)|(simp;done)|rfl))
  rintro mz ez H1 ⟨i, v3, tail, rfl, hG, hlt, hbox, hv3, hi, hmz⟩; subst mz; have hGn := hG.next
  simp(maxSteps:=9999999)(disch:=first|omega|(simp only[AN];omega))only[hbox,hh.g.len,↓KP,EN,↓reduceIte,reduceCtorEq,Nat.reduceEqDiff,Nat.reduceAdd,Nat.reduceLeDiff,Nat.reduceMul]
  refine C_decide (fun hc => ?_) (fun hc => ?_)
  · have hi' : i < s.groups.length := by omega
    have hO3 := Nat.le_trans (gFold_length hl8 i hi) (pow64 (by omega))
    have hst := staysE_length (s := s) (bits := s.groups[i]) hl8
    have hOl := gFold_mem (s := s) (s.groups.take i)
    have hfold : (s.groups.take (i + 1)).foldl (gStep s) [[]] = gStep s ((s.groups.take i).foldl (gStep s) [[]]) s.groups[i] := by
      rw [List.take_succ_eq_append_getElem hi', List.foldl_append, List.foldl_cons, List.foldl_nil]
    have hgr := hf.g _ (List.getElem_mem hi')
    have hpw : 2 ^ s.len ≤ 2 ^ 8 := Nat.pow_le_pow_right (by omega) hl8
    have hgr2 : 1 ≤ s.groups[i] ∧ s.groups[i] ≤ 255 := by generalize 2 ^ s.len = q at *; omega
    clear hgr
    obtain ⟨p_b, p_i, p_ro, p_vs, p_lt, p⟩ := hh.g.rdInt (k := i) rfl hi'
    have hgs : IsSer (Old H1) H1 vl vg vf s := hh.grow hG
    generalize hgn : s.groups[i] = g at *
    obtain ⟨gn, rfl⟩ : ∃ n : Nat, g = n := ⟨g.toNat, by omega⟩
    simp(maxSteps:=9999999)(disch:=first|omega|(simp only[AN];omega))only[↓KP,EN,↓reduceIte,reduceCtorEq,Nat.reduceEqDiff,Nat.reduceAdd,Nat.reduceLeDiff,Nat.reduceMul]
    refine K_draw ?_
    simp(maxSteps:=9999999)(disch:=first|omega|(simp only[AN];omega))only[hbox,hG.get,p,↓KP,EN,↓reduceIte,reduceCtorEq,Nat.reduceEqDiff,Nat.reduceAdd,Nat.reduceLeDiff,Nat.reduceMul]
    refine C_calld ?_
    refine Stays_run vl vg vf s gn hgs hl8 (by omega) fun H2 v5 hg2 hv5 => ?_
    have hg2n := hg2.next
    have hv3' := hv3.grow (ESl.stays EP.stays) hg2
    have hbox2 : H2.get H.next = some (.cells false [vl, I s.lo, I s.hi, vg, .bool s.unseen, vf]) := by simp(maxSteps:=9999999)(disch:=first|omega|(simp only[AN];omega))only[hg2.get,hbox,↓KP,EN,↓reduceIte,reduceCtorEq,Nat.reduceEqDiff,Nat.reduceAdd,Nat.reduceLeDiff,Nat.reduceMul]
    have hG2 : Grew H H2 := hG.trans hg2
    generalize hO : (s.groups.take i).foldl (gStep s) [[]] = O at *
    have hout := hv3'.sl (ESl.stays EP.stays)
    have hv5s := hv5.sl EP.stays
    generalize hX : staysE s gn = X at *
    simp(maxSteps:=9999999)(disch:=first|omega|(simp only[AN];omega))only[↓KP,EN,↓reduceIte,reduceCtorEq,Nat.reduceEqDiff,Nat.reduceAdd,Nat.reduceLeDiff,Nat.reduceMul]
    refine K_loop (fun mz ez H3 => ∃ (j : Nat) (v6 : AV) (tail : Env), ez = (0, serArg vl vg vf s) :: (1, .ptr H.next 0) :: (2, .nilslice) :: (3, v3) :: (4, I i) :: tail ∧ (tail.get 5 = some v5) ∧ (tail.get 6 = some v6) ∧ (tail.get 7 = some (I j)) ∧ (Grew H2 H3) ∧ (Mine 1 (ESl 2 EP) (fun _ => False) H2.next H3 v6 ((O.take j).flatMap fun o => X.map fun x => o ++ [x])) ∧ (j ≤ O.length) ∧ mz = O.length - j) _ ⟨0, .nilslice, _, rfl, ?_, ?_, ?_, ?_, (by exact Mine.nil), ?_, rfl⟩ ?_
    iterate 5 (focus (first|(with_reducible rfl)|omega|(with_reducible(repeat first|exact Grew.refl _|assumption|apply Grew.alloc|refine Grew.set ?_ _ (by first|omega|(simp only[AN];omega)));done)|(simp(maxSteps:=9999999)(disch:=first|omega|(simp only[AN];omega))only[↓KP,EN,↓reduceIte,reduceCtorEq,Nat.reduceEqDiff,Nat.reduceAdd,Nat.reduceLeDiff,Nat.reduceMul]<;>first|omega|rfl)|(simp;done)|rfl))
    rintro mz ez H3 ⟨j, v6, tail, rfl, f5, f6, f7, hG3, hv6, hj, hmz⟩; subst mz; have hG3n := hG3.next
    simp(maxSteps:=9999999)(disch:=first|omega|(simp only[AN];omega))only[f7,hout.len,↓KP,EN,↓reduceIte,reduceCtorEq,Nat.reduceEqDiff,Nat.reduceAdd,Nat.reduceLeDiff,Nat.reduceMul]
    refine C_decide (fun hc2 => ?_) (fun hc2 => ?_)
    · have hj' : j < O.length := by omega
      have hlenB : ((O.take j).flatMap fun o => X.map fun x => o ++ [x]).length ≤ 262144 * 64 := by
        have : ∀ l : List (List (Int × Int)), (l.flatMap fun o => X.map fun x => o ++ [x]).length ≤ l.length * 64 := fun l => by
          induction l with
          | nil => simp
          | cons a l ih => simp only [List.flatMap_cons, List.length_append, List.length_map, List.length_cons]; omega
        have := this (O.take j)
        simp only [List.length_take] at this
        omega
      obtain ⟨q_b, q_i, q_ro, q_vs, vo, q_lt, hvo, q⟩ := hout.rdSl (k := j) rfl hj'
      have hol := hOl _ (List.getElem_mem hj')
      have e1 : IntKind.i64.wrap ((j : Int) + 1) = ((j + 1 : Nat) : Int) := i64_in _ (by omega)
      simp(maxSteps:=9999999)(disch:=first|omega|(simp only[AN];omega))only[↓KP,EN,↓reduceIte,reduceCtorEq,Nat.reduceEqDiff,Nat.reduceAdd,Nat.reduceLeDiff,Nat.reduceMul]
      refine K_loop (fun mz ez H4 => ∃ (m : Nat) (v6' : AV) (tail : Env), ez = (0, serArg vl vg vf s) :: (1, .ptr H.next 0) :: (2, .nilslice) :: (3, v3) :: (4, I i) :: tail ∧ (tail.get 5 = some v5) ∧ (tail.get 6 = some v6') ∧ (tail.get 7 = some (I j)) ∧ (tail.get 8 = some (I m)) ∧ (Grew H2 H4) ∧ (Mine 1 (ESl 2 EP) (fun _ => False) H2.next H4 v6' (((O.take j).flatMap fun o => X.map fun x => o ++ [x]) ++ (X.take m).map fun x => O[j] ++ [x])) ∧ (m ≤ X.length) ∧ mz = X.length - m) _ ⟨0, v6, _, rfl, (by simp(maxSteps:=9999999)(disch:=first|omega|(simp only[AN];omega))only[f5,↓KP,EN,↓reduceIte,reduceCtorEq,Nat.reduceEqDiff,Nat.reduceAdd,Nat.reduceLeDiff,Nat.reduceMul]), ?_, ?_, ?_, ?_, (by simpa using hv6), ?_, rfl⟩ ?_
      iterate 5 (focus (first|(with_reducible rfl)|omega|(with_reducible(repeat first|exact Grew.refl _|assumption|apply Grew.alloc|refine Grew.set ?_ _ (by first|omega|(simp only[AN];omega)));done)|(simp(maxSteps:=9999999)(disch:=first|omega|(simp only[AN];omega))only[↓KP,EN,↓reduceIte,reduceCtorEq,Nat.reduceEqDiff,Nat.reduceAdd,Nat.reduceLeDiff,Nat.reduceMul]<;>first|omega|rfl)|(simp;done)|rfl))
      rintro mz ez H4 ⟨m, v6', tail, rfl, g5, g6, g7, f8, hG4, hv6', hm, hmz⟩; subst mz; have hG4n := hG4.next
      simp(maxSteps:=9999999)(disch:=first|omega|(simp only[AN];omega))only[f8,g5,hv5s.len,↓KP,EN,↓reduceIte,reduceCtorEq,Nat.reduceEqDiff,Nat.reduceAdd,Nat.reduceLeDiff,Nat.reduceMul]
      refine C_decide (fun hc3 => ?_) (fun hc3 => ?_)
      · have hm' : m < X.length := by omega
        obtain ⟨rb, ri, rro, rvs, rlt, r⟩ := rdP hv5s (k := m) rfl hm'
        have e2 : IntKind.i64.wrap ((m : Int) + 1) = ((m + 1 : Nat) : Int) := i64_in _ (by omega)
        simp only [List.length_take] at hol
        obtain ⟨va, S1, vb, S2, a1, a2, a3, a4, a5, a6, a7⟩ := rowNew (x := X[m]) (hvo.grow EP.stays hG4) (by omega)
        obtain ⟨vc, H6, b1, b2, b3, b4⟩ := hv6'.pushRow (H2 := S2) (bytes := 24) EP.stays ⟨by omega, a7⟩ a3 (by omega) (by omega) (by simp only [List.length_append, List.length_map, List.length_take]; omega)
        simp(maxSteps:=9999999)(disch:=first|omega|(simp only[AN];omega))only[↓KP,EN,↓reduceIte,reduceCtorEq,Nat.reduceEqDiff,Nat.reduceAdd,Nat.reduceLeDiff,Nat.reduceMul]
        refine K_draw ?_
        simp(maxSteps:=9999999)(disch:=first|omega|(simp only[AN];omega))only[f8,g5,g6,g7,q,r,hG4.get,a1,a2,a6,b1,e2,a3.cells?,a3.isCell,↓KP,EN,↓reduceIte,reduceCtorEq,Nat.reduceEqDiff,Nat.reduceAdd,Nat.reduceLeDiff,Nat.reduceMul]
        refine ⟨_, ?_, m + 1, vc, _, rfl, ?_, ?_, ?_, ?_, (by exact ⟨by omega, fun b hb => by simp(maxSteps:=9999999)(disch:=first|omega|(simp only[AN];omega))only[b4,a7,hG4.get,↓KP,EN,↓reduceIte,reduceCtorEq,Nat.reduceEqDiff,Nat.reduceAdd,Nat.reduceLeDiff,Nat.reduceMul]⟩), (by rw [map_take_succ hm', ← List.append_assoc]; exact b2), ?_, rfl⟩ <;> (first|omega|(with_reducible assumption)|(with_reducible(repeat first|exact Grew.refl _|assumption|apply Grew.alloc|refine Grew.set ?_ _ (by first|omega|(simp only[AN];omega)));done)|(simp(maxSteps:=9999999)(disch:=first|omega|(simp only[AN];omega))only[g5,g6,g7,f8,↓KP,EN,↓reduceIte,reduceCtorEq,Nat.reduceEqDiff,Nat.reduceAdd,Nat.reduceLeDiff,Nat.reduceMul]<;>first|omega|rfl))
      · have hme : m = X.length := by omega
        subst hme
        rw [List.take_length] at hv6'
        simp(maxSteps:=9999999)(disch:=first|omega|(simp only[AN];omega))only[g5,g6,g7,e1,↓KP,EN,↓reduceIte,reduceCtorEq,Nat.reduceEqDiff,Nat.reduceAdd,Nat.reduceLeDiff,Nat.reduceMul]
        refine ⟨_, ?_, j + 1, v6', _, rfl, ?_, ?_, ?_, ?_, (by rw [flatMap_take_succ hj']; exact hv6'), ?_, rfl⟩ <;> (first|omega|(with_reducible assumption)|(with_reducible(repeat first|exact Grew.refl _|assumption|apply Grew.alloc|refine Grew.set ?_ _ (by first|omega|(simp only[AN];omega))|refine Grew.trans ?_ hG4);done)|(simp(maxSteps:=9999999)(disch:=first|omega|(simp only[AN];omega))only[g5,g6,g7,hG4.get,↓KP,EN,↓reduceIte,reduceCtorEq,Nat.reduceEqDiff,Nat.reduceAdd,Nat.reduceLeDiff,Nat.reduceMul]<;>first|omega|rfl))
    · have hje : j = O.length := by omega
      subst hje
      rw [List.take_length] at hv6
      have e1 : IntKind.i64.wrap ((i : Int) + 1) = ((i + 1 : Nat) : Int) := i64_in _ (by omega)
      simp(maxSteps:=9999999)(disch:=first|omega|(simp only[AN];omega))only[f6,e1,↓KP,EN,↓reduceIte,reduceCtorEq,Nat.reduceEqDiff,Nat.reduceAdd,Nat.reduceLeDiff,Nat.reduceMul]
      refine ⟨_, ?_, i + 1, v6, _, rfl, ?_, ?_, ?_, (by rw [hfold, gStep, hX]; exact hv6.weak (by omega) (fun _ h => h.elim) (ESl.stays EP.stays)), ?_, rfl⟩ <;> (first|omega|(with_reducible assumption)|(with_reducible(repeat first|exact Grew.refl _|assumption|apply Grew.alloc|refine Grew.set ?_ _ (by first|omega|(simp only[AN];omega))|refine Grew.trans ?_ hG3|refine Grew.trans ?_ hG2);done)|(simp(maxSteps:=9999999)(disch:=first|omega|(simp only[AN];omega))only[hG3.get,hbox2,hG3.get,hG2.get,↓KP,EN,↓reduceIte,reduceCtorEq,Nat.reduceEqDiff,Nat.reduceAdd,Nat.reduceLeDiff,Nat.reduceMul]<;>first|omega|rfl))
  · have hie : i = s.groups.length := by omega
    subst hie
    rw [List.take_length] at hv3
    have hgl := gAll_length hl8 hg3
    have hgm := fun o => gAll_mem (s := s) (o := o)
    have hms := moreS_length hl8
    rw [show s.groups.foldl (gStep s) [[]] = gAll s from rfl] at hv3
    simp(maxSteps:=9999999)(disch:=first|omega|(simp only[AN];omega))only[hbox,↓KP,EN,↓reduceIte,reduceCtorEq,Nat.reduceEqDiff,Nat.reduceAdd,Nat.reduceLeDiff,Nat.reduceMul]
    refine C_join (fun e' H' => ∃ (v9 : AV) (tail : Env), e' = (0, serArg vl vg vf s) :: (1, .ptr H.next 0) :: (2, .nilslice) :: (3, v3) :: (4, I s.groups.length) :: tail ∧ tail.get 9 = some v9 ∧ Grew H1 H' ∧ Mine 2 EP (fun _ => False) H1.next H' v9 (moreS s)) ?_ ?_
    · cases hu : s.unseen with
      | true =>
        have hm : moreS s = staysE s ((0 : Nat) : Int) := by rw [moreS, hu]; rfl
        simp(maxSteps:=9999999)(disch:=first|omega|(simp only[AN];omega))only[hbox,↓KP,EN,↓reduceIte,reduceCtorEq,Nat.reduceEqDiff,Nat.reduceAdd,Nat.reduceLeDiff,Nat.reduceMul]
        first|refine C_call ?_|refine C_calld ?_
        refine Stays_run vl vg vf s 0 (hh.grow hG) hl8 (by omega) fun H2 v9 hg2 hv9 => ?_
        simp(maxSteps:=9999999)(disch:=first|omega|(simp only[AN];omega))only[↓KP,EN,↓reduceIte,reduceCtorEq,Nat.reduceEqDiff,Nat.reduceAdd,Nat.reduceLeDiff,Nat.reduceMul]
        exact K_joined ⟨v9, _, rfl, by simp(maxSteps:=9999999)(disch:=first|omega|(simp only[AN];omega))only[↓KP,EN,↓reduceIte,reduceCtorEq,Nat.reduceEqDiff,Nat.reduceAdd,Nat.reduceLeDiff,Nat.reduceMul], hg2, by rw [hm]; exact hv9⟩
      | false =>
        have hm : moreS s = [] := by rw [moreS, hu]; rfl
        simp(maxSteps:=9999999)(disch:=first|omega|(simp only[AN];omega))only[↓KP,EN,↓reduceIte,reduceCtorEq,Nat.reduceEqDiff,Nat.reduceAdd,Nat.reduceLeDiff,Nat.reduceMul]
        exact K_joined ⟨.nilslice, _, rfl, by simp(maxSteps:=9999999)(disch:=first|omega|(simp only[AN];omega))only[↓KP,EN,↓reduceIte,reduceCtorEq,Nat.reduceEqDiff,Nat.reduceAdd,Nat.reduceLeDiff,Nat.reduceMul], Grew.refl _, by rw [hm]; exact Mine.nil⟩
    · rintro e' H2 ⟨v9, tail, rfl, f9, hG2, hv9⟩
      have hG2n := hG2.next
      have hv3' := hv3.grow (ESl.stays EP.stays) hG2
      have hout := hv3'.slF (ESl.stays EP.stays)
      have hGn := hG.next
      have hv9s := hv9.slF EP.stays
      have hallE : allE s = (gAll s).flatMap fun g => (moreE s).map fun m => (g, m) := rfl
      have hme : ∀ g : List (Int × Int), ((moreE s).map fun m => (g, m)) = (g, none) :: (moreS s).map fun x => (g, some x) := fun g => by rw [moreE_eq, List.map_cons, List.map_map]; rfl
      have hal := fun l => allE_len (s := s) hl8 l
      simp only [hme] at hal hallE
      rw [hallE] at k
      generalize hO : gAll s = O at *
      generalize hX : moreS s = X at *
      simp(maxSteps:=9999999)(disch:=first|omega|(simp only[AN];omega))only[f9,↓KP,EN,↓reduceIte,reduceCtorEq,Nat.reduceEqDiff,Nat.reduceAdd,Nat.reduceLeDiff,Nat.reduceMul]
      refine K_loop (fun mz ez H3 => ∃ (j : Nat) (v10 : AV) (tail : Env), ez = (0, serArg vl vg vf s) :: (1, .ptr H.next 0) :: (2, .nilslice) :: (3, v3) :: (4, I s.groups.length) :: tail ∧ (tail.get 9 = some v9) ∧ (tail.get 10 = some v10) ∧ (tail.get 11 = some (I j)) ∧ (Grew H2 H3) ∧ (Mine 2 ETr (fun b => b < H2.next ∧ H.next < b) H2.next H3 v10 ((O.take j).flatMap fun g => (g, none) :: X.map fun x => (g, some x))) ∧ (j ≤ O.length) ∧ mz = O.length - j) _ ⟨0, .nilslice, _, rfl, (by simp(maxSteps:=9999999)(disch:=first|omega|(simp only[AN];omega))only[f9,↓KP,EN,↓reduceIte,reduceCtorEq,Nat.reduceEqDiff,Nat.reduceAdd,Nat.reduceLeDiff,Nat.reduceMul]), ?_, ?_, ?_, (by exact Mine.nil), ?_, rfl⟩ ?_
      iterate 4 (focus (first|(with_reducible rfl)|omega|(with_reducible(repeat first|exact Grew.refl _|assumption|apply Grew.alloc|refine Grew.set ?_ _ (by first|omega|(simp only[AN];omega)));done)|(simp(maxSteps:=9999999)(disch:=first|omega|(simp only[AN];omega))only[↓KP,EN,↓reduceIte,reduceCtorEq,Nat.reduceEqDiff,Nat.reduceAdd,Nat.reduceLeDiff,Nat.reduceMul]<;>first|omega|rfl)|(simp;done)|rfl))
      rintro mz ez H3 ⟨j, v10, tail, rfl, g9, g10, g11, hG3, hv10, hj, hmz⟩; subst mz; have hG3n := hG3.next
      simp(maxSteps:=9999999)(disch:=first|omega|(simp only[AN];omega))only[g11,hout.len,↓KP,EN,↓reduceIte,reduceCtorEq,Nat.reduceEqDiff,Nat.reduceAdd,Nat.reduceLeDiff,Nat.reduceMul]
      refine C_decide (fun hc2 => ?_) (fun hc2 => ?_)
      · have hj' : j < O.length := by omega
        have hlenB := hal (O.take j)
        simp only [List.length_take] at hlenB
        obtain ⟨qb, qi, qro, qvs, qcs, q1, q2, q3, q4, ⟨vo, rfl, hvo⟩, q6, q7, q8⟩ := hout.at_ hj'
        have qlt := q2.1
        have q : (∀ S, opIdxSl 1 v3 (I j) S = some (.ptr qb qi, S)) ∧ H2.get qb = some (.cells qro qvs) ∧ qvs[qi]? = some vo := ⟨q1, q3, by simpa using q8 0 (by omega)⟩
        have hvo3 : IsSl 2 EP (fun b => b < H2.next ∧ H.next < b) H3 vo O[j] := hvo.move EP.stays fun b hb => ⟨⟨hb.1, by have := hb.2.resolve_left id; omega⟩, hG3.get b hb.1⟩
        obtain ⟨vb, H4, b1, b2, b3, b4⟩ := hv10.push (bytes := 48) (cs := [vo, .nilslice]) (a := (O[j], none)) (F := fun b => b < H2.next ∧ H.next < b) ETr.stays (by omega) rfl (fun k hk => ⟨by have := hk.1; omega, fun i n y e => by have := (hv10.spine e).1; have := hk.1; omega, .inl hk⟩) ⟨_, _, rfl, hvo3, .inl ⟨rfl, rfl⟩⟩ (by simp [hvo.isCell]; rfl) (by omega)
        have hG4 : Grew H2 H4 := ⟨by omega, fun b hb => by rw [b4 b hb, hG3.get b hb]⟩
        simp(maxSteps:=9999999)(disch:=first|omega|(simp only[AN];omega))only[g10,g11,q,hG3.get,hvo.cells?,hvo.isCell,b1,↓KP,EN,↓reduceIte,reduceCtorEq,Nat.reduceEqDiff,Nat.reduceAdd,Nat.reduceLeDiff,Nat.reduceMul]
        refine K_loop (fun mz ez H5 => ∃ (m : Nat) (v10' : AV) (tail : Env), ez = (0, serArg vl vg vf s) :: (1, .ptr H.next 0) :: (2, .nilslice) :: (3, v3) :: (4, I s.groups.length) :: tail ∧ (tail.get 9 = some v9) ∧ (tail.get 10 = some v10') ∧ (tail.get 11 = some (I j)) ∧ (tail.get 12 = some (I m)) ∧ (Grew H2 H5) ∧ (Mine 2 ETr (fun b => b < H2.next ∧ H.next < b) H2.next H5 v10' (((O.take j).flatMap fun g => (g, none) :: X.map fun x => (g, some x)) ++ (O[j], none) :: (X.take m).map fun x => (O[j], some x))) ∧ (m ≤ X.length) ∧ mz = X.length - m) _ ⟨0, vb, _, rfl, (by simp(maxSteps:=9999999)(disch:=first|omega|(simp only[AN];omega))only[g9,↓KP,EN,↓reduceIte,reduceCtorEq,Nat.reduceEqDiff,Nat.reduceAdd,Nat.reduceLeDiff,Nat.reduceMul]), ?_, (by simp(maxSteps:=9999999)(disch:=first|omega|(simp only[AN];omega))only[g11,↓KP,EN,↓reduceIte,reduceCtorEq,Nat.reduceEqDiff,Nat.reduceAdd,Nat.reduceLeDiff,Nat.reduceMul]), ?_, (by exact hG4), (by simpa using b2), ?_, rfl⟩ ?_
        iterate 3 (focus (first|(with_reducible rfl)|omega|(with_reducible(repeat first|exact Grew.refl _|assumption|apply Grew.alloc|refine Grew.set ?_ _ (by first|omega|(simp only[AN];omega)));done)|(simp(maxSteps:=9999999)(disch:=first|omega|(simp only[AN];omega))only[↓KP,EN,↓reduceIte,reduceCtorEq,Nat.reduceEqDiff,Nat.reduceAdd,Nat.reduceLeDiff,Nat.reduceMul]<;>first|omega|rfl)|(simp;done)|rfl))
        rintro mz ez H5 ⟨m, v10', tail, rfl, q9, q10, q11, q12, hG5, hv10', hm, hmz⟩; subst mz; have hG5n := hG5.next
        simp(maxSteps:=9999999)(disch:=first|omega|(simp only[AN];omega))only[q9,q12,hv9s.len,↓KP,EN,↓reduceIte,reduceCtorEq,Nat.reduceEqDiff,Nat.reduceAdd,Nat.reduceLeDiff,Nat.reduceMul]
        refine C_decide (fun hc3 => ?_) (fun hc3 => ?_)
        · have hm' : m < X.length := by omega
          have e2 : IntKind.i64.wrap ((m : Int) + 1) = ((m + 1 : Nat) : Int) := i64_in _ (by omega)
          obtain ⟨vx, x1, x2⟩ := IsSl.one hv9s (n := m) (m := ((m + 1 : Nat) : Int)) rfl rfl hm'
          have hvo5 : IsSl 2 EP (fun b => b < H2.next ∧ H.next < b) H5 vo O[j] := hvo.move EP.stays fun b hb => ⟨⟨hb.1, by have := hb.2.resolve_left id; omega⟩, hG5.get b hb.1⟩
          have hvx5 : IsSl 2 EP (fun b => b < H2.next ∧ H.next < b) H5 vx [X[m]] := x2.move EP.stays fun b hb => ⟨⟨hb.1, by have := hb.2.resolve_left id; omega⟩, hG5.get b hb.1⟩
          obtain ⟨vc, H6, c1, c2, c3, c4⟩ := hv10'.push (bytes := 48) (cs := [vo, vx]) (a := (O[j], some X[m])) (F := fun b => b < H2.next ∧ H.next < b) ETr.stays (by omega) rfl (fun k hk => ⟨by have := hk.1; omega, fun i n y e => by have := (hv10'.spine e).1; have := hk.1; omega, .inl hk⟩) ⟨_, _, rfl, hvo5, hvx5⟩ (by simp [hvo.isCell, x2.isCell]) (by simp only [List.length_append, List.length_cons, List.length_map, List.length_take]; omega)
          simp(maxSteps:=9999999)(disch:=first|omega|(simp only[AN];omega))only[↓KP,EN,↓reduceIte,reduceCtorEq,Nat.reduceEqDiff,Nat.reduceAdd,Nat.reduceLeDiff,Nat.reduceMul]
          refine K_draw ?_
          simp(maxSteps:=9999999)(disch:=first|omega|(simp only[AN];omega))only[q9,q10,q11,q12,q,hG5.get,hvo.cells?,hvo.isCell,x2.cells?,x2.isCell,e2,x1,c1,↓KP,EN,↓reduceIte,reduceCtorEq,Nat.reduceEqDiff,Nat.reduceAdd,Nat.reduceLeDiff,Nat.reduceMul]
          refine ⟨_, ?_, m + 1, vc, _, rfl, ?_, ?_, ?_, ?_, (by exact ⟨by omega, fun b hb => by rw [c4 b hb, hG5.get b hb]⟩), (by rw [map_take_succ hm', ← List.cons_append, ← List.append_assoc]; exact c2), ?_, rfl⟩ <;> (first|omega|(with_reducible assumption)|(with_reducible(repeat first|exact Grew.refl _|assumption|apply Grew.alloc|refine Grew.set ?_ _ (by first|omega|(simp only[AN];omega)));done)|(simp(maxSteps:=9999999)(disch:=first|omega|(simp only[AN];omega))only[q9,q10,q11,q12,↓KP,EN,↓reduceIte,reduceCtorEq,Nat.reduceEqDiff,Nat.reduceAdd,Nat.reduceLeDiff,Nat.reduceMul]<;>first|omega|rfl))
        · have hme' : m = X.length := by omega
          subst hme'
          rw [List.take_length] at hv10'
          have e1 : IntKind.i64.wrap ((j : Int) + 1) = ((j + 1 : Nat) : Int) := i64_in _ (by omega)
          simp(maxSteps:=9999999)(disch:=first|omega|(simp only[AN];omega))only[q9,q10,q11,e1,↓KP,EN,↓reduceIte,reduceCtorEq,Nat.reduceEqDiff,Nat.reduceAdd,Nat.reduceLeDiff,Nat.reduceMul]
          refine ⟨_, ?_, j + 1, v10', _, rfl, ?_, ?_, ?_, ?_, (by rw [flatMap_take_succ hj']; exact hv10'), ?_, rfl⟩ <;> (first|omega|(with_reducible assumption)|(with_reducible(repeat first|exact Grew.refl _|assumption|apply Grew.alloc|refine Grew.set ?_ _ (by first|omega|(simp only[AN];omega))|refine Grew.trans ?_ hG5);done)|(simp(maxSteps:=9999999)(disch:=first|omega|(simp only[AN];omega))only[q9,q10,q11,hG5.get,↓KP,EN,↓reduceIte,reduceCtorEq,Nat.reduceEqDiff,Nat.reduceAdd,Nat.reduceLeDiff,Nat.reduceMul]<;>first|omega|rfl))
      · have hje : j = O.length := by omega
        subst hje
        rw [List.take_length] at hv10
        simp(maxSteps:=9999999)(disch:=first|omega|(simp only[AN];omega))only[g10,↓KP,EN,↓reduceIte,reduceCtorEq,Nat.reduceEqDiff,Nat.reduceAdd,Nat.reduceLeDiff,Nat.reduceMul]
        exact k _ _ (hG.trans (hG2.trans hG3)) ((hv10.slF ETr.stays).move ETr.stays fun b hb => ⟨⟨by have := hb.2; omega, hb.1⟩, rfl⟩)
end Go.Proofs.Ytihahmggfjjkjaa
namespace Go.Proofs.Ytihahmggfjjkjaa
open Go.AM Go.IntWalk Go.PL
set_option maxRecDepth 100000
set_option maxHeartbeats 4000000
set_option linter.unusedSimpArgs false
variable {H : AH} {R : AV → AH → Prop}
def fT (t : Truth) (f : Int × Int) : Int × Int := (f.1, onE t f.1)
abbrev toldS (s : Series) (t : Truth) : Series := { s with filled := s.filled.map (fT t) }
def toldTo (l : List (Int × Int)) (t : Truth) (i : Nat) : List (Int × Int) := (l.take i).map (fT t) ++ l.drop i
theorem toldTo_len {l : List (Int × Int)} {t : Truth} {i : Nat} (hi : i ≤ l.length) : (toldTo l t i).length = l.length := by simp [toldTo]; omega
theorem toldTo_get {l : List (Int × Int)} {t : Truth} {i : Nat} (hi : i < l.length) (h : i < (toldTo l t i).length) : (toldTo l t i)[i] = l[i] := by
  simp only [toldTo]
  have hm := Nat.min_eq_left (Nat.le_of_lt hi)
  rw [List.getElem_append_right (by simp [hm])]
  simp [hm]
theorem toldTo_set {l : List (Int × Int)} {t : Truth} {i : Nat} (hi : i < l.length) : (toldTo l t i).set i (fT t l[i]) = toldTo l t (i + 1) := by
  simp only [toldTo]
  have hm := Nat.min_eq_left (Nat.le_of_lt hi)
  rw [List.set_append_right _ _ (by simp [hm]), List.take_succ_eq_append_getElem hi, List.map_append]
  simp [hm]
  rw [List.drop_eq_getElem_cons hi]; rfl
theorem Told_run (vl vg vf : AV) (s : Series) (x : Int) (hh : IsSer (Old H) H vl vg vf s) (hs : Sized s) (hf : Fine s) (hx : 0 ≤ x ∧ x ≤ 65535)
    (k0 : allE s = [] → ∀ H', Grew H H' → R (.tuple [serArg vl vg vf s, .agg [.nilslice, .nilslice], .bool false]) H')
    (k1 : ∀ t, t ∈ allE s → ∀ H' vd wg wm, Grew H H' → IsSer (Old H') H' vl vg vd (toldS s t) → IsSl 2 EP (Old H') H' wg t.1 → IsSl 2 EP (Old H') H' wm t.2.toList → R (.tuple [serArg vl vg vd (toldS s t), .agg [wg, wm], .bool true]) H') : CallQ prog (.func 38 [] []) [serArg vl vg vf s, .int .u16 x] H R := by
  obtain ⟨x, rfl⟩ : ∃ y : Nat, x = y := ⟨x.toNat, by omega⟩
  have hfl := hf.fl
  have hgl := hf.gl
  refine CallQ_enter (fn:=c38) rfl (Nat.le_of_ble_eq_true rfl) ?_;simp(maxSteps:=9999999)(disch:=first|omega|(simp only[AN];omega))only[c38,envFrom,hh.l.isCell,hh.g.isCell,hh.f.isCell,↓KP,EN,↓reduceIte,reduceCtorEq,Nat.reduceEqDiff,Nat.reduceAdd,Nat.reduceLeDiff,Nat.reduceMul]
  first|refine C_call ?_|refine C_calld ?_
  refine All_own vl vg vf s (hh.grow GW) hf fun H1 va hg1 hva => ?_
  have hg1n := hg1.next; try simp only [AN] at hg1n
  simp only [AN] at hva
  have b2 : H1.get H.next = some (.cells false [vl, I s.lo, I s.hi, vg, .bool s.unseen, vf]) := by simp(maxSteps:=9999999)(disch:=first|omega|(simp only[AN];omega))only[hg1.get,↓KP,EN,↓reduceIte,reduceCtorEq,Nat.reduceEqDiff,Nat.reduceAdd,Nat.reduceLeDiff,Nat.reduceMul]
  have b4 : H1.get (H.next + 1) = some (.cells false [.nilslice, I 0, I 0, .nilslice, .bool false, .nilslice]) := by simp(maxSteps:=9999999)(disch:=first|omega|(simp only[AN];omega))only[hg1.get,↓KP,EN,↓reduceIte,reduceCtorEq,Nat.reduceEqDiff,Nat.reduceAdd,Nat.reduceLeDiff,Nat.reduceMul]
  have b5 : H1.get (H.next + 1 + 1) = some (.cells false [.nilslice, .nilslice]) := by simp(maxSteps:=9999999)(disch:=first|omega|(simp only[AN];omega))only[hg1.get,↓KP,EN,↓reduceIte,reduceCtorEq,Nat.reduceEqDiff,Nat.reduceAdd,Nat.reduceLeDiff,Nat.reduceMul]
  have hg0 : Grew H H1 := GW
  have hal := allE_length hf
  clear hg1
  by_cases h0 : allE s = []
  · have h0' : ((allE s).length : Int) = 0 := by rw [h0]; rfl
    simp(maxSteps:=9999999)(disch:=first|omega|(simp only[AN];omega))only[hva.len,eq_true h0',b2,b4,b5,hh.l.isCell,hh.g.isCell,hh.f.isCell,↓KP,EN,↓reduceIte,reduceCtorEq,Nat.reduceEqDiff,Nat.reduceAdd,Nat.reduceLeDiff,Nat.reduceMul]
    refine k0 h0 _ ⟨?_, fun b hb => ?_⟩
    · simp(maxSteps:=9999999)(disch:=first|omega|(simp only[AN];omega))only[↓KP,EN,↓reduceIte,reduceCtorEq,Nat.reduceEqDiff,Nat.reduceAdd,Nat.reduceLeDiff,Nat.reduceMul]; omega
    · simp(maxSteps:=9999999)(disch:=first|omega|(simp only[AN];omega))only[hg0.get,↓KP,EN,↓reduceIte,reduceCtorEq,Nat.reduceEqDiff,Nat.reduceAdd,Nat.reduceLeDiff,Nat.reduceMul]
  · have hpos := List.length_pos_iff.2 h0
    have h0' : ¬ ((allE s).length : Int) = 0 := by omega
    have hlt : x % (allE s).length < (allE s).length := Nat.mod_lt _ hpos
    have hrem : Int.tmod (x : Int) ((allE s).length : Int) = ((x % (allE s).length : Nat) : Int) := rfl
    have hw : IntKind.i64.wrap (x : Int) = x := i64_in _ (by omega)
    obtain ⟨pb, pi, pro, pvs, pcs, p1, p2, p3, p4, ⟨wg, wm, rfl, hwg, hwm⟩, p6, p7, p8⟩ := hva.at_ hlt
    have p : (∀ S, opIdxSl 2 va (I ((x % (allE s).length : Nat) : Int)) S = some (.ptr pb pi, S)) ∧ H1.get pb = some (.cells pro pvs) ∧ pi + 2 ≤ pvs.length ∧ (pvs.drop pi).take 2 = [wg, wm] := ⟨p1, p3, p6, p7⟩
    have htm : (allE s)[x % (allE s).length] ∈ allE s := List.getElem_mem hlt
    have htl : (allE s)[x % (allE s).length].1.length ≤ 3 := by rw [allE_mem htm]; exact hgl
    generalize (allE s)[x % (allE s).length] = t at *
    have hK0 : Grew H1 ((H1.alloc (.cells false [.nilslice, .nilslice])).set H1.next (.cells false [wg, wm])) := GW
    have hK1 : ((H1.alloc (.cells false [.nilslice, .nilslice])).set H1.next (.cells false [wg, wm])).get H1.next = some (.cells false [wg, wm]) := by simp(maxSteps:=9999999)(disch:=first|omega|(simp only[AN];omega))only[↓KP,EN,↓reduceIte,reduceCtorEq,Nat.reduceEqDiff,Nat.reduceAdd,Nat.reduceLeDiff,Nat.reduceMul]
    have hK2 : ((H1.alloc (.cells false [.nilslice, .nilslice])).set H1.next (.cells false [wg, wm])).next = H1.next + 1 := rfl
    simp(maxSteps:=9999999)(disch:=first|omega|(simp only[AN];omega))only[hva.len,h0',hrem,hw,p,hwg.isCell,hwm.isCell,↓KP,EN,↓reduceIte,reduceCtorEq,Nat.reduceEqDiff,Nat.reduceAdd,Nat.reduceLeDiff,Nat.reduceMul]
    generalize (H1.alloc (.cells false [.nilslice, .nilslice])).set H1.next (.cells false [wg, wm]) = K at *
    obtain ⟨vd, H2, d1, d2, d3, d4⟩ := copy_mine (H := K) (P := fun _ => False) (N := K.next) (bytes := 16) (F := Old K) EP.stays ((hh.f.grow EP.stays hg0).grow EP.stays hK0) (fun k hk => hk) (fun _ _ h => h) (Nat.le_refl _) EP.isCell (by omega)
    rw [hK2] at d1
    simp(maxSteps:=9999999)(disch:=first|omega|(simp only[AN];omega))only[hK0.get,b2,d1,d4,d2.cells?,d2.isCell,↓KP,EN,↓reduceIte,reduceCtorEq,Nat.reduceEqDiff,Nat.reduceAdd,Nat.reduceLeDiff,Nat.reduceMul]
    generalize hB : H2.set H.next _ = B
    have e2 : B.get H.next = some (.cells false [vl, I s.lo, I s.hi, vg, .bool s.unseen, vd]) := by rw [← hB]; simp(maxSteps:=9999999)(disch:=first|omega|(simp only[AN];omega))only[↓KP,EN,↓reduceIte,reduceCtorEq,Nat.reduceEqDiff,Nat.reduceAdd,Nat.reduceLeDiff,Nat.reduceMul]
    have e4 : B.get (H.next + 1) = some (.cells false [.nilslice, I 0, I 0, .nilslice, .bool false, .nilslice]) := by rw [← hB]; simp(maxSteps:=9999999)(disch:=first|omega|(simp only[AN];omega))only[d4,hK0.get,b4,↓KP,EN,↓reduceIte,reduceCtorEq,Nat.reduceEqDiff,Nat.reduceAdd,Nat.reduceLeDiff,Nat.reduceMul]
    have e5 : B.get (H.next + 1 + 1) = some (.cells false [.nilslice, .nilslice]) := by rw [← hB]; simp(maxSteps:=9999999)(disch:=first|omega|(simp only[AN];omega))only[d4,hK0.get,b5,↓KP,EN,↓reduceIte,reduceCtorEq,Nat.reduceEqDiff,Nat.reduceAdd,Nat.reduceLeDiff,Nat.reduceMul]
    have e8 : B.get H1.next = some (.cells false [wg, wm]) := by rw [← hB]; simp(maxSteps:=9999999)(disch:=first|omega|(simp only[AN];omega))only[d4,hK1,↓KP,EN,↓reduceIte,reduceCtorEq,Nat.reduceEqDiff,Nat.reduceAdd,Nat.reduceLeDiff,Nat.reduceMul]
    have hgB : Grew H B := ⟨by rw [← hB]; simp(maxSteps:=9999999)(disch:=first|omega|(simp only[AN];omega))only[↓KP,EN,↓reduceIte,reduceCtorEq,Nat.reduceEqDiff,Nat.reduceAdd,Nat.reduceLeDiff,Nat.reduceMul]; omega, fun b hb => by rw [← hB]; simp(maxSteps:=9999999)(disch:=first|omega|(simp only[AN];omega))only[d4,hK0.get,hg0.get,↓KP,EN,↓reduceIte,reduceCtorEq,Nat.reduceEqDiff,Nat.reduceAdd,Nat.reduceLeDiff,Nat.reduceMul]⟩
    have hBn : K.next < B.next := by rw [← hB]; exact d3
    have kB : ∀ b, b < H1.next → b ≠ H.next → B.get b = H1.get b := fun b hb hne => by rw [← hB]; simp(maxSteps:=9999999)(disch:=first|omega|(simp only[AN];omega))only[d4,hK0.get,↓KP,EN,↓reduceIte,reduceCtorEq,Nat.reduceEqDiff,Nat.reduceAdd,Nat.reduceLeDiff,Nat.reduceMul]
    have hvd : Mine 2 EP (fun _ => False) K.next B vd s.filled := by
      rw [← hB]
      exact d2.move (H := H2) (H' := H2.set H.next (.cells false [vl, I s.lo, I s.hi, vg, .bool s.unseen, vd])) EP.stays (fun k hk hor => by rcases hor with h | h; exact h.elim; exact get_set_other (by omega)) (Nat.le_refl _)
    clear hB d1 d2 d3 d4 hK0 hK1
    refine K_loop (fun mz ez H3 => ∃ (i : Nat) (tail : Env), ez = (0, serArg vl vg vf s) :: (1, .int .u16 x) :: (2, .ptr H.next 0) :: (4, .ptr (H.next + 1) 0) :: (5, .ptr (H.next + 1 + 1) 0) :: (6, .bool false) :: tail ∧ (tail.get 8 = some (.ptr H1.next 0)) ∧ (tail.get 9 = some (I i)) ∧ (B.next ≤ H3.next) ∧ (∀ b, b < K.next → H3.get b = B.get b) ∧ (Mine 2 EP (fun _ => False) K.next H3 vd (toldTo s.filled t i)) ∧ (i ≤ s.filled.length) ∧ mz = s.filled.length - i) _ ⟨0, _, rfl, ?_, ?_, ?_, (by intro _ _; rfl), (by simpa [toldTo] using hvd), ?_, rfl⟩ ?_
    iterate 4 (focus (first|(with_reducible rfl)|omega|(with_reducible(repeat first|exact Grew.refl _|assumption|apply Grew.alloc|refine Grew.set ?_ _ (by first|omega|(simp only[AN];omega)));done)|(simp(maxSteps:=9999999)(disch:=first|omega|(simp only[AN];omega))only[↓KP,EN,↓reduceIte,reduceCtorEq,Nat.reduceEqDiff,Nat.reduceAdd,Nat.reduceLeDiff,Nat.reduceMul]<;>first|omega|rfl)|(simp;done)|rfl))
    rintro mz ez H3 ⟨i, tail, rfl, f8, f9, hn, hk, hvd, hi, hmz⟩; subst mz
    have h2 : H3.get H.next = some (.cells false [vl, I s.lo, I s.hi, vg, .bool s.unseen, vd]) := by rw [hk _ (by omega), e2]
    have h8 : H3.get H1.next = some (.cells false [wg, wm]) := by rw [hk _ (by omega), e8]
    have hl3 := hvd.len
    rw [toldTo_len hi] at hl3
    have kH : ∀ b, b < H1.next → b ≠ H.next → H3.get b = H1.get b := fun b hb hne => by rw [hk b (by omega), kB b hb hne]
    simp(maxSteps:=9999999)(disch:=first|omega|(simp only[AN];omega))only[f9,h2,hl3,↓KP,EN,↓reduceIte,reduceCtorEq,Nat.reduceEqDiff,Nat.reduceAdd,Nat.reduceLeDiff,Nat.reduceMul]
    refine C_decide (fun hc => ?_) (fun hc => ?_)
    · have hi' : i < s.filled.length := by omega
      have hlt' : i < (toldTo s.filled t i).length := by rw [toldTo_len hi]; exact hi'
      have e1 : IntKind.i64.wrap ((i : Int) + 1) = ((i + 1 : Nat) : Int) := i64_in _ (by omega)
      have hst := toldTo_set (t := t) hi'
      obtain ⟨qb, qi, qro, qvs, qlt, q⟩ := rdP (hvd.sl EP.stays) (n := (i : Int)) (k := i) rfl hlt'
      rw [toldTo_get hi' hlt'] at q
      generalize s.filled[i] = f at *
      have kW : ∀ b, (H.next + 1 + 1 + 1 < b ∧ b < H1.next) → H3.get b = H1.get b := fun b hb => kH b hb.2 (by omega)
      have hwg3 : IsSl 2 EP (Old H3) H3 wg t.1 := hwg.move EP.stays fun b hb => ⟨by show b < H3.next; omega, kW b hb⟩
      have hwm3 : IsSl 2 EP (Old H3) H3 wm t.2.toList := hwm.move EP.stays fun b hb => ⟨by show b < H3.next; omega, kW b hb⟩
      simp(maxSteps:=9999999)(disch:=first|omega|(simp only[AN];omega))only[f8,f9,h2,h8,q,↓KP,EN,↓reduceIte,reduceCtorEq,Nat.reduceEqDiff,Nat.reduceAdd,Nat.reduceLeDiff,Nat.reduceMul]
      first|refine C_call ?_|refine C_calld ?_
      refine On_run wg wm t f.1 (hwg3.grow EP.stays GW) (hwm3.grow EP.stays GW) (by omega) fun H4 hg4 => ?_
      have hg4n:=hg4.next;try simp only[AN]at hg4n
      have h42 : H4.get H.next = some (.cells false [vl, I s.lo, I s.hi, vg, .bool s.unseen, vd]) := by simp(maxSteps:=9999999)(disch:=first|omega|(simp only[AN];omega))only[hg4.get,h2,↓KP,EN,↓reduceIte,reduceCtorEq,Nat.reduceEqDiff,Nat.reduceAdd,Nat.reduceLeDiff,Nat.reduceMul]
      have h43 : H4.get H3.next = some (.cells false [I f.1, I f.2]) := by simp(maxSteps:=9999999)(disch:=first|omega|(simp only[AN];omega))only[hg4.get,↓KP,EN,↓reduceIte,reduceCtorEq,Nat.reduceEqDiff,Nat.reduceAdd,Nat.reduceLeDiff,Nat.reduceMul]
      simp(maxSteps:=9999999)(disch:=first|omega|(simp only[AN];omega))only[f8,f9,h42,h43,↓KP,EN,↓reduceIte,reduceCtorEq,Nat.reduceEqDiff,Nat.reduceAdd,Nat.reduceLeDiff,Nat.reduceMul]
      have hJ : ∀ b, b < H3.next → (H4.set H3.next (.cells false [I f.1, I (onE t f.1)])).get b = H3.get b := fun b hb => by simp(maxSteps:=9999999)(disch:=first|omega|(simp only[AN];omega))only[hg4.get,↓KP,EN,↓reduceIte,reduceCtorEq,Nat.reduceEqDiff,Nat.reduceAdd,Nat.reduceLeDiff,Nat.reduceMul]
      have hJn : H3.next < (H4.set H3.next (.cells false [I f.1, I (onE t f.1)])).next := by simp(maxSteps:=9999999)(disch:=first|omega|(simp only[AN];omega))only[↓KP,EN,↓reduceIte,reduceCtorEq,Nat.reduceEqDiff,Nat.reduceAdd,Nat.reduceLeDiff,Nat.reduceMul]; omega
      generalize H4.set H3.next (.cells false [I f.1, I (onE t f.1)]) = J at *
      have hvdJ := hvd.move (H := H3) (H' := J) EP.stays (fun k hk _ => hJ k hk) (by omega)
      obtain ⟨rb, ri, rvs, rvs', r1, r2, r, hm2⟩ := hvdJ.poke (cs := [I f.1, I (onE t f.1)]) (a := fT t f) (F := fun _ => False) EP.stays (n := (i : Int)) (k := i) rfl hlt' rfl (fun _ h => h.elim) rfl
      rw [hst] at hm2
      simp(maxSteps:=9999999)(disch:=first|omega|(simp only[AN];omega))only[f8,f9,r,e1,↓KP,EN,↓reduceIte,reduceCtorEq,Nat.reduceEqDiff,Nat.reduceAdd,Nat.reduceLeDiff,Nat.reduceMul]
      refine ⟨_, ?_, i + 1, _, rfl, ?_, ?_, ?_, (by intro b hb; simp(maxSteps:=9999999)(disch:=first|omega|(simp only[AN];omega))only[hJ,hk,↓KP,EN,↓reduceIte,reduceCtorEq,Nat.reduceEqDiff,Nat.reduceAdd,Nat.reduceLeDiff,Nat.reduceMul]), (by exact hm2), ?_, rfl⟩ <;> (first|omega|(with_reducible assumption)|(with_reducible(repeat first|exact Grew.refl _|assumption|apply Grew.alloc|refine Grew.set ?_ _ (by first|omega|(simp only[AN];omega)));done)|(simp(maxSteps:=9999999)(disch:=first|omega|(simp only[AN];omega))only[f8,f9,e1,↓KP,EN,↓reduceIte,reduceCtorEq,Nat.reduceEqDiff,Nat.reduceAdd,Nat.reduceLeDiff,Nat.reduceMul]<;>first|omega|rfl))
    · have hie : i = s.filled.length := by omega
      have hlist : toldTo s.filled t i = s.filled.map (fT t) := by rw [toldTo, hie, List.take_length, List.drop_length, List.append_nil]
      rw [hlist] at hvd
      have h4 : H3.get (H.next + 1) = some (.cells false [.nilslice, I 0, I 0, .nilslice, .bool false, .nilslice]) := by rw [hk _ (by omega), e4]
      have h5 : H3.get (H.next + 1 + 1) = some (.cells false [.nilslice, .nilslice]) := by rw [hk _ (by omega), e5]
      simp(maxSteps:=9999999)(disch:=first|omega|(simp only[AN];omega))only[↓KP,EN,↓reduceIte,reduceCtorEq,Nat.reduceEqDiff,Nat.reduceAdd,Nat.reduceLeDiff,Nat.reduceMul]
      refine K_draw ?_
      simp(maxSteps:=9999999)(disch:=first|omega|(simp only[AN];omega))only[f8,h2,h4,h5,h8,hvd.isCell,hh.l.isCell,hh.g.isCell,hwg.isCell,hwm.isCell,↓KP,EN,↓reduceIte,reduceCtorEq,Nat.reduceEqDiff,Nat.reduceAdd,Nat.reduceLeDiff,Nat.reduceMul]
      have kW : ∀ b, (H.next + 1 + 1 + 1 < b ∧ b < H1.next) → H3.get b = H1.get b := fun b hb => kH b hb.2 (by omega)
      generalize hFN : AH.set (AH.set H3 (H.next + 1) _) (H.next + 1 + 1) _ = FN
      have kF : ∀ b, H.next + 1 + 1 < b → FN.get b = H3.get b := fun b hb => by rw [← hFN]; simp(maxSteps:=9999999)(disch:=first|omega|(simp only[AN];omega))only[↓KP,EN,↓reduceIte,reduceCtorEq,Nat.reduceEqDiff,Nat.reduceAdd,Nat.reduceLeDiff,Nat.reduceMul]
      have nF : FN.next = H3.next := by rw [← hFN]; rfl
      have hgF : Grew H FN := ⟨by omega, fun b hb => by rw [← hFN]; simp(maxSteps:=9999999)(disch:=first|omega|(simp only[AN];omega))only[hk,hgB.get,↓KP,EN,↓reduceIte,reduceCtorEq,Nat.reduceEqDiff,Nat.reduceAdd,Nat.reduceLeDiff,Nat.reduceMul]⟩
      clear hFN
      have hvdF : Mine 2 EP (fun _ => False) K.next FN vd (s.filled.map (fT t)) := hvd.move (H := H3) (H' := FN) EP.stays (fun k hk hor => by rcases hor with h | h; exact h.elim; exact kF _ (by omega)) (by omega)
      refine k1 t htm _ _ _ _ hgF ⟨hh.l.grow EB.stays hgF, hh.g.grow EInt.stays hgF, hvdF.sl EP.stays⟩ ?_ ?_
      · exact hwg.move EP.stays fun b hb => ⟨by show b < FN.next; omega, by rw [kF _ (by omega)]; exact kW b hb⟩
      · exact hwm.move EP.stays fun b hb => ⟨by show b < FN.next; omega, by rw [kF _ (by omega)]; exact kW b hb⟩
end Go.Proofs.Ytihahmggfjjkjaa
namespace Go.Proofs.Ytihahmggfjjkjaa
open Go.AM Go.IntWalk Go.PL
set_option maxRecDepth 100000
set_option maxHeartbeats 4000000
set_option linter.unusedSimpArgs false
theorem err_iff {s : Series} : errE s = 0 ↔ (1 ≤ s.len ∧ s.len ≤ 8) ∧ lastE s = 0 ∧ s.groups.length ≤ 3 ∧ (∀ j (hj : j < s.groups.length), groupE s j s.groups[j] = 0) ∧ s.filled.length ≤ 4 ∧ (∀ j (hj : j < s.filled.length), filledE s j s.filled[j] = 0) := by
  unfold errE checkE
  by_cases h1 : 1 ≤ s.len ∧ s.len ≤ 8
  · rw [if_neg (fun h => h h1)]
    by_cases h2 : lastE s = 0
    · rw [if_neg (fun h => h h2), checkG]
      by_cases h3 : 3 < s.groups.length
      · rw [if_pos h3]
        exact ⟨fun h => (by cases h), fun h => by omega⟩
      · rw [if_neg h3]
        cases hg : firstErr (groupE s) 0 s.groups with
        | some x =>
          obtain ⟨i, e⟩ := x
          refine ⟨fun h => absurd h (firstErr_ne hg), fun h => ?_⟩
          rw [firstErr_none (fun j hj => by rw [Nat.zero_add]; exact h.2.2.2.1 j hj)] at hg
          cases hg
        | none =>
          have hg' := firstErr_none' hg
          simp only [Nat.zero_add] at hg'
          show (checkF s).2.2 = 0 ↔ _
          rw [checkF]
          by_cases h4 : 4 < s.filled.length
          · rw [if_pos h4]
            exact ⟨fun h => (by cases h), fun h => by omega⟩
          · rw [if_neg h4]
            cases hf : firstErr (filledE s) 0 s.filled with
            | some x =>
              obtain ⟨i, e⟩ := x
              refine ⟨fun h => absurd h (firstErr_ne hf), fun h => ?_⟩
              rw [firstErr_none (fun j hj => by rw [Nat.zero_add]; exact h.2.2.2.2.2 j hj)] at hf
              cases hf
            | none =>
              have hf' := firstErr_none' hf
              simp only [Nat.zero_add] at hf'
              exact ⟨fun _ => ⟨h1, h2, by omega, hg', by omega, hf'⟩, fun _ => rfl⟩
    · rw [if_pos h2]
      exact ⟨fun h => absurd h h2, fun h => absurd h.2.1 h2⟩
  · rw [if_pos h1]
    exact ⟨fun h => (by cases h), fun h => absurd h.1 h1⟩
theorem filledE_zero {s : Series} {i : Nat} {f : Int × Int} : filledE s i f = 0 ↔ (0 ≤ f.1 ∧ f.1 ≤ (s.len : Int) - 1) ∧ lk s f.1.toNat = false ∧ (∀ x ∈ s.filled.take i, x.1 ≠ f.1) ∧ 0 ≤ f.2 ∧ f.2 ≤ 4 := by
  unfold filledE
  by_cases h1 : 0 ≤ f.1 ∧ f.1 ≤ (s.len : Int) - 1
  · rw [if_neg (fun h => h h1)]
    by_cases h2 : lk s f.1.toNat = true
    · rw [if_pos h2]; exact ⟨fun h => (by cases h), fun h => (by rw [h2] at h; exact absurd h.2.1 (by decide))⟩
    · rw [if_neg h2]
      by_cases h3 : (s.filled.take i).any (fun x => decide (x.1 = f.1)) = true
      · rw [if_pos h3]
        refine ⟨fun h => (by cases h), fun h => ?_⟩
        obtain ⟨x, hx, he⟩ := List.any_eq_true.1 h3
        exact absurd (of_decide_eq_true he) (h.2.2.1 x hx)
      · rw [if_neg h3]
        by_cases h4 : 0 ≤ f.2 ∧ f.2 ≤ 4
        · rw [if_pos h4]
          refine ⟨fun _ => ⟨h1, by simpa using h2, fun x hx he => ?_, h4⟩, fun _ => rfl⟩
          apply h3
          rw [List.any_eq_true]
          exact ⟨x, hx, decide_eq_true he⟩
        · rw [if_neg h4]; exact ⟨fun h => (by cases h), fun h => absurd h.2.2.2 h4⟩
  · rw [if_pos h1]; exact ⟨fun h => (by cases h), fun h => absurd h.1 h1⟩
end Go.Proofs.Ytihahmggfjjkjaa
namespace Go.Proofs.Ytihahmggfjjkjaa
open Go.AM Go.IntWalk Go.PL
set_option maxRecDepth 100000
set_option maxHeartbeats 4000000
set_option linter.unusedSimpArgs false
variable {H : AH} {R : AV → AH → Prop}
theorem told_ok {s : Series} {t : Truth} (he : errE s = 0) (ht : t ∈ allE s) : errE (toldS s t) = 0 ∧ t ∈ truthsE (toldS s t) [] := by
  obtain ⟨h1, h2, h3, h4, h5, h6⟩ := err_iff.1 he
  have hfl : (toldS s t).filled.length = s.filled.length := by simp
  refine ⟨err_iff.2 ⟨h1, h2, h3, h4, by rw [hfl]; exact h5, fun j hj => ?_⟩, ?_⟩
  · rw [hfl] at hj
    obtain ⟨f1, f3, f4, f5⟩ := filledE_zero.1 (h6 j hj)
    have e : (toldS s t).filled[j]'(by rw [hfl]; exact hj) = fT t s.filled[j] := by simp
    rw [e]
    refine filledE_zero.2 ⟨f1, f3, fun x hx => ?_, ?_⟩
    · rw [← List.map_take] at hx
      obtain ⟨y, hy, rfl⟩ := List.mem_map.1 hx
      exact f4 y hy
    · have hb := onE_bound (t := t) (d := s.filled[j].1)
      have hl := allE_mem ht
      show 0 ≤ onE t s.filled[j].1 ∧ onE t s.filled[j].1 ≤ 4
      omega
  · rw [mem_truthsE]
    refine ⟨ht, ?_⟩
    rw [soE_eq, List.all_eq_true]
    intro k hk
    have hk : k < s.filled.length := by simpa using hk
    have e : (toldS s t).filled.getD k (0, 0) = fT t (s.filled.getD k (0, 0)) := by
      simp only [List.getD_eq_getElem?_getD, List.getElem?_map]
      rw [List.getElem?_eq_getElem hk]; rfl
    rw [soK, e]
    simp [fT]
theorem denies_not {l : List Truth} {p : Truth → Bool} {t : Truth} (h : t ∈ l) : deniesE (settledE (l.countP p : Nat) l.length) (p t) = false := by
  obtain ⟨a1, a2, a3⟩ := settle_spec (p := p) (List.ne_nil_of_mem h)
  unfold deniesE
  rcases a3 with e | e | e
  · rw [e]; rfl
  · rw [e, a1.1 e t h]; rfl
  · rw [e, a2.1 e t h]; rfl
theorem True_run (vl vg vf : AV) (s : Series) (x : Int) (hh : IsSer (Old H) H vl vg vf s) (hs : Sized s) (hx : 0 ≤ x ∧ x ≤ 65535) (k : ∀ H', Grew H H' → R (.bool true) H') : CallQ prog (.func 7 [] []) [serArg vl vg vf s, .int .u16 x] H R := by
  refine CallQ_enter (fn:=c7) rfl (Nat.le_of_ble_eq_true rfl) ?_;simp(maxSteps:=9999999)(disch:=first|omega|(simp only[AN];omega))only[c7,envFrom,hh.l.isCell,hh.g.isCell,hh.f.isCell,↓KP,EN,↓reduceIte,reduceCtorEq,Nat.reduceEqDiff,Nat.reduceAdd,Nat.reduceLeDiff,Nat.reduceMul]
  first|refine C_call ?_|refine C_calld ?_
  refine valid_run vl vg vf s (hh.grow GW) hs fun H1 hg1 => ?_
  have hg1n:=hg1.next;try simp only[AN]at hg1n
  have hbox : H1.get H.next = some (.cells false [vl, I s.lo, I s.hi, vg, .bool s.unseen, vf]) := by simp(maxSteps:=9999999)(disch:=first|omega|(simp only[AN];omega))only[hg1.get,↓KP,EN,↓reduceIte,reduceCtorEq,Nat.reduceEqDiff,Nat.reduceAdd,Nat.reduceLeDiff,Nat.reduceMul]
  by_cases he : errE s = 0
  · have hfine := fine_of he
    simp(maxSteps:=9999999)(disch:=first|omega|(simp only[AN];omega))only[eq_true he,hbox,↓KP,EN,↓reduceIte,reduceCtorEq,Nat.reduceEqDiff,Nat.reduceAdd,Nat.reduceLeDiff,Nat.reduceMul]
    first|refine C_call ?_|refine C_calld ?_
    refine Told_run vl vg vf s x (hh.grow GW) hs hfine hx (fun hn H2 hg2 => ?_) (fun t ht H2 vd wg wm hg2 hd hwg hwm => ?_)
    · have hg2n := hg2.next
      have hw : wrongE s = ([], 8) := by
        rcases wrong_cases he with h | ⟨c, _, _, h, _⟩
        · exact h.1
        · exfalso
          rw [goodE, decide_eq_true_eq] at h
          apply h
          rw [truthsE, hn]; rfl
      simp(maxSteps:=9999999)(disch:=first|omega|(simp only[AN];omega))only[hh.l.isCell,hh.g.isCell,hh.f.isCell,↓KP,EN,↓reduceIte,reduceCtorEq,Nat.reduceEqDiff,Nat.reduceAdd,Nat.reduceLeDiff,Nat.reduceMul]
      first|refine C_call ?_|refine C_calld ?_
      refine Wrong_run vl vg vf s (hh.grow GW) hs fun H3 vw hg3 hvw => ?_
      have hg3n := hg3.next; try simp only [AN] at hg3n
      rw [hw] at hvw ⊢
      have hvwl : ∀ S, opLen false vw S = some (.int .i64 0, S) := hvw.len
      simp(maxSteps:=9999999)(disch:=first|omega|(simp only[AN];omega))only[hvwl,↓KP,EN,↓reduceIte,reduceCtorEq,Nat.reduceEqDiff,Nat.reduceAdd,Nat.reduceLeDiff,Nat.reduceMul]
      first|refine C_call ?_|refine C_calld ?_
      refine Awake_run fun H4 hg4 => ?_
      have hg4n:=hg4.next;try simp only[AN]at hg4n
      simp(maxSteps:=9999999)(disch:=first|omega|(simp only[AN];omega))only[↓KP,EN,↓reduceIte,reduceCtorEq,Nat.reduceEqDiff,Nat.reduceAdd,Nat.reduceLeDiff,Nat.reduceMul]
      exact k _ GW
    · have hg2n := hg2.next
      obtain ⟨heD, hmD⟩ := told_ok he ht
      have htD := List.ne_nil_of_mem hmD
      have hfD := fine_of heD
      have htl : t.1.length = s.groups.length := allE_mem ht
      have hsD : Sized (toldS s t) := ⟨hs.l, hs.g, by rw [List.length_map]; exact hs.f, hs.lo, hs.hi⟩
      have hlenD : (toldS s t).len = s.len := rfl
      have hlen : (s.looked.length : Int) = s.len := rfl
      have hl8 := hfine.len
      have hgl := hfine.gl
      have hw := wrong_none heD htD
      have hnum := fun d (hd : d < s.len) => number_ok heD htD (d := d) hd
      have hther := fun i (hi : i < s.groups.length) d (hd : d < s.len) => there_ok heD htD (i := i) (d := d) hi hd
      have hlast := fun i (hi : i < s.groups.length) => lasted_ok heD htD (i := i) hi
      have huns := unseen_ok heD htD
      have hden := fun (p : Truth → Bool) => denies_not (p := p) hmD
      have hns := fun (d : Int) => (num_spec (d := d) htD).1 t hmD
      have hls := fun (i : Nat) => (lasts_spec (i := i) htD).1 t hmD
      have hgP := fun i (hi : i < s.groups.length) => truth_get hmD (i := i) hi
      have hdl : (toldS s t).looked = s.looked := rfl
      have hdg : (toldS s t).groups = s.groups := rfl
      generalize hDD : toldS s t = D at *
      simp(maxSteps:=9999999)(disch:=first|omega|(simp only[AN];omega))only[hd.l.isCell,hd.g.isCell,hd.f.isCell,hwg.isCell,hwm.isCell,↓KP,EN,↓reduceIte,reduceCtorEq,Nat.reduceEqDiff,Nat.reduceAdd,Nat.reduceLeDiff,Nat.reduceMul]
      generalize hB : AH.set _ _ _ = B
      have b7 : B.get H2.next = some (.cells false [vl, I D.lo, I D.hi, vg, .bool D.unseen, vd]) := by rw [← hB]; simp(maxSteps:=9999999)(disch:=first|omega|(simp only[AN];omega))only[↓KP,EN,↓reduceIte,reduceCtorEq,Nat.reduceEqDiff,Nat.reduceAdd,Nat.reduceLeDiff,Nat.reduceMul]
      have b8 : B.get (H2.next + 1) = some (.cells false [wg, wm]) := by rw [← hB]; simp(maxSteps:=9999999)(disch:=first|omega|(simp only[AN];omega))only[↓KP,EN,↓reduceIte,reduceCtorEq,Nat.reduceEqDiff,Nat.reduceAdd,Nat.reduceLeDiff,Nat.reduceMul]
      have hgB : Grew H2 B := by rw [← hB]; exact GW
      have hBn : B.next = H2.next + 1 + 1 := by rw [← hB]; rfl
      clear hB
      replace hd := hd.grow hgB
      replace hwg := hwg.grow EP.stays hgB
      replace hwm := hwm.grow EP.stays hgB
      have hgH : Grew H B := GW
      clear hg1 hg2 hgB
      first|refine C_call ?_|refine C_calld ?_
      refine Wrong_run vl vg vd D (hd.grow GW) hsD fun H3 vw hg3 hvw => ?_
      have hg3n := hg3.next; try simp only [AN] at hg3n
      rw [hw] at hvw ⊢
      have hvwl : ∀ S, opLen false vw S = some (.int .i64 0, S) := hvw.len
      simp(maxSteps:=9999999)(disch:=first|omega|(simp only[AN];omega))only[hg3.get,b7,↓KP,EN,↓reduceIte,reduceCtorEq,Nat.reduceEqDiff,Nat.reduceAdd,Nat.reduceLeDiff,Nat.reduceMul]
      first|refine C_call ?_|refine C_calld ?_
      refine Unseen_run vl vg vd D (hd.grow GW) hsD fun H4 hg4 => ?_
      have hg4n:=hg4.next;try simp only[AN]at hg4n
      have hu := hden fun t => t.2.isSome
      rw [huns]
      have e00 : ¬ (0 : Int) < 0 := by decide
      have hml := hwm.len
      have hmb : decide ((0 : Int) < (t.2.toList.length : Int)) = t.2.isSome := by cases t.2 <;> rfl
      simp(maxSteps:=9999999)(disch:=first|omega|(simp only[AN];omega))only[hvwl,e00,hg4.get,hg3.get,b8,hml,hmb,↓KP,EN,↓reduceIte,reduceCtorEq,Nat.reduceEqDiff,Nat.reduceAdd,Nat.reduceLeDiff,Nat.reduceMul]
      first|refine C_call ?_|refine C_calld ?_
      refine denies_run (settledE ((truthsE D []).countP fun t => t.2.isSome : Nat) (truthsE D []).length) t.2.isSome ?_
      rw [hu]
      have hgC : Grew B H4 := GW
      have c7 : H4.get H2.next = some (.cells false [vl, I D.lo, I D.hi, vg, .bool D.unseen, vd]) := by simp(maxSteps:=9999999)(disch:=first|omega|(simp only[AN];omega))only[hgC.get,b7,↓KP,EN,↓reduceIte,reduceCtorEq,Nat.reduceEqDiff,Nat.reduceAdd,Nat.reduceLeDiff,Nat.reduceMul]
      have c8 : H4.get (H2.next + 1) = some (.cells false [wg, wm]) := by simp(maxSteps:=9999999)(disch:=first|omega|(simp only[AN];omega))only[hgC.get,b8,↓KP,EN,↓reduceIte,reduceCtorEq,Nat.reduceEqDiff,Nat.reduceAdd,Nat.reduceLeDiff,Nat.reduceMul]
      replace hd := hd.grow hgC
      replace hwg := hwg.grow EP.stays hgC
      replace hwm := hwm.grow EP.stays hgC
      have hgH' : Grew H H4 := hgH.trans hgC
      have hg4n' : H2.next + 1 < H4.next := by omega
      clear hg3 hg4 hgC b7 b8 hgH hvw
      have hsl : ∀ d, d < s.len → d < s.looked.length := fun d h => h
      have hdll : ∀ S, opLen false vl S = some (.int .i64 s.len, S) := fun S => by rw [← hlen, ← hdl]; exact hd.l.len S
      have hdgl : ∀ S, opLen false vg S = some (.int .i64 s.groups.length, S) := fun S => by rw [← hdg]; exact hd.g.len S
      simp(maxSteps:=9999999)(disch:=first|omega|(simp only[AN];omega))only[↓KP,EN,↓reduceIte,reduceCtorEq,Nat.reduceEqDiff,Nat.reduceAdd,Nat.reduceLeDiff,Nat.reduceMul]
      refine K_loop (fun mz ez H5 => ∃ (d : Nat) (tail : Env), ez = (0, serArg vl vg vf s) :: (1, .int .u16 x) :: (2, .ptr H.next 0) :: (4, .bool false) :: tail ∧ (tail.get 7 = some (.ptr H2.next 0)) ∧ (tail.get 8 = some (.ptr (H2.next + 1) 0)) ∧ (tail.get 14 = some (I d)) ∧ (Grew H4 H5) ∧ (d ≤ s.len) ∧ mz = s.len - d) _ ⟨0, _, rfl, ?_, ?_, ?_, ?_, ?_, rfl⟩ ?_
      iterate 5 (focus (first|(with_reducible rfl)|omega|(with_reducible(repeat first|exact Grew.refl _|assumption|apply Grew.alloc|refine Grew.set ?_ _ (by first|omega|(simp only[AN];omega)));done)|(simp(maxSteps:=9999999)(disch:=first|omega|(simp only[AN];omega))only[↓KP,EN,↓reduceIte,reduceCtorEq,Nat.reduceEqDiff,Nat.reduceAdd,Nat.reduceLeDiff,Nat.reduceMul]<;>first|omega|rfl)|(simp;done)|rfl))
      rintro mz ez H5 ⟨d, tail, rfl, f7, f8, f14, hG, hdd, hmz⟩; subst mz; have hGn := hG.next
      simp(maxSteps:=9999999)(disch:=first|omega|(simp only[AN];omega))only[f7,f14,hG.get,c7,hdll,↓KP,EN,↓reduceIte,reduceCtorEq,Nat.reduceEqDiff,Nat.reduceAdd,Nat.reduceLeDiff,Nat.reduceMul]
      refine C_decide (fun hc => ?_) (fun hc => ?_)
      · have hd' : d < s.len := by omega
        have e1 : IntKind.i64.wrap ((d : Int) + 1) = ((d + 1 : Nat) : Int) := i64_in _ (by omega)
        have hn := hns d
        simp(maxSteps:=9999999)(disch:=first|omega|(simp only[AN];omega))only[f7,f14,hG.get,c7,↓KP,EN,↓reduceIte,reduceCtorEq,Nat.reduceEqDiff,Nat.reduceAdd,Nat.reduceLeDiff,Nat.reduceMul]
        first|refine C_call ?_|refine C_calld ?_
        refine Number_run vl vg vd D d (hd.grow GW) hsD fun H6 hg6 => ?_
        have hg6n:=hg6.next;try simp only[AN]at hg6n
        rw [hnum d hd']
        simp(maxSteps:=9999999)(disch:=first|omega|(simp only[AN];omega))only[↓KP,EN,↓reduceIte,reduceCtorEq,Nat.reduceEqDiff,Nat.reduceAdd,Nat.reduceLeDiff,Nat.reduceMul]
        refine K_draw ?_
        simp(maxSteps:=9999999)(disch:=first|omega|(simp only[AN];omega))only[f7,f8,f14,hg6.get,hG.get,c8,↓KP,EN,↓reduceIte,reduceCtorEq,Nat.reduceEqDiff,Nat.reduceAdd,Nat.reduceLeDiff,Nat.reduceMul]
        refine C_calld ?_
        refine On_run wg wm t d (hwg.grow EP.stays GW) (hwm.grow EP.stays GW) (by omega) fun H7 hg7 => ?_
        have hg7n:=hg7.next;try simp only[AN]at hg7n
        simp(maxSteps:=9999999)(disch:=first|omega|(simp only[AN];omega))only[f7,f8,f14,hg7.get,hg6.get,hG.get,c8,↓KP,EN,↓reduceIte,reduceCtorEq,Nat.reduceEqDiff,Nat.reduceAdd,Nat.reduceLeDiff,Nat.reduceMul]
        refine C_calld ?_
        refine Inside_run (onE t d) (numE (truthsE D []) d).1 (numE (truthsE D []) d).2 fun H8 hg8 => ?_
        have hg8n:=hg8.next;try simp only[AN]at hg8n
        rw [decide_eq_true hn.1, decide_eq_true hn.2, Bool.true_and]
        simp(maxSteps:=9999999)(disch:=first|omega|(simp only[AN];omega))only[f7,f8,f14,hg8.get,hg7.get,hg6.get,hG.get,c8,↓KP,EN,↓reduceIte,reduceCtorEq,Nat.reduceEqDiff,Nat.reduceAdd,Nat.reduceLeDiff,Nat.reduceMul]
        refine K_loop (fun mz ez H9 => ∃ (i : Nat) (tail : Env), ez = (0, serArg vl vg vf s) :: (1, .int .u16 x) :: (2, .ptr H.next 0) :: (4, .bool false) :: tail ∧ (tail.get 7 = some (.ptr H2.next 0)) ∧ (tail.get 8 = some (.ptr (H2.next + 1) 0)) ∧ (tail.get 14 = some (I d)) ∧ (tail.get 17 = some (I i)) ∧ (Grew H5 H9) ∧ (i ≤ s.groups.length) ∧ mz = s.groups.length - i) _ ⟨0, _, rfl, (by simp(maxSteps:=9999999)(disch:=first|omega|(simp only[AN];omega))only[f7,↓KP,EN,↓reduceIte,reduceCtorEq,Nat.reduceEqDiff,Nat.reduceAdd,Nat.reduceLeDiff,Nat.reduceMul]), (by simp(maxSteps:=9999999)(disch:=first|omega|(simp only[AN];omega))only[f8,↓KP,EN,↓reduceIte,reduceCtorEq,Nat.reduceEqDiff,Nat.reduceAdd,Nat.reduceLeDiff,Nat.reduceMul]), (by simp(maxSteps:=9999999)(disch:=first|omega|(simp only[AN];omega))only[f14,↓KP,EN,↓reduceIte,reduceCtorEq,Nat.reduceEqDiff,Nat.reduceAdd,Nat.reduceLeDiff,Nat.reduceMul]), ?_, (by exact GW), ?_, rfl⟩ ?_
        iterate 2 (focus (first|(with_reducible rfl)|omega|(with_reducible(repeat first|exact Grew.refl _|assumption|apply Grew.alloc|refine Grew.set ?_ _ (by first|omega|(simp only[AN];omega)));done)|(simp(maxSteps:=9999999)(disch:=first|omega|(simp only[AN];omega))only[↓KP,EN,↓reduceIte,reduceCtorEq,Nat.reduceEqDiff,Nat.reduceAdd,Nat.reduceLeDiff,Nat.reduceMul]<;>first|omega|rfl)|(simp;done)|rfl))
        rintro mz ez H9 ⟨i, tail, rfl, g7, g8, g14, g17, hG9, hi, hmz⟩; subst mz; have hG9n := hG9.next
        simp(maxSteps:=9999999)(disch:=first|omega|(simp only[AN];omega))only[g7,g17,hG9.get,hG.get,c7,hdgl,↓KP,EN,↓reduceIte,reduceCtorEq,Nat.reduceEqDiff,Nat.reduceAdd,Nat.reduceLeDiff,Nat.reduceMul]
        refine C_decide (fun hc2 => ?_) (fun hc2 => ?_)
        · have hi' : i < s.groups.length := by omega
          have e2 : IntKind.i64.wrap ((i : Int) + 1) = ((i + 1 : Nat) : Int) := i64_in _ (by omega)
          obtain ⟨qb, qi, qro, qvs, qlt, q⟩ := rdP hwg (n := (i : Int)) (k := i) rfl (by omega)
          rw [← getP_eq (show i < t.1.length by omega)] at q
          have hde := hden fun t => inS d (getP t.1 i)
          have hin : (decide ((getP t.1 i).1 ≤ (d : Int)) && decide ((d : Int) ≤ (getP t.1 i).2)) = inS d (getP t.1 i) := rfl
          simp(maxSteps:=9999999)(disch:=first|omega|(simp only[AN];omega))only[g7,g14,g17,hG9.get,hG.get,c7,↓KP,EN,↓reduceIte,reduceCtorEq,Nat.reduceEqDiff,Nat.reduceAdd,Nat.reduceLeDiff,Nat.reduceMul]
          first|refine C_call ?_|refine C_calld ?_
          refine There_run vl vg vd D i d (hd.grow GW) hsD fun H10 hg10 => ?_
          have hg10n:=hg10.next;try simp only[AN]at hg10n
          rw [hther i hi' d hd']
          simp(maxSteps:=9999999)(disch:=first|omega|(simp only[AN];omega))only[g7,g8,g14,g17,hg10.get,hG9.get,hG.get,c8,q,↓KP,EN,↓reduceIte,reduceCtorEq,Nat.reduceEqDiff,Nat.reduceAdd,Nat.reduceLeDiff,Nat.reduceMul]
          first|refine C_call ?_|refine C_calld ?_
          refine Inside_run (d : Int) (getP t.1 i).1 (getP t.1 i).2 fun H11 hg11 => ?_
          have hg11n:=hg11.next;try simp only[AN]at hg11n
          rw [hin]
          simp(maxSteps:=9999999)(disch:=first|omega|(simp only[AN];omega))only[g7,g8,g14,g17,hg11.get,hg10.get,hG9.get,hG.get,c8,q,↓KP,EN,↓reduceIte,reduceCtorEq,Nat.reduceEqDiff,Nat.reduceAdd,Nat.reduceLeDiff,Nat.reduceMul]
          first|refine C_call ?_|refine C_calld ?_
          refine denies_run (settledE ((truthsE D []).countP fun t => inS d (getP t.1 i) : Nat) (truthsE D []).length) (inS d (getP t.1 i)) ?_
          rw [hde]
          simp(maxSteps:=9999999)(disch:=first|omega|(simp only[AN];omega))only[g17,e2,↓KP,EN,↓reduceIte,reduceCtorEq,Nat.reduceEqDiff,Nat.reduceAdd,Nat.reduceLeDiff,Nat.reduceMul]
          refine ⟨_, ?_, i + 1, _, rfl, ?_, ?_, ?_, ?_, ?_, ?_, rfl⟩ <;> (first|omega|(with_reducible assumption)|(with_reducible(repeat first|exact Grew.refl _|assumption|apply Grew.alloc|refine Grew.set ?_ _ (by first|omega|(simp only[AN];omega))|refine Grew.trans ?_ hg11|refine Grew.trans ?_ hg10|refine Grew.trans ?_ hG9);done)|(simp(maxSteps:=9999999)(disch:=first|omega|(simp only[AN];omega))only[g7,g8,g14,g17,hg11.get,hg10.get,hG9.get,↓KP,EN,↓reduceIte,reduceCtorEq,Nat.reduceEqDiff,Nat.reduceAdd,Nat.reduceLeDiff,Nat.reduceMul]<;>first|omega|rfl))
        · simp(maxSteps:=9999999)(disch:=first|omega|(simp only[AN];omega))only[g14,e1,↓KP,EN,↓reduceIte,reduceCtorEq,Nat.reduceEqDiff,Nat.reduceAdd,Nat.reduceLeDiff,Nat.reduceMul]
          refine ⟨_, ?_, d + 1, _, rfl, ?_, ?_, ?_, ?_, ?_, rfl⟩ <;> (first|omega|(with_reducible assumption)|(with_reducible(repeat first|exact Grew.refl _|assumption|apply Grew.alloc|refine Grew.set ?_ _ (by first|omega|(simp only[AN];omega))|refine Grew.trans ?_ hG9|refine Grew.trans ?_ hG);done)|(simp(maxSteps:=9999999)(disch:=first|omega|(simp only[AN];omega))only[g7,g8,g14,e1,hG9.get,hG.get,↓KP,EN,↓reduceIte,reduceCtorEq,Nat.reduceEqDiff,Nat.reduceAdd,Nat.reduceLeDiff,Nat.reduceMul]<;>first|omega|rfl))
      · simp(maxSteps:=9999999)(disch:=first|omega|(simp only[AN];omega))only[↓KP,EN,↓reduceIte,reduceCtorEq,Nat.reduceEqDiff,Nat.reduceAdd,Nat.reduceLeDiff,Nat.reduceMul]
        refine K_loop (fun mz ez H9 => ∃ (i : Nat) (tail : Env), ez = (0, serArg vl vg vf s) :: (1, .int .u16 x) :: (2, .ptr H.next 0) :: (4, .bool false) :: tail ∧ (tail.get 7 = some (.ptr H2.next 0)) ∧ (tail.get 8 = some (.ptr (H2.next + 1) 0)) ∧ (tail.get 20 = some (I i)) ∧ (Grew H4 H9) ∧ (i ≤ s.groups.length) ∧ mz = s.groups.length - i) _ ⟨0, _, rfl, (by simp(maxSteps:=9999999)(disch:=first|omega|(simp only[AN];omega))only[f7,↓KP,EN,↓reduceIte,reduceCtorEq,Nat.reduceEqDiff,Nat.reduceAdd,Nat.reduceLeDiff,Nat.reduceMul]), (by simp(maxSteps:=9999999)(disch:=first|omega|(simp only[AN];omega))only[f8,↓KP,EN,↓reduceIte,reduceCtorEq,Nat.reduceEqDiff,Nat.reduceAdd,Nat.reduceLeDiff,Nat.reduceMul]), ?_, ?_, ?_, rfl⟩ ?_
        iterate 3 (focus (first|(with_reducible rfl)|omega|(with_reducible(repeat first|exact Grew.refl _|assumption|apply Grew.alloc|refine Grew.set ?_ _ (by first|omega|(simp only[AN];omega)));done)|(simp(maxSteps:=9999999)(disch:=first|omega|(simp only[AN];omega))only[↓KP,EN,↓reduceIte,reduceCtorEq,Nat.reduceEqDiff,Nat.reduceAdd,Nat.reduceLeDiff,Nat.reduceMul]<;>first|omega|rfl)|(simp;done)|rfl))
        rintro mz ez H9 ⟨i, tail, rfl, g7, g8, g20, hG9, hi, hmz⟩; subst mz; have hG9n := hG9.next
        simp(maxSteps:=9999999)(disch:=first|omega|(simp only[AN];omega))only[g7,g20,hG9.get,c7,hdgl,↓KP,EN,↓reduceIte,reduceCtorEq,Nat.reduceEqDiff,Nat.reduceAdd,Nat.reduceLeDiff,Nat.reduceMul]
        refine C_decide (fun hc2 => ?_) (fun hc2 => ?_)
        · have hi' : i < s.groups.length := by omega
          have e2 : IntKind.i64.wrap ((i : Int) + 1) = ((i + 1 : Nat) : Int) := i64_in _ (by omega)
          obtain ⟨qb, qi, qro, qvs, qlt, q⟩ := rdP hwg (n := (i : Int)) (k := i) rfl (by omega)
          rw [← getP_eq (show i < t.1.length by omega)] at q
          obtain ⟨lo, hi2, p1, p2, _, p4⟩ := hgP i hi'
          have hle := hls i
          rw [p4] at q hle
          simp only at q
          have w1 : IntKind.i64.wrap ((hi2 : Int) - lo) = (hi2 : Int) - lo := i64_in _ (by omega)
          have w2 : IntKind.i64.wrap ((hi2 : Int) - lo + 1) = (hi2 : Int) - lo + 1 := i64_in _ (by omega)
          have hde : daysE ((lo : Int), (hi2 : Int)) = (hi2 : Int) - lo + 1 := rfl
          rw [hde] at hle
          simp(maxSteps:=9999999)(disch:=first|omega|(simp only[AN];omega))only[g7,g20,hG9.get,c7,↓KP,EN,↓reduceIte,reduceCtorEq,Nat.reduceEqDiff,Nat.reduceAdd,Nat.reduceLeDiff,Nat.reduceMul]
          first|refine C_call ?_|refine C_calld ?_
          refine Lasted_run vl vg vd D i (hd.grow GW) hsD fun H10 hg10 => ?_
          have hg10n:=hg10.next;try simp only[AN]at hg10n
          rw [hlast i hi']
          simp(maxSteps:=9999999)(disch:=first|omega|(simp only[AN];omega))only[↓KP,EN,↓reduceIte,reduceCtorEq,Nat.reduceEqDiff,Nat.reduceAdd,Nat.reduceLeDiff,Nat.reduceMul]
          refine K_draw ?_
          simp(maxSteps:=9999999)(disch:=first|omega|(simp only[AN];omega))only[g7,g8,g20,hg10.get,hG9.get,c8,q,w1,w2,↓KP,EN,↓reduceIte,reduceCtorEq,Nat.reduceEqDiff,Nat.reduceAdd,Nat.reduceLeDiff,Nat.reduceMul]
          refine C_calld ?_
          refine Inside_run ((hi2 : Int) - lo + 1) (lastsE (truthsE D []) i).1 (lastsE (truthsE D []) i).2 fun H11 hg11 => ?_
          have hg11n:=hg11.next;try simp only[AN]at hg11n
          rw [decide_eq_true hle.1, decide_eq_true hle.2, Bool.true_and]
          simp(maxSteps:=9999999)(disch:=first|omega|(simp only[AN];omega))only[g7,g8,g20,hg11.get,hg10.get,hG9.get,c8,e2,↓KP,EN,↓reduceIte,reduceCtorEq,Nat.reduceEqDiff,Nat.reduceAdd,Nat.reduceLeDiff,Nat.reduceMul]
          refine ⟨_, ?_, i + 1, _, rfl, ?_, ?_, ?_, ?_, ?_, rfl⟩ <;> (first|omega|(with_reducible assumption)|(with_reducible(repeat first|exact Grew.refl _|assumption|apply Grew.alloc|refine Grew.set ?_ _ (by first|omega|(simp only[AN];omega))|refine Grew.trans ?_ hg11|refine Grew.trans ?_ hg10|refine Grew.trans ?_ hG9);done)|(simp(maxSteps:=9999999)(disch:=first|omega|(simp only[AN];omega))only[g7,g8,g20,e2,hg11.get,hg10.get,hG9.get,↓KP,EN,↓reduceIte,reduceCtorEq,Nat.reduceEqDiff,Nat.reduceAdd,Nat.reduceLeDiff,Nat.reduceMul]<;>first|omega|rfl))
        · simp(maxSteps:=9999999)(disch:=first|omega|(simp only[AN];omega))only[↓KP,EN,↓reduceIte,reduceCtorEq,Nat.reduceEqDiff,Nat.reduceAdd,Nat.reduceLeDiff,Nat.reduceMul]
          first|refine C_call ?_|refine C_calld ?_
          refine Awake_run fun H10 hg10 => ?_
          have hg10n:=hg10.next;try simp only[AN]at hg10n
          simp(maxSteps:=9999999)(disch:=first|omega|(simp only[AN];omega))only[↓KP,EN,↓reduceIte,reduceCtorEq,Nat.reduceEqDiff,Nat.reduceAdd,Nat.reduceLeDiff,Nat.reduceMul]
          exact k _ GW
  · have n1 : ¬ (wrongE s).2 = 0 := by rw [wrongE, if_pos he]; exact he
    simp(maxSteps:=9999999)(disch:=first|omega|(simp only[AN];omega))only[he,hbox,↓KP,EN,↓reduceIte,reduceCtorEq,Nat.reduceEqDiff,Nat.reduceAdd,Nat.reduceLeDiff,Nat.reduceMul]
    first|refine C_call ?_|refine C_calld ?_
    refine Wrong_run vl vg vf s (hh.grow GW) hs fun H2 vw hg2 hvw => ?_
    have hg2n := hg2.next; try simp only [AN] at hg2n
    simp(maxSteps:=9999999)(disch:=first|omega|(simp only[AN];omega))only[n1,↓KP,EN,↓reduceIte,reduceCtorEq,Nat.reduceEqDiff,Nat.reduceAdd,Nat.reduceLeDiff,Nat.reduceMul]
    first|refine C_call ?_|refine C_calld ?_
    refine Awake_run fun H3 hg3 => ?_
    have hg3n:=hg3.next;try simp only[AN]at hg3n
    simp(maxSteps:=9999999)(disch:=first|omega|(simp only[AN];omega))only[↓KP,EN,↓reduceIte,reduceCtorEq,Nat.reduceEqDiff,Nat.reduceAdd,Nat.reduceLeDiff,Nat.reduceMul]
    exact k _ GW
end Go.Proofs.Ytihahmggfjjkjaa
namespace Go.AM
theorem aop_alloc {call : ACall} {e : Env} {H H' : AH} {o : AOp} {v : AV} (hc : o.cls = .alloc) (h : aop call e H o = some (v, H')) : ∃ obj, H' = H.alloc obj := by
  cases o <;> simp only [AOp.cls, reduceCtorEq] at hc
  all_goals simp only [aop] at h
  all_goals
    try simp only [with1, withP, opAlloc, opBox, opMkslice, opMakeSlice] at h
    repeat' split at h
    all_goals first
      | (simp at h; done)
      | (simp only [Option.some.injEq, Prod.mk.injEq] at h; exact ⟨_, h.2.symm⟩)
theorem hasNat_mem : ∀ {l : List Nat} {t : Nat}, hasNat l t = true ↔ t ∈ l
  | [], t => by simp [hasNat]
  | k :: l, t => by
    simp only [hasNat, List.mem_cons]
    by_cases h : k = t
    · simp [h]
    · have h' : ¬ t = k := fun e => h e.symm
      simp [h, h', hasNat_mem]
def Chain (call : ACall) : List Step → Env → AH → Env → AH → Prop
  | [], e, H, e', H' => e = e' ∧ H = H'
  | s :: l, e, H, e', H' => s.env = e ∧ s.before = H ∧ s.o.wanted e = some s.want ∧ (s.want = true → aop call e H s.o.op = some (s.v, s.after)) ∧ (s.want = false → s.v = .tuple [] ∧ s.after = H) ∧ Chain call l (putDst e s.o.dst s.v) s.after e' H'
theorem aopsT_chain {call : ACall} : ∀ {os : List AOper} {e : Env} {H : AH} {L : List Step} {e' : Env} {H' : AH}, aopsT call os e H = some (L, e', H') → Chain call L e H e' H' ∧ L.map (·.o) = os
  | [], e, H, L, e', H', h => by
    simp only [aopsT, Option.some.injEq, Prod.mk.injEq] at h
    obtain ⟨rfl, rfl, rfl⟩ := h
    exact ⟨⟨rfl, rfl⟩, rfl⟩
  | o :: os, e, H, L, e', H', h => by
    simp only [aopsT] at h
    split at h
    · rename_i hw
      split at h
      · rename_i v H1 hop
        split at h
        · rename_i l r hl
          simp only [Option.some.injEq, Prod.mk.injEq] at h
          obtain ⟨rfl, rfl⟩ := h
          obtain ⟨h1, h2⟩ := aopsT_chain hl
          exact ⟨⟨rfl, rfl, hw, fun _ => hop, by simp, h1⟩, by simp [h2]⟩
        · simp at h
      · simp at h
    · rename_i hw
      split at h
      · rename_i l r hl
        simp only [Option.some.injEq, Prod.mk.injEq] at h
        obtain ⟨rfl, rfl⟩ := h
        obtain ⟨h1, h2⟩ := aopsT_chain hl
        exact ⟨⟨rfl, rfl, hw, by simp, fun _ => ⟨rfl, rfl⟩, h1⟩, by simp [h2]⟩
      · simp at h
    · simp at h
def envD (d : Step → Bool) : Env → List Step → Env
  | e, [] => e
  | e, s :: l => envD d (if d s then putDst e s.o.dst s.v else e) l
theorem get_putDst (e : Env) (d : Option Nat) (v : AV) (t : Nat) : (putDst e d v).get t = if d = some t then some v else e.get t := by
  cases d with
  | none => simp [putDst]
  | some k => simp [putDst, Env.get_put]
theorem envD_append (d : Step → Bool) : ∀ (l : List Step) (e : Env) (l' : List Step), envD d e (l ++ l') = envD d (envD d e l) l'
  | [], _, _ => rfl
  | s :: l, e, l' => by simp only [List.cons_append, envD]; exact envD_append d l _ l'
theorem envD_congr {d d' : Step → Bool} {t : Nat} : ∀ (l : List Step) {e e' : Env}, e.get t = e'.get t → (∀ x ∈ l, d x ≠ d' x → x.o.dst ≠ some t) → (envD d e l).get t = (envD d' e' l).get t
  | [], _, _, h, _ => h
  | s :: l, e, e', h, hx => by
    simp only [envD]
    refine envD_congr l ?_ fun x hm => hx x (by simp [hm])
    have h1 := hx s (by simp)
    by_cases hd : d s = d' s
    · rw [hd]
      cases d' s with
      | true => simp only [if_true]; rw [get_putDst, get_putDst, h]
      | false => simpa using h
    · have h2 := h1 hd
      have g1 : ∀ (c : Bool) (e : Env), (if c = true then putDst e s.o.dst s.v else e).get t = e.get t := fun c e => by
        cases c with
        | true => simp only [if_true]; rw [get_putDst, if_neg h2]
        | false => simp
      rw [g1, g1, h]
theorem envD_skip {d : Step → Bool} {t : Nat} (l : List Step) {e : Env} (h : ∀ x ∈ l, d x = true → x.o.dst ≠ some t) : (envD d e l).get t = e.get t := by
  have h0 : ∀ (l : List Step) (e : Env), envD (fun _ => false) e l = e := fun l => by
    induction l with
    | nil => intro e; rfl
    | cons s l ih => intro e; simp [envD, ih]
  rw [envD_congr (d' := fun _ => false) l (e' := e) rfl, h0]
  intro x hx hne
  exact h x hx (by cases hd : d x <;> simp_all)
theorem Chain.split {call : ACall} : ∀ {A R : List Step} {e : Env} {H : AH} {e' : Env} {H' : AH}, Chain call (A ++ R) e H e' H' → ∃ H1, Chain call A e H (envD (fun _ => true) e A) H1 ∧ Chain call R (envD (fun _ => true) e A) H1 e' H'
  | [], R, e, H, e', H', h => ⟨H, ⟨rfl, rfl⟩, h⟩
  | s :: A, R, e, H, e', H', h => by
    simp only [List.cons_append, Chain] at h
    obtain ⟨h1, h2, h3, h4, h5, h6⟩ := h
    obtain ⟨H1, k1, k2⟩ := Chain.split h6
    exact ⟨H1, ⟨h1, h2, h3, h4, h5, by simpa [envD] using k1⟩, by simpa [envD] using k2⟩
theorem Chain.end_ {call : ACall} : ∀ {A : List Step} {e : Env} {H : AH} {e' : Env} {H' : AH}, Chain call A e H e' H' → e' = envD (fun _ => true) e A
  | [], _, _, _, _, h => h.1.symm
  | s :: A, e, H, e', H', h => by
    simp only [Chain] at h
    have := Chain.end_ h.2.2.2.2.2
    simpa [envD] using this
def headOf (R : List Step) (H' : AH) : AH :=
  match R with
  | [] => H'
  | s :: _ => s.before
def effsOf (l : List Step) : List AOper := (l.filter (·.o.isEff)).map (·.o)
theorem stable_at {call : ACall} {all : List Step} {last : AH} : ∀ {A : List Step} {over : List AOper} {R : List Step}, stable call all over (A ++ R) last = true → (∀ s l, R = s :: l → s.o.isEff = true) → ∀ s ∈ all, stableIn call (headOf R last) (over ++ effsOf A) (effsOf R) s = true
  | [], over, [], h, _, s, hs => by
    simp only [List.nil_append, stable, List.all_eq_true] at h
    simpa [effsOf, headOf] using h s hs
  | [], over, r :: R, h, hR, s, hs => by
    have hr := hR r R rfl
    simp only [List.nil_append, stable, hr, if_true, Bool.and_eq_true, List.all_eq_true] at h
    have := h.1 s hs
    simpa [effsOf, headOf, hr] using this
  | a :: A, over, R, h, hR, s, hs => by
    simp only [List.cons_append, stable] at h
    by_cases ha : a.o.isEff = true
    · simp only [ha, if_true, Bool.and_eq_true] at h
      have := stable_at h.2 hR s hs
      simpa [effsOf, ha] using this
    · simp only [ha, Bool.false_eq_true, if_false] at h
      have := stable_at h hR s hs
      simpa [effsOf, ha] using this
structure Stat (P : Program) (call : ACall) (ops : Array Oper) (nt : Nat) (L : List Step) (e : Env) (H : AH) (e' : Env) (H' : AH) : Prop where
  mem : ∀ s ∈ L, ∃ o, ops[s.o.id]? = some o ∧ cOper P nt ops s.o.id s.o.pre o = some s.o
  cover : ∀ i, i < ops.size → ∃ s ∈ L, s.o.id = i
  nodup : L.Pairwise fun x y => x.o.id ≠ y.o.id
  edges : ∀ L1 s L2, L = L1 ++ s :: L2 → ∀ o, ops[s.o.id]? = some o → ∀ ed ∈ o.after, Region.binds .any ed = true → ∃ x ∈ L1, x.o.id = ed.on
  pre : ∀ s ∈ L, ∀ o, ops[s.o.id]? = some o → ∀ k, hasNat s.o.pre k = true → ∃ ed ∈ o.after, Region.binds .any ed = true ∧ (ed.on = k ∨ ∃ b ∈ L, b.o.id = ed.on ∧ hasNat b.o.pre k = true)
  pairs : L.Pairwise fun x y => pairOk x.o y.o = true
  chain : Chain call L e H e' H'
  stable : ∀ A R, L = A ++ R → (∀ s l, R = s :: l → s.o.isEff = true) → ∀ s ∈ L, stableIn call (headOf R H') (effsOf A) (effsOf R) s = true
def dn (listed : Array Bool) (s : Step) : Bool := listed.getD s.o.id false
def mkr (s : Step) : Prop := s.want = true ∧ s.o.op.cls = .alloc
structure Inv (P : Program) (base : Array Obj) (ops : Array Oper) (nt : Nat) (L : List Step) (e : Env) (H : AH) (w0 : World) (m0 : CM) (H' : AH) (listed : Array Bool) (a : Act) (w : World) (m : CM) (A R : List Step) : Prop where
  size : listed.size = ops.size
  nt : a.tmps.size = nt
  split : L = A ++ R
  doneA : ∀ s ∈ A, s.o.isEff = true → dn listed s = true
  headR : ∀ s l, R = s :: l → s.o.isEff = true ∧ dn listed s = false
  pre : ∀ s ∈ L, dn listed s = true → ∀ k, hasNat s.o.pre k = true → listed.getD k false = true
  rel : Rel P base m (headOf R H') w
  ext : Ext m0 H w0 m (headOf R H') w
  env : EnvR m (envD (dn listed) e L) a.tmps
  room : ∀ s ∈ A, mkr s → H.next ≤ s.before.next ∧ s.before.next < (headOf R H').next
  apart : ∀ s ∈ A, ∀ s' ∈ A, mkr s → mkr s' → s.o.id ≠ s'.o.id → s.before.next ≠ s'.before.next
  unreal : ∀ s ∈ A, mkr s → dn listed s = false → m s.before.next = none ∧ (headOf R H').get s.before.next = s.after.get s.before.next
section
variable {P : Program} {base : Array Obj} {m m0 : CM} {H H' : AH} {w w0 : World} {nt : Nat} {e e' : Env} {a : Act} {v : AV} {F : Fence} {n : Nat} {call : ACall} {ops : Array Oper} {L : List Step} {listed : Array Bool} {A R : List Step}
theorem dn_set {s x : Step} (hlt : s.o.id < listed.size) : dn (listed.setIfInBounds s.o.id true) x = if x.o.id = s.o.id then true else dn listed x := by
  unfold dn
  by_cases h : x.o.id = s.o.id
  · rw [h, if_pos rfl]; simp [hlt]
  · rw [if_neg h, getD_set_ne false (fun e => h e.symm)]
theorem walk_quiet (hS : Rel P base m H w) : ∀ {N : List Step} {e e1 : Env} {H H1 : AH}, Chain call N e H e1 H1 → (∀ s ∈ N, s.o.isEff = false) → Rel P base m H w → Rel P base m H1 w ∧ Ext m H w m H1 w ∧
    (∀ s ∈ N, mkr s → H.next ≤ s.before.next ∧ s.before.next < H1.next ∧ m s.before.next = none ∧ H1.get s.before.next = s.after.get s.before.next) ∧
    N.Pairwise fun x y => mkr x → mkr y → x.before.next ≠ y.before.next
  | [], e, e1, H, H1, h, _, hr => by
    obtain ⟨rfl, rfl⟩ := h
    exact ⟨hr, Ext.refl _ _ _, by simp, .nil⟩
  | s :: N, e, e1, H, H1, h, hq, hr => by
    simp only [Chain] at h
    obtain ⟨h1, h2, h3, h4, h5, h6⟩ := h
    have hne := hq s (by simp)
    have key : (s.after = H ∧ ¬ mkr s) ∨ ∃ obj, s.after = H.alloc obj := by
      cases hw : s.want with
      | false => exact .inl ⟨(h5 hw).2, fun hm => by rw [hm.1] at hw; cases hw⟩
      | true =>
        have h4 := h4 hw
        cases hcl : s.o.op.cls with
        | pure => exact .inl ⟨(aop_pure hcl h4).1, fun hm => by rw [hm.2] at hcl; cases hcl⟩
        | load => exact .inl ⟨aop_load hcl h4, fun hm => by rw [hm.2] at hcl; cases hcl⟩
        | alloc => exact .inr (aop_alloc hcl h4)
        | eff => simp [AOper.isEff, hcl] at hne
    have step : Rel P base m s.after w ∧ Ext m H w m s.after w ∧ (mkr s → s.after.next = H.next + 1) := by
      rcases key with ⟨hk, hnm⟩ | ⟨obj, hk⟩
      · rw [hk]; exact ⟨hr, Ext.refl _ _ _, fun hm => absurd hm hnm⟩
      · rw [hk]; exact ⟨hr.unreal obj, Ext.unreal' obj (hr.top _ (Nat.le_refl _)), fun _ => rfl⟩
    obtain ⟨r1, r2, r3, r4⟩ := walk_quiet hS h6 (fun x hx => hq x (by simp [hx])) step.1
    refine ⟨r1, step.2.1.trans r2, fun x hx hm => ?_, ?_⟩
    · rcases List.mem_cons.1 hx with rfl | hx
      · have hn := step.2.2 hm
        have hmn : m H.next = none := hr.top _ (Nat.le_refl _)
        rw [h2]
        refine ⟨Nat.le_refl _, ?_, hmn, ?_⟩
        · have := r2.next; omega
        · exact (r2.unreal H.next (by omega) hmn).2
      · obtain ⟨k1, k2, k3, k4⟩ := r3 x hx hm
        exact ⟨Nat.le_trans step.2.1.next k1, k2, k3, k4⟩
    · refine List.pairwise_cons.2 ⟨fun y hy hmx hmy => ?_, r4⟩
      have hn := step.2.2 hmx
      have := (r3 y hy hmy).1
      rw [h2]; omega
theorem quiet_split : ∀ (R : List Step), ∃ N R', R = N ++ R' ∧ (∀ s ∈ N, s.o.isEff = false) ∧ (∀ s l, R' = s :: l → s.o.isEff = true)
  | [] => ⟨[], [], rfl, by simp, by simp⟩
  | s :: R => by
    by_cases h : s.o.isEff = true
    · exact ⟨[], s :: R, rfl, by simp, fun x l hx => by cases hx; exact h⟩
    · obtain ⟨N, R', h1, h2, h3⟩ := quiet_split R
      refine ⟨s :: N, R', by rw [h1]; rfl, fun x hx => ?_, h3⟩
      rcases List.mem_cons.1 hx with rfl | hx
      · simpa using h
      · exact h2 x hx
theorem headOf_chain {R : List Step} {e e' : Env} {H1 H' : AH} (h : Chain call R e H1 e' H') : headOf R H' = H1 := by
  cases R with
  | nil => exact h.2.symm
  | cons s R => exact h.2.1
theorem around (hst : Stat P call ops nt L e H e' H') (hi : Inv P base ops nt L e H w0 m0 H' listed a w m A R) {L1 L2 : List Step} {s : Step} (hL : L = L1 ++ s :: L2) (hu : dn listed s = false)
    (hready : ∀ k, hasNat s.o.pre k = true → listed.getD k false = true) :
    (∀ x ∈ L1, dn listed x = false → clash x.o s.o = false ∧ (x.o.isEff && (s.o.isEff || decide (s.o.op.cls = .alloc))) = false) ∧
    (∀ y ∈ L2, dn listed y = true → clash s.o y.o = false ∧ (s.o.isEff && (y.o.isEff || decide (y.o.op.cls = .alloc))) = false) ∧
    (∀ x ∈ L, x.o.id = s.o.id → x = s) := by
  have hp := hst.pairs
  have hn := hst.nodup
  rw [hL] at hp hn
  obtain ⟨p1, p2, p3⟩ := List.pairwise_append.1 hp
  obtain ⟨n1, n2, n3⟩ := List.pairwise_append.1 hn
  obtain ⟨q1, q2⟩ := List.pairwise_cons.1 p2
  obtain ⟨o1, o2⟩ := List.pairwise_cons.1 n2
  refine ⟨fun x hx hxu => ?_, fun y hy hyd => ?_, fun x hx hid => ?_⟩
  · have := p3 x hx s (by simp)
    simp only [pairOk, Bool.or_eq_true, Bool.and_eq_true, Bool.not_eq_true'] at this
    rcases this with h | h
    · have := hready _ h
      unfold dn at hxu
      rw [this] at hxu; cases hxu
    · exact h
  · have := q1 y hy
    simp only [pairOk, Bool.or_eq_true, Bool.and_eq_true, Bool.not_eq_true'] at this
    rcases this with h | h
    · have := hi.pre y (by rw [hL]; simp [hy]) hyd _ h
      unfold dn at hu
      rw [this] at hu; cases hu
    · exact h
  · rw [hL] at hx
    rcases List.mem_append.1 hx with h | h
    · exact absurd hid (n3 x h s (by simp))
    · rcases List.mem_cons.1 h with rfl | h
      · rfl
      · exact absurd hid.symm (o1 x h)
theorem clash_reads {x s : AOper} (h : clash x s = false) : (∀ t, x.dst = some t → t ∉ s.reads ∧ s.dst ≠ some t) ∧ (∀ t, s.dst = some t → t ∉ x.reads) := by
  simp only [clash, Bool.or_eq_false_iff] at h
  refine ⟨fun t ht => ?_, fun t ht => ?_⟩
  · have := h.1
    rw [ht] at this
    simp only [Bool.or_eq_false_iff, decide_eq_false_iff_not] at this
    exact ⟨fun hm => by rw [hasNat_mem.2 hm] at this; exact absurd this.1 (by simp), this.2⟩
  · have := h.2
    rw [ht] at this
    simp only at this
    exact fun hm => by rw [hasNat_mem.2 hm] at this; cases this
theorem reads_same (hst : Stat P call ops nt L e H e' H') (hi : Inv P base ops nt L e H w0 m0 H' listed a w m A R) {L1 L2 : List Step} {s : Step} (hL : L = L1 ++ s :: L2) (hu : dn listed s = false)
    (hready : ∀ k, hasNat s.o.pre k = true → listed.getD k false = true) : ∀ t ∈ s.o.reads, (envD (dn listed) e L).get t = s.env.get t := by
  obtain ⟨h1, h2, _⟩ := around hst hi hL hu hready
  intro t ht
  have hc := hst.chain
  rw [hL] at hc
  obtain ⟨H1, c1, c2⟩ := hc.split
  have hse : s.env = envD (fun _ => true) e L1 := c2.1
  rw [hL, envD_append, envD, hu]
  simp only [Bool.false_eq_true, if_false]
  rw [envD_skip L2 fun y hy hyd hdst => ((clash_reads (h2 y hy hyd).1).2 t hdst) ht, hse]
  refine envD_congr L1 rfl fun x hx hne hdst => ?_
  have hxu : dn listed x = false := by cases hd : dn listed x <;> simp_all
  exact ((clash_reads (h1 x hx hxu).1).1 t hdst).1 ht
theorem env_done (hst : Stat P call ops nt L e H e' H') (hi : Inv P base ops nt L e H w0 m0 H' listed a w m A R) {L1 L2 : List Step} {s : Step} (hL : L = L1 ++ s :: L2) (hu : dn listed s = false)
    (hready : ∀ k, hasNat s.o.pre k = true → listed.getD k false = true) (hlt : s.o.id < listed.size) (t : Nat) :
    (envD (dn (listed.setIfInBounds s.o.id true)) e L).get t = (putDst (envD (dn listed) e L) s.o.dst s.v).get t := by
  obtain ⟨h1, h2, h3⟩ := around hst hi hL hu hready
  have hds : dn (listed.setIfInBounds s.o.id true) s = true := by rw [dn_set hlt, if_pos rfl]
  have hdx : ∀ x ∈ L, x ≠ s → dn (listed.setIfInBounds s.o.id true) x = dn listed x := fun x hx hne => by
    rw [dn_set hlt, if_neg fun hid => hne (h3 x hx hid)]
  rw [get_putDst]
  by_cases hd : s.o.dst = some t
  · rw [if_pos hd, hL, envD_append, envD, hds]
    simp only [if_true]
    rw [envD_skip L2, get_putDst, if_pos hd]
    intro y hy hyd hdst
    by_cases hys : y = s
    · have hn := hst.nodup
      rw [hL] at hn
      obtain ⟨n1, n2, n3⟩ := List.pairwise_append.1 hn
      exact (List.pairwise_cons.1 n2).1 y hy (by rw [hys])
    · rw [hdx y (by rw [hL]; simp [hy]) hys] at hyd
      exact ((clash_reads (h2 y hy hyd).1).1 t hd).2 hdst
  · rw [if_neg hd]
    refine envD_congr L rfl fun x hx hne => ?_
    by_cases hxs : x = s
    · rw [hxs]; exact hd
    · exact absurd (hdx x hx hxs) hne
theorem pairwise_sym {α : Type} {R : α → α → Prop} (hs : ∀ x y, R x y → R y x) : ∀ {l : List α}, l.Pairwise R → ∀ x ∈ l, ∀ y ∈ l, x ≠ y → R x y
  | [], _, x, hx, _, _, _ => by simp at hx
  | a :: l, h, x, hx, y, hy, hne => by
    obtain ⟨h1, h2⟩ := List.pairwise_cons.1 h
    rcases List.mem_cons.1 hx with hx1 | hx1
    · rcases List.mem_cons.1 hy with hy1 | hy1
      · exact absurd (hx1.trans hy1.symm) hne
      · rw [hx1]; exact h1 y hy1
    · rcases List.mem_cons.1 hy with hy1 | hy1
      · rw [hy1]; exact hs _ _ (h1 x hx1)
      · exact pairwise_sym hs h2 x hx1 y hy1 hne
theorem pre_done (hst : Stat P call ops nt L e H e' H') (hi : Inv P base ops nt L e H w0 m0 H' listed a w m A R) {s : Step} (hs : s ∈ L) {o : Oper} (ho : ops[s.o.id]? = some o)
    (hr : ∀ ed ∈ o.after, Region.binds .any ed = true → listed.getD ed.on false = true) : ∀ k, hasNat s.o.pre k = true → listed.getD k false = true := by
  intro k hk
  obtain ⟨ed, h1, h2, h3⟩ := hst.pre s hs o ho k hk
  have hd := hr ed h1 h2
  rcases h3 with rfl | ⟨b, hb, hid, hbk⟩
  · exact hd
  · exact hi.pre b hb (by unfold dn; rw [hid]; exact hd) k hbk
theorem Inv.quiet (hst : Stat P call ops nt L e H e' H') (hi : Inv P base ops nt L e H w0 m0 H' listed a w m A R) {L1 L2 : List Step} {s : Step} (hL : L = L1 ++ s :: L2) (hu : dn listed s = false)
    (hready : ∀ k, hasNat s.o.pre k = true → listed.getD k false = true) (hlt : s.o.id < ops.size) (hq : s.o.isEff = false) (hdst : cDst nt s.o.dst = true) {m' : CM} {w' : World} {u : Value} (hv : VR m' s.v u) (hle : m.le m')
    (hr : Rel P base m' (headOf R H') w') (hx : Ext m0 H w0 m' (headOf R H') w') (hm : ∀ r, r < (headOf R H').next → m r = none → (mkr s → s ∈ A ∧ r ≠ s.before.next) → m' r = none) :
    (mkr s → s ∈ A) → Inv P base ops nt L e H w0 m0 H' (listed.setIfInBounds s.o.id true) (a.put s.o.dst u) w' m' A R := by
  intro hsA
  have hlt' : s.o.id < listed.size := by rw [hi.size]; exact hlt
  obtain ⟨_, _, huniq⟩ := around hst hi hL hu hready
  have hAL : ∀ x ∈ A, x ∈ L := fun x h => by rw [hi.split]; simp [h]
  refine ⟨by simp [hi.size], by rw [Act.put_size]; exact hi.nt, hi.split, fun x hx he => ?_, fun x l hR => ?_, fun x hx hd k hk => ?_, hr, hx, fun t v hv' => ?_, hi.room, hi.apart, fun x hx hmk hd => ?_⟩
  · rw [dn_set hlt']; split
    · rfl
    · exact hi.doneA x hx he
  · obtain ⟨h1, h2⟩ := hi.headR x l hR
    refine ⟨h1, ?_⟩
    have hxL : x ∈ L := by rw [hi.split, hR]; simp
    rw [dn_set hlt', if_neg]
    · exact h2
    · intro hid
      rw [huniq x hxL hid] at h1
      rw [h1] at hq; cases hq
  · rw [dn_set hlt'] at hd
    by_cases hid : x.o.id = s.o.id
    · rw [huniq x hx hid] at hk
      exact getD_set_true (hready k hk)
    · rw [if_neg hid] at hd
      exact getD_set_true (hi.pre x hx hd k hk)
  · rw [env_done hst hi hL hu hready hlt'] at hv'
    exact (hi.env.mono hle).putDst (by rw [hi.nt]; exact hdst) hv t v hv'
  · rw [dn_set hlt'] at hd
    by_cases hid : x.o.id = s.o.id
    · rw [if_pos hid] at hd; cases hd
    · rw [if_neg hid] at hd
      obtain ⟨h1, h2⟩ := hi.unreal x hx hmk hd
      refine ⟨hm _ (hi.room x hx hmk).2 h1 fun hms => ⟨hsA hms, hi.apart x hx s (hsA hms) hmk hms hid⟩, h2⟩
theorem Inv.effect (hst : Stat P call ops nt L e H e' H') (hi : Inv P base ops nt L e H w0 m0 H' listed a w m A R) {s : Step} {R0 : List Step} (hR : R = s :: R0) (hu : dn listed s = false)
    (hready : ∀ k, hasNat s.o.pre k = true → listed.getD k false = true) (hlt : s.o.id < ops.size) (hq : s.o.isEff = true) (hdst : cDst nt s.o.dst = true) {m' : CM} {w' : World} {u : Value} (hv : VR m' s.v u)
    (hr : Rel P base m' s.after w') (hx : Ext m (headOf R H') w m' s.after w') :
    ∃ A' R', Inv P base ops nt L e H w0 m0 H' (listed.setIfInBounds s.o.id true) (a.put s.o.dst u) w' m' A' R' := by
  have hlt' : s.o.id < listed.size := by rw [hi.size]; exact hlt
  have hL : L = A ++ s :: R0 := by rw [hi.split, hR]
  obtain ⟨_, _, huniq⟩ := around hst hi hL hu hready
  obtain ⟨N, R', hN, hNq, hRe⟩ := quiet_split R0
  have hc := hst.chain
  rw [hL] at hc
  obtain ⟨H1, _, c2⟩ := hc.split
  have c3 := c2.2.2.2.2.2
  rw [hN] at c3
  obtain ⟨H2, c4, c5⟩ := c3.split
  have hH2 : headOf R' H' = H2 := headOf_chain c5
  obtain ⟨r1, r2, r3, r4⟩ := walk_quiet hr c4 hNq hr
  have hx2 : Ext m (headOf R H') w m' H2 w' := hx.trans r2
  have hnms : ¬ mkr s := fun hm => by
    have := hm.2
    simp only [AOper.isEff, decide_eq_true_eq] at hq
    rw [this] at hq; cases hq
  have hmem : ∀ x, x ∈ A ++ s :: N → mkr x → x ∈ A ∨ x ∈ N := fun x h hm => by
    rcases List.mem_append.1 h with h | h
    · exact .inl h
    · rcases List.mem_cons.1 h with rfl | h
      · exact absurd hm hnms
      · exact .inr h
  have hn1 := hx.next
  have hn2 := r2.next
  have hn3 := hi.ext.next
  refine ⟨A ++ s :: N, R', by simp [hi.size], by rw [Act.put_size]; exact hi.nt, by rw [hL, hN]; simp, fun x hx' he => ?_, fun x l hR' => ?_, fun x hx' hd k hk => ?_, by rw [hH2]; exact r1, by rw [hH2]; exact hi.ext.trans hx2, fun t v hv' => ?_, fun x hx' hmk => ?_, fun x hx' y hy' hmx hmy hne => ?_, fun x hx' hmk hd => ?_⟩
  · rw [dn_set hlt']
    rcases List.mem_append.1 hx' with h | h
    · split
      · rfl
      · exact hi.doneA x h he
    · rcases List.mem_cons.1 h with rfl | h
      · rw [if_pos rfl]
      · rw [hNq x h] at he; cases he
  · have hxe := hRe x l hR'
    refine ⟨hxe, ?_⟩
    have hp := hst.pairs
    have hn := hst.nodup
    rw [hL] at hp hn
    have hxR0 : x ∈ R0 := by rw [hN, hR']; simp
    have hp1 := (List.pairwise_cons.1 (List.pairwise_append.1 hp).2.1).1 x hxR0
    have hn1 := (List.pairwise_cons.1 (List.pairwise_append.1 hn).2.1).1 x hxR0
    rw [dn_set hlt', if_neg (fun h => hn1 h.symm)]
    simp only [pairOk, hq, hxe, Bool.or_eq_true, Bool.and_eq_true, Bool.not_eq_true', Bool.true_or, Bool.and_self, Bool.true_eq_false, and_false, or_false] at hp1
    cases hd : dn listed x with
    | false => rfl
    | true =>
      have := hi.pre x (by rw [hL]; simp [hxR0]) hd _ hp1
      unfold dn at hu
      rw [this] at hu; cases hu
  · rw [dn_set hlt'] at hd
    by_cases hid : x.o.id = s.o.id
    · rw [huniq x hx' hid] at hk
      exact getD_set_true (hready k hk)
    · rw [if_neg hid] at hd
      exact getD_set_true (hi.pre x hx' hd k hk)
  · rw [env_done hst hi hL hu hready hlt'] at hv'
    exact (hi.env.mono hx2.le).putDst (by rw [hi.nt]; exact hdst) hv t v hv'
  · rw [hH2]
    rcases hmem x hx' hmk with h | h
    · have := hi.room x h hmk; omega
    · have := r3 x h hmk; omega
  · rcases hmem x hx' hmx with h | h
    · rcases hmem y hy' hmy with h' | h'
      · exact hi.apart x h y h' hmx hmy hne
      · have := hi.room x h hmx; have := r3 y h' hmy; omega
    · rcases hmem y hy' hmy with h' | h'
      · have := hi.room y h' hmy; have := r3 x h hmx; omega
      · exact pairwise_sym (fun x y h a b => (h b a).symm) r4 x h y h' (fun e => hne (by rw [e])) hmx hmy
  · rw [hH2]
    rcases hmem x hx' hmk with h | h
    · rw [dn_set hlt'] at hd
      by_cases hid : x.o.id = s.o.id
      · rw [if_pos hid] at hd; cases hd
      · rw [if_neg hid] at hd
        obtain ⟨h1, h2⟩ := hi.unreal x h hmk hd
        obtain ⟨h3, h4⟩ := hx2.unreal _ (hi.room x h hmk).2 h1
        exact ⟨h3, h4.trans h2⟩
    · exact ⟨(r3 x h hmk).2.2.1, (r3 x h hmk).2.2.2⟩
theorem Inv.start (hst : Stat P call ops nt L e H e' H') (hr : Rel P base m H w) (he : EnvR m e a.tmps) (hnt : a.tmps.size = nt) : ∃ A R, Inv P base ops nt L e H w m H' (Array.replicate ops.size false) a w m A R := by
  obtain ⟨N, R', hN, hNq, hRe⟩ := quiet_split L
  have hc := hst.chain
  rw [hN] at hc
  obtain ⟨H2, c4, c5⟩ := hc.split
  have hH2 : headOf R' H' = H2 := headOf_chain c5
  obtain ⟨r1, r2, r3, r4⟩ := walk_quiet hr c4 hNq hr
  have hd0 : ∀ k, (Array.replicate ops.size false).getD k false = false := fun k => by
    simp only [Array.getD]; split <;> simp
  have hd : ∀ x, dn (Array.replicate ops.size false) x = false := fun x => hd0 _
  refine ⟨N, R', by simp, hnt, hN, fun x hx h => (by rw [hNq x hx] at h; cases h), fun x l h => ⟨hRe x l h, hd x⟩, fun x _ h => (by rw [hd] at h; cases h), by rw [hH2]; exact r1, by rw [hH2]; exact r2, fun t v hv => ?_, fun x hx hm => ?_, fun x hx y hy hmx hmy hne => ?_, fun x hx hm _ => ?_⟩
  · rw [envD_skip L (fun x _ h => by rw [hd] at h; cases h)] at hv
    exact he t v hv
  · rw [hH2]; have := r3 x hx hm; omega
  · exact pairwise_sym (fun x y h a b => (h b a).symm) r4 x hx y hy (fun e => hne (by rw [e])) hmx hmy
  · rw [hH2]; exact ⟨(r3 x hx hm).2.2.1, (r3 x hx hm).2.2.2⟩
theorem first_undone (d : Step → Bool) : ∀ (L : List Step), (∀ s ∈ L, d s = true) ∨ ∃ L1 s L2, L = L1 ++ s :: L2 ∧ (∀ x ∈ L1, d x = true) ∧ d s = false
  | [] => .inl (by simp)
  | s :: L => by
    cases hd : d s with
    | false => exact .inr ⟨[], s, L, rfl, by simp, hd⟩
    | true =>
      rcases first_undone d L with h | ⟨L1, x, L2, h1, h2, h3⟩
      · exact .inl fun x hx => by
          rcases List.mem_cons.1 hx with rfl | hx
          · exact hd
          · exact h x hx
      · refine .inr ⟨s :: L1, x, L2, by rw [h1]; rfl, fun y hy => ?_, h3⟩
        rcases List.mem_cons.1 hy with rfl | hy
        · exact hd
        · exact h2 y hy
theorem all_done (hst : Stat P call ops nt L e H e' H') (hsz : listed.size = ops.size) (h : Region.ready .any ops listed = []) : ∀ s ∈ L, dn listed s = true := by
  rcases first_undone (dn listed) L with h1 | ⟨L1, s, L2, h1, h2, h3⟩
  · exact h1
  · exfalso
    obtain ⟨o, ho, _⟩ := hst.mem s (by rw [h1]; simp)
    have : s.o.id ∈ Region.ready .any ops listed := by
      rw [mem_ready]
      refine ⟨?_, o, ho, fun ed hed hb => ?_⟩
      · have hlt : s.o.id < listed.size := by rw [hsz]; exact (Array.getElem?_eq_some_iff.1 ho).1
        unfold dn at h3
        simpa [Array.getD, hlt] using h3
      · obtain ⟨x, hx, hid⟩ := hst.edges L1 s L2 h1 o ho ed hed hb
        have := h2 x hx
        unfold dn at this
        rw [hid] at this; exact this
    rw [h] at this; simp at this
def undone (listed : Array Bool) (L : List Step) : Nat := L.countP fun s => !dn listed s
theorem undone_less {s : Step} (hs : s ∈ L) (hu : dn listed s = false) (hlt : s.o.id < listed.size) : undone (listed.setIfInBounds s.o.id true) L < undone listed L := by
  unfold undone
  induction L with
  | nil => simp at hs
  | cons x l ih =>
    have hle : ∀ l : List Step, l.countP (fun s' => !dn (listed.setIfInBounds s.o.id true) s') ≤ l.countP (fun s' => !dn listed s') := fun l => by
      refine List.countP_mono_left fun y _ hy => ?_
      rw [dn_set hlt] at hy
      split at hy
      · simp at hy
      · exact hy
    simp only [List.countP_cons]
    rcases List.mem_cons.1 hs with rfl | hs
    · have h1 : dn (listed.setIfInBounds s.o.id true) s = true := by rw [dn_set hlt, if_pos rfl]
      rw [h1, hu]
      have := hle l
      simp; omega
    · have h1 := ih hs
      have h2 : dn listed x = true → dn (listed.setIfInBounds s.o.id true) x = true := fun h => by
        rw [dn_set hlt]; split
        · rfl
        · exact h
      cases hx : dn listed x with
      | true => rw [h2 hx]; simpa using h1
      | false =>
        cases hy : dn (listed.setIfInBounds s.o.id true) x <;> simp <;> omega
theorem wanted_congr {e1 e2 : Env} {o : AOper} (h : ∀ t ∈ o.reads, e1.get t = e2.get t) : o.wanted e1 = o.wanted e2 := by
  unfold AOper.wanted
  cases hg : o.guard with
  | none => rfl
  | some p =>
    obtain ⟨t, want⟩ := p
    simp only
    rw [h t (by simp [AOper.reads, hg])]
theorem op_congr {e1 e2 : Env} {o : AOper} (h : ∀ t ∈ o.reads, e1.get t = e2.get t) : aop call e1 H o.op = aop call e2 H o.op :=
  aop_congr fun t ht => h t (by unfold AOper.reads; cases o.guard <;> simp [ht])
theorem draw_go (hS : SimCall P call) (hF : WideF F) {Q : Exit → Act → World → Prop} {a0 : Act} (hst : Stat P call ops nt L e H e' H')
    (hq : ∀ m' a' w', Rel P base m' H' w' → Ext m0 H w0 m' H' w' → EnvR m' e' a'.tmps → a'.tmps.size = nt → a'.defers = a0.defers → Q .normal a' w') :
    ∀ (fuel : Nat) (listed : Array Bool) (a : Act) (w : World) (m : CM) (A R : List Step), Inv P base ops nt L e H w0 m0 H' listed a w m A R → a.defers = a0.defers → undone listed L ≤ fuel → wpAnyIn F n P .any ops Q fuel listed a w := by
  have hnone : ∀ {listed : Array Bool} {a : Act} {w : World} {m : CM} {A R : List Step}, Inv P base ops nt L e H w0 m0 H' listed a w m A R → a.defers = a0.defers → Region.ready .any ops listed = [] → Q .normal a w := by
    intro listed a w m A R hi hdf hr
    have hall := all_done hst hi.size hr
    have hR : R = [] := by
      cases R with
      | nil => rfl
      | cons s l =>
        have h1 := (hi.headR s l rfl).2
        rw [hall s (by rw [hi.split]; simp)] at h1; cases h1
    have hrel := hi.rel
    have hext := hi.ext
    rw [hR] at hrel hext
    refine hq m a w hrel hext (fun t v hv => ?_) hi.nt hdf
    have he' := hst.chain.end_
    refine hi.env t v ?_
    rw [← hv, he']
    refine envD_congr L rfl fun x hx hne => ?_
    rw [hall x hx] at hne
    exact absurd rfl hne
  intro fuel
  induction fuel with
  | zero =>
    intro listed a w m A R hi hdf hu
    have hr : Region.ready .any ops listed = [] := by
      cases hr : Region.ready .any ops listed with
      | nil => rfl
      | cons i is =>
        exfalso
        have hmem : i ∈ Region.ready .any ops listed := by rw [hr]; simp
        rw [mem_ready] at hmem
        obtain ⟨h1, o, ho, _⟩ := hmem
        obtain ⟨s, hs, hid⟩ := hst.cover i (Array.getElem?_eq_some_iff.1 ho).1
        have h2 : dn listed s = false := by
          have hlt : i < listed.size := by rw [hi.size]; exact (Array.getElem?_eq_some_iff.1 ho).1
          unfold dn; rw [hid]
          simpa [Array.getD, hlt] using h1
        have : 0 < undone listed L := List.countP_pos_iff.2 ⟨s, hs, by simp [h2]⟩
        omega
    exact ⟨hr, hnone hi hdf hr⟩
  | succ fuel ih =>
    intro listed a w m A R hi hdf hu
    refine ⟨hnone hi hdf, fun i hmem => ?_⟩
    rw [mem_ready] at hmem
    obtain ⟨hl, o, ho, hedges⟩ := hmem
    have hlt : i < ops.size := (Array.getElem?_eq_some_iff.1 ho).1
    obtain ⟨s, hs, hid⟩ := hst.cover i hlt
    subst hid
    have hlt' : s.o.id < listed.size := by rw [hi.size]; exact hlt
    have hsu : dn listed s = false := by
      unfold dn
      simpa [Array.getD, hlt'] using hl
    obtain ⟨o', ho', hco⟩ := hst.mem s hs
    rw [ho] at ho'; cases ho'
    have hready := pre_done hst hi hs ho hedges
    obtain ⟨L1, L2, hL⟩ := List.append_of_mem hs
    obtain ⟨har1, har2, huniq⟩ := around hst hi hL hsu hready
    have hreads := reads_same hst hi hL hsu hready
    have hc := hst.chain
    rw [hL] at hc
    obtain ⟨H1, c1, c2⟩ := hc.split
    obtain ⟨k1, k2, k3, k4, k5, k6⟩ := c2
    rw [← k1] at k3 k4
    rw [← k2] at k4 k5
    have hwant : s.o.wanted (envD (dn listed) e L) = some s.want := by rw [wanted_congr hreads]; exact k3
    have hco' := hco
    rw [← hi.nt] at hco'
    have hwd := wanted_eq hi.env hco' hwant
    obtain ⟨d1, d2, d3⟩ := cOper_op hco
    have hless : undone (listed.setIfInBounds s.o.id true) L ≤ fuel := by have := undone_less hs hsu hlt'; omega
    have hdst : cDst nt s.o.dst = true := by rw [d3]; exact d2
    have hnext : ∀ {u : Value} {m' : CM} {w' : World} {A' R' : List Step}, Inv P base ops nt L e H w0 m0 H' (listed.setIfInBounds s.o.id true) (a.put s.o.dst u) w' m' A' R' → wpAnyIn F n P .any ops Q fuel (listed.setIfInBounds s.o.id true) (a.put o.dst u) w' := by
      intro u m' w' A' R' hi'
      rw [d3] at hi'
      exact ih _ _ _ _ _ _ hi' (by rw [put_defers']; exact hdf) hless
    have hin : s ∈ A ∨ s ∈ R := by
      have := hs
      rw [hi.split] at this
      exact List.mem_append.1 this
    have hheadOnly : s ∈ R → (s.o.isEff || decide (s.o.op.cls = .alloc)) = true → ∃ R0, R = s :: R0 := fun hm hc => by
      cases hRc : R with
      | nil => rw [hRc] at hm; simp at hm
      | cons x l =>
        obtain ⟨h1, h2⟩ := hi.headR x l hRc
        rw [hRc] at hm
        rcases List.mem_cons.1 hm with rfl | hm
        · exact ⟨l, rfl⟩
        · exfalso
          have hp := hst.pairs
          rw [hi.split, hRc] at hp
          have := (List.pairwise_cons.1 (List.pairwise_append.1 hp).2.1).1 s hm
          simp only [pairOk, h1, hc, Bool.true_and, Bool.not_true, Bool.and_false, Bool.or_false] at this
          have := hready _ this
          unfold dn at h2
          rw [this] at h2; cases h2
    have hefA : s.o.isEff = true → ∃ R0, R = s :: R0 := fun he => by
      rcases hin with h | h
      · have := hi.doneA s h he
        rw [hsu] at this; cases this
      · exact hheadOnly h (by simp [he])
    have hmkA : mkr s → s ∈ A := fun hm => by
      rcases hin with h | h
      · exact h
      · obtain ⟨R0, hR0⟩ := hheadOnly h (by simp [hm.2])
        have := (hi.headR s R0 hR0).1
        simp [AOper.isEff, hm.2] at this
    unfold wpOpIn
    rw [ho]
    simp only [hwd]
    cases hsw : s.want with
    | false =>
      simp only [Bool.false_eq_true, if_false]
      refine ⟨fun g _ => hF.fn g, ?_⟩
      obtain ⟨hv, haf⟩ := k5 hsw
      have hvr : VR m s.v undef := by rw [hv]; exact .tuple .nil
      cases heff : s.o.isEff with
      | false =>
        exact hnext (hi.quiet hst hL hsu hready hlt heff hdst hvr (leR m) hi.rel hi.ext (fun r _ h _ => h) (fun hm => by rw [hm.1] at hsw; cases hsw))
      | true =>
        obtain ⟨R0, hR0⟩ := hefA heff
        have hS0 : headOf R H' = s.after := by rw [hR0, haf]; rfl
        obtain ⟨A', R', hi'⟩ := hi.effect hst hR0 hsu hready hlt heff hdst hvr (by rw [← hS0]; exact hi.rel) (by rw [hS0]; exact Ext.refl _ _ _)
        exact hnext hi'
    | true =>
      simp only [if_true]
      have hop := k4 hsw
      rw [← op_congr hreads] at hop
      have d1' := d1
      rw [← hi.nt] at d1'
      cases hcl : s.o.op.cls with
      | pure =>
        have heff : s.o.isEff = false := by simp [AOper.isEff, hcl]
        have h2 := (aop_pure hcl hop).2 (headOf R H')
        refine sim_oper hS d1' hF hi.rel hi.env h2 fun u m' w' hv hr' hx' => ?_
        exact hnext (hi.quiet hst hL hsu hready hlt heff hdst hv hx'.le hr' (hi.ext.trans hx') (fun r hr hm _ => (hx'.unreal r hr hm).1) (fun hm => by rw [hm.2] at hcl; cases hcl))
      | load =>
        have heff : s.o.isEff = false := by simp [AOper.isEff, hcl]
        have h1 := hst.stable A R hi.split (fun x l h => (hi.headR x l h).1) s hs
        have hRu : ∀ x ∈ R, x.o.isEff = true → dn listed x = false := fun x hx he => by
          cases hRc : R with
          | nil => rw [hRc] at hx; simp at hx
          | cons y l =>
            obtain ⟨q1, q2⟩ := hi.headR y l hRc
            rw [hRc] at hx
            rcases List.mem_cons.1 hx with rfl | hx
            · exact q2
            · have hp := hst.pairs
              rw [hi.split, hRc] at hp
              have := (List.pairwise_cons.1 (List.pairwise_append.1 hp).2.1).1 x hx
              simp only [pairOk, q1, he, Bool.true_and, Bool.true_or, Bool.not_true, Bool.and_false, Bool.or_false] at this
              cases hd : dn listed x with
              | false => rfl
              | true =>
                have := hi.pre x (by rw [hi.split, hRc]; simp [hx]) hd _ this
                unfold dn at q2
                rw [this] at q2; cases q2
        have hadm : admits s.o (effsOf A) (effsOf R) = true := by
          simp only [admits, Bool.and_eq_true, List.all_eq_true, Bool.not_eq_true']
          refine ⟨fun x hx => ?_, fun x hx => ?_⟩
          · simp only [effsOf, List.mem_map, List.mem_filter] at hx
            obtain ⟨y, ⟨hy, hye⟩, rfl⟩ := hx
            cases hh : hasNat s.o.pre y.o.id with
            | false => rfl
            | true =>
              have q1 := hready _ hh
              have q2 := hRu y hy hye
              unfold dn at q2
              rw [q1] at q2; cases q2
          · simp only [effsOf, List.mem_map, List.mem_filter] at hx
            obtain ⟨y, ⟨hy, hye⟩, rfl⟩ := hx
            cases hh : hasNat y.o.pre s.o.id with
            | false => rfl
            | true =>
              have q1 := hi.pre y (by rw [hi.split]; simp [hy]) (hi.doneA y hy hye) _ hh
              unfold dn at hsu
              rw [q1] at hsu; cases hsu
        simp only [stableIn, hsw, hcl, hadm, decide_true, Bool.and_self, if_true] at h1
        split at h1
        · rename_i v' H2 hv'
          have hve := eqA_eq h1
          subst hve
          have h3 : H2 = headOf R H' := aop_load hcl hv'
          rw [← op_congr hreads, h3] at hv'
          refine sim_oper hS d1' hF hi.rel hi.env hv' fun u m' w' hv hr' hx' => ?_
          exact hnext (hi.quiet hst hL hsu hready hlt heff hdst (by assumption) hx'.le hr' (hi.ext.trans hx') (fun r hr hm _ => (hx'.unreal r hr hm).1) (fun hm => by rw [hm.2] at hcl; cases hcl))
        · cases h1
      | alloc =>
        have heff : s.o.isEff = false := by simp [AOper.isEff, hcl]
        have hsA := hmkA ⟨hsw, hcl⟩
        obtain ⟨hm0, hg0⟩ := hi.unreal s hsA ⟨hsw, hcl⟩ hsu
        obtain ⟨hrm1, hrm2⟩ := hi.room s hsA ⟨hsw, hcl⟩
        obtain ⟨mk, obj, hv, haf, sm, hex, u, oC, k, hrun, hmade⟩ := made_op (w := w) (m := m) (N := base.size) d1' hcl hi.rel.size hi.env hop
        have hgo : (headOf R H').get s.before.next = some obj := by rw [hg0, haf, AH.get_alloc, if_pos rfl]
        obtain ⟨hvr, hob⟩ := hmade s.before.next (CM.add m s.before.next (w.heap.size, 0, k)) (CM.add_le hm0) (CM.add_same _ _ _)
        have hr' := hi.rel.realize hrm2 hm0 (n := k) (oC := oC) (by rw [hgo]; exact hob)
        obtain ⟨e1, e2⟩ := Ext.realize (H := headOf R H') (w := w) (n := k) (oC := oC) hm0 (fun k c o n hk => (hi.rel.blk k c o n hk).1)
        have hx' : Ext m0 H w0 (CM.add m s.before.next (w.heap.size, 0, k)) (headOf R H') (w.alloc oC) := by
          refine ⟨leT hi.ext.le e1, hi.ext.next, by have := hi.ext.heap; simp; omega, fun c hc hf => ?_, fun b hb hn => ?_, hi.ext.loops, hi.ext.os⟩
          · obtain ⟨f1, f2⟩ := hi.ext.free c hc hf
            obtain ⟨f3, f4⟩ := e2 c (Nat.lt_of_lt_of_le hc hi.ext.heap) f1
            exact ⟨f3, f4.trans f2⟩
          · obtain ⟨f1, f2⟩ := hi.ext.unreal b hb hn
            exact ⟨by rw [CM.add_ne _ _ (by omega)]; exact f1, f2⟩
        have hgoal := hnext (hi.quiet hst hL hsu hready hlt heff hdst (u := u) (by rw [hv]; exact hvr) e1 hr' hx' (fun r _ hrn hne => by rw [CM.add_ne _ _ (hne ⟨hsw, hcl⟩).2]; exact hrn) (fun _ => hsA))
        refine ⟨fun g _ => hF.fn g, ?_⟩
        have hnd : ∀ c, o.op ≠ .defer c := fun c hcd => by rw [hcd] at d1; simp [cOp] at d1
        rw [Oper.semAt_eq _ _ _ hnd, hex, Sem.run_bind, hrun]
        exact hgoal
      | eff =>
        have heff : s.o.isEff = true := by simp [AOper.isEff, hcl]
        obtain ⟨R0, hR0⟩ := hefA heff
        have hS0 : headOf R H' = s.before := by rw [hR0]; rfl
        refine sim_oper hS d1' hF (by rw [← hS0]; exact hi.rel) hi.env hop fun u m' w' hv hr' hx' => ?_
        obtain ⟨A', R', hi'⟩ := hi.effect hst hR0 hsu hready hlt heff hdst hv hr' (by rw [hS0]; exact hx')
        exact hnext hi'
theorem nodupN_pw {α : Type} (f : α → Nat) : ∀ {l : List α}, nodupN (l.map f) = true → l.Pairwise fun x y => f x ≠ f y
  | [], _ => .nil
  | x :: l, h => by
    simp only [List.map_cons, nodupN, Bool.and_eq_true, Bool.not_eq_true'] at h
    refine List.pairwise_cons.2 ⟨fun y hy he => ?_, nodupN_pw f h.2⟩
    have : hasNat (l.map f) (f x) = true := hasNat_mem.2 (by rw [he]; exact List.mem_map.2 ⟨y, hy, rfl⟩)
    rw [this] at h; cases h.1
theorem pairsOk_pw : ∀ {l : List AOper}, pairsOk l = true → l.Pairwise fun x y => pairOk x y = true
  | [], _ => .nil
  | x :: l, h => by
    simp only [pairsOk, Bool.and_eq_true, List.all_eq_true] at h
    exact List.pairwise_cons.2 ⟨h.1, pairsOk_pw h.2⟩
theorem edgesOk_at : ∀ {A : List AOper} {x : AOper} {B : List AOper} {seen : List Nat}, edgesOk ops (A ++ x :: B) seen = true → ∀ o, ops[x.id]? = some o → ∀ ed ∈ o.after, Region.binds .any ed = true → ed.on ∈ seen ∨ ∃ y ∈ A, y.id = ed.on
  | [], x, B, seen, h, o, ho, ed, hed, hb => by
    simp only [List.nil_append, edgesOk, ho, Bool.and_eq_true, List.all_eq_true] at h
    have := h.1 ed (by simpa using hed)
    simp only [hb, Bool.not_true, Bool.false_or] at this
    exact .inl (hasNat_mem.1 this)
  | y :: A, x, B, seen, h, o, ho, ed, hed, hb => by
    simp only [List.cons_append, edgesOk, Bool.and_eq_true] at h
    rcases edgesOk_at h.2 o ho ed hed hb with h1 | ⟨z, hz, hid⟩
    · rcases List.mem_cons.1 h1 with h1 | h1
      · exact .inr ⟨y, by simp, h1.symm⟩
      · exact .inl h1
    · exact .inr ⟨z, by simp [hz], hid⟩
theorem maskOf_go : ∀ {l : List Nat} {m k : Nat}, (l.foldl (fun m k => Nat.lor m (2 ^ k)) m).testBit k = (m.testBit k || decide (k ∈ l))
  | [], m, k => by simp
  | x :: l, m, k => by
    rw [List.foldl_cons, maskOf_go]
    show ((m ||| 2 ^ x).testBit k || _) = _
    rw [Nat.testBit_or, Nat.testBit_two_pow, Bool.or_assoc]
    congr 1
    by_cases h : x = k
    · subst h; simp
    · simp [h, Ne.symm h]
theorem maskOf_test {l : List Nat} {k : Nat} : (maskOf l).testBit k = decide (k ∈ l) := by
  unfold maskOf; rw [maskOf_go]; simp
theorem preMask_test {l : List AOper} {i k : Nat} (h : (preMask (l.map fun a => (a.id, maskOf a.pre)) i).testBit k = true) : ∃ b ∈ l, b.id = i ∧ hasNat b.pre k = true := by
  unfold preMask at h
  split at h
  · rename_i x hx
    have h1 := List.find?_some hx
    obtain ⟨b, hb, rfl⟩ := List.mem_map.1 (List.mem_of_find?_eq_some hx)
    refine ⟨b, hb, by simpa using h1, hasNat_mem.2 ?_⟩
    simp only [maskOf_test, decide_eq_true_eq] at h
    exact h
  · simp at h
theorem after_test {l : List AOper} {k : Nat} : ∀ {es : List Edge} {m : Nat}, (es.foldl (fun m e => if Region.binds .any e then Nat.lor m (Nat.lor (2 ^ e.on) (preMask (l.map fun a => (a.id, maskOf a.pre)) e.on)) else m) m).testBit k = true →
    m.testBit k = true ∨ ∃ e ∈ es, Region.binds .any e = true ∧ (e.on = k ∨ ∃ b ∈ l, b.id = e.on ∧ hasNat b.pre k = true)
  | [], m, h => .inl h
  | e :: es, m, h => by
    rw [List.foldl_cons] at h
    rcases after_test h with h1 | ⟨e', h1, h2⟩
    · split at h1
      · rename_i hb
        have h1 : (m ||| (2 ^ e.on ||| preMask (l.map fun a => (a.id, maskOf a.pre)) e.on)).testBit k = true := h1
        rw [Nat.testBit_or, Nat.testBit_or, Nat.testBit_two_pow] at h1
        simp only [Bool.or_eq_true, decide_eq_true_eq] at h1
        rcases h1 with h1 | h1 | h1
        · exact .inl h1
        · exact .inr ⟨e, by simp, hb, .inl h1⟩
        · exact .inr ⟨e, by simp, hb, .inr (preMask_test h1)⟩
      · exact .inl h1
    · exact .inr ⟨e', by simp [h1], h2⟩
theorem preOk_at {ops : Array Oper} {l : List AOper} (h : preOk ops l = true) {a : AOper} (ha : a ∈ l) {o : Oper} (ho : ops[a.id]? = some o) {k : Nat} (hk : k ∈ a.pre) :
    ∃ e ∈ o.after.toList, Region.binds .any e = true ∧ (e.on = k ∨ ∃ b ∈ l, b.id = e.on ∧ hasNat b.pre k = true) := by
  have h1 := List.all_eq_true.1 h a ha
  rw [ho] at h1
  have h2 := of_decide_eq_true h1
  have h3 : (maskOf a.pre).testBit k = true := by rw [maskOf_test]; exact decide_eq_true hk
  rw [← h2] at h3
  have h3 : (maskOf a.pre &&& _).testBit k = true := h3
  rw [Nat.testBit_and, Bool.and_eq_true] at h3
  rcases after_test h3.2 with h4 | h4
  · simp at h4
  · exact h4
theorem stat_of {os : List AOper} (hok : drawOk ops os = true) (hmem : ∀ x ∈ os, ∃ o, ops[x.id]? = some o ∧ cOper P nt ops x.id x.pre o = some x) (hch : Chain call L e H e' H') (hmap : L.map (·.o) = os) (hstab : AM.stable call L [] L H' = true) : Stat P call ops nt L e H e' H' := by
  subst hmap
  simp only [drawOk, Bool.and_eq_true] at hok
  obtain ⟨⟨⟨⟨hcov, hnd⟩, hed⟩, hpre⟩, hpairs⟩ := hok
  rw [List.map_map] at hnd
  refine ⟨fun s hs => hmem s.o (List.mem_map.2 ⟨s, hs, rfl⟩), fun i hi => ?_, nodupN_pw (fun s : Step => s.o.id) hnd, fun L1 s L2 hL o ho ed hm hb => ?_, fun s hs o ho k hk => ?_, ?_, hch, fun A R hAR hR s hs => ?_⟩
  · simp only [List.all_eq_true, List.mem_range, List.any_eq_true, List.mem_map, decide_eq_true_eq] at hcov
    obtain ⟨x, ⟨s, hs, rfl⟩, hid⟩ := hcov i hi
    exact ⟨s, hs, hid⟩
  · rw [hL, List.map_append, List.map_cons] at hed
    rcases edgesOk_at hed o ho ed hm hb with h1 | ⟨y, hy, hid⟩
    · simp at h1
    · obtain ⟨x, hx, rfl⟩ := List.mem_map.1 hy
      exact ⟨x, hx, hid⟩
  · obtain ⟨ed, h1, h2⟩ := preOk_at hpre (List.mem_map.2 ⟨s, hs, rfl⟩) ho (hasNat_mem.1 hk)
    refine ⟨ed, by simpa using h1, h2.1, ?_⟩
    rcases h2.2 with h3 | ⟨b, hb, h3, h4⟩
    · exact .inl h3
    · obtain ⟨x, hx, rfl⟩ := List.mem_map.1 hb
      exact .inr ⟨x, hx, h3, h4⟩
  · have := pairsOk_pw hpairs
    exact List.pairwise_map.1 this
  · have := stable_at (A := A) (over := []) (R := R) (by rw [← hAR]; exact hstab) hR s hs
    simpa using this
theorem stat_short (hst : Stat P call ops nt L e H e' H') : L.length ≤ ops.size := by
  have h1 : (L.map (·.o.id)).Nodup := List.pairwise_map.2 hst.nodup
  have h2 : ∀ i ∈ L.map (·.o.id), i ∈ List.range ops.size := fun i hi => by
    obtain ⟨s, hs, rfl⟩ := List.mem_map.1 hi
    obtain ⟨o, ho, _⟩ := hst.mem s hs
    exact List.mem_range.2 (Array.getElem?_eq_some_iff.1 ho).1
  have := List.Nodup.length_le_of_subset h1 h2
  simpa using this
theorem cDraw_mem {os : List AOper} (h : cDraw P nt ops = some os) : ∀ x ∈ os, ∃ o, ops[x.id]? = some o ∧ cOper P nt ops x.id x.pre o = some x := by
  unfold cDraw at h
  simp only at h
  split at h
  · simp only [Option.some.injEq] at h; subst h
    intro x hx
    obtain ⟨y, hy, hxy⟩ := List.mem_filterMap.1 hx
    obtain ⟨i, _, rfl⟩ := List.mem_map.1 hy
    simp only [id] at hxy
    obtain ⟨o, ho, hc⟩ := Option.bind_eq_some_iff.1 hxy
    have hid : x.id = i ∧ x.pre = maskList ops.size (((befM ops.toList)[i]?).getD 0) := by
      unfold cOper at hc
      split at hc
      · split at hc
        · split at hc
          · simp only [Option.some.injEq] at hc; subst hc; exact ⟨rfl, rfl⟩
          · split at hc
            · split at hc
              · simp only [Option.some.injEq] at hc; subst hc; exact ⟨rfl, rfl⟩
              · cases hc
            · cases hc
        · cases hc
      · cases hc
    refine ⟨o, by rw [hid.1]; exact ho, by rw [hid.1, hid.2]; exact hc⟩
  · cases h
theorem sim_draw (hS : SimCall P call) {ops : Array Oper} (hF : WideF F) (hmix : P.follows .mixedOrders = true) {Q : Exit → Act → World → Prop} {os : List AOper} {e' : Env} {id : Nat} (hok : drawOk ops os = true)
    (hmem : ∀ x ∈ os, ∃ o, ops[x.id]? = some o ∧ cOper P a.tmps.size ops x.id x.pre o = some x) (h : adraw call os e H = some (e', H'))
    (hr : Rel P base m H w) (he : EnvR m e a.tmps) (hq : ∀ m' a' w', Rel P base m' H' w' → Ext m H w m' H' w' → EnvR m' e' a'.tmps → a'.tmps.size = a.tmps.size → a'.defers = a.defers → Q .normal a' w') :
    (Code.region id ops true).wpIn F n P Q a w := by
  unfold adraw at h
  split at h
  · rename_i L e1 H1 hL
    split at h
    · rename_i hstab
      simp only [Option.some.injEq, Prod.mk.injEq] at h
      obtain ⟨rfl, rfl⟩ := h
      obtain ⟨hch, hmap⟩ := aopsT_chain hL
      have hst := stat_of hok hmem hch hmap hstab
      refine wpIn_region_any hmix ?_
      have hr1 : Rel P base m H { w with drawn := w.drawn + 1 } := hr.drew rfl
      obtain ⟨A, R, hi⟩ := Inv.start (a := a) hst hr1 he rfl
      refine draw_go (w0 := { w with drawn := w.drawn + 1 }) hS hF hst (a0 := a) (fun m' a' w' q1 q2 q3 q4 q5 => hq m' a' w' q1 ((Ext.drew (w := w) (w' := { w with drawn := w.drawn + 1 }) rfl).trans q2) q3 q4 q5) _ _ _ _ _ _ _ hi rfl ?_
      have h1 : undone (Array.replicate ops.size false) L ≤ L.length := List.countP_le_length
      have h2 : L.length ≤ ops.size := stat_short hst
      omega
    · cases h
  · cases h
end
end Go.AM
