/- The row FactorTrue: counts as any past makes them deny nothing of that past, for every house and past. -/
import Derived.Test.YtgncpbkedhchfaaA02
import Derived.Test.YtgncpbkedhchfaaA03
import Derived.Test.YtgncpbkedhchfaaA04
set_option linter.unusedVariables false
set_option linter.unusedSimpArgs false
namespace Go.Proofs.Ytgncpbkedhchfaa
open Go.AM Go.IntWalk
set_option maxRecDepth 100000
set_option maxHeartbeats 4000000
set_option linter.unusedSimpArgs false
variable {H : AH} {R : AV → AH → Prop}
structure Found where
  is : Bool
  a : Int
  b : Int
  best : Int × Int
def takes (s : Found) (k i : Nat) (q : Int × Int) : Bool := decide (ltE s.best q) || (s.is && (q == s.best) && (decide ((k : Int) < s.a) || (decide ((k : Int) = s.a) && decide ((i : Int) < s.b))))
def pStep (l : List (List Int)) (i : Nat) (s : Found) (k : Nat) : Found := if takes s k i (spreadE (quotE (quotsOf l k i))) then ⟨true, k, i, spreadE (quotE (quotsOf l k i))⟩ else s
def pRow (l : List (List Int)) (i m : Nat) (s : Found) : Found := (List.range m).foldl (pStep l i) s
def pAll (l : List (List Int)) (n : Nat) : Found := (List.range n).foldl (fun s i => pRow l i i s) ⟨false, 0, 0, (1, 1)⟩
theorem pRow_succ {l : List (List Int)} {i m : Nat} {s : Found} : pRow l i (m + 1) s = pStep l i (pRow l i m s) m := by
  simp only [pRow, List.range_succ, List.foldl_append, List.foldl_cons, List.foldl_nil]
theorem pAll_succ {l : List (List Int)} {n : Nat} : pAll l (n + 1) = pRow l n n (pAll l n) := by
  simp only [pAll, List.range_succ, List.foldl_append, List.foldl_cons, List.foldl_nil]
theorem pAll_next (l : List (List Int)) (n : Nat) (hn : n ≤ 3) : (if (nextAll l n n).1.1 < 0 then ((0, 0), 9) else ((nextAll l n n).1, 0) : (Int × Int) × Int) = if (pAll l n).is = true then (((pAll l n).a, (pAll l n).b), 0) else ((0, 0), 9) := by
  have key : ∀ k i : Nat, ∀ q, takes ⟨false, 0, 0, (1, 1)⟩ k i q = decide (ltE (1, 1) q) := fun k i q => by simp [takes]
  rcases (show n = 0 ∨ n = 1 ∨ n = 2 ∨ n = 3 by omega) with rfl | rfl | rfl | rfl
  · rfl
  · rfl
  · simp only [nextAll, nextRow, pAll, pRow, show List.range 2 = [0, 1] from rfl, show List.range 1 = [0] from rfl, show List.range 0 = [] from rfl, List.foldl_cons, List.foldl_nil, show List.range' (0 + 1) (2 - (0 + 1)) = [1] from rfl, show List.range' (1 + 1) (2 - (1 + 1)) = [] from rfl, nextStep, pStep, key]
    by_cases h1 : ltE (1, 1) (spreadE (quotE (quotsOf l 0 1)))
    · simp [h1]
    · simp [h1]
  · simp only [nextAll, nextRow, pAll, pRow, show List.range 3 = [0, 1, 2] from rfl, show List.range 2 = [0, 1] from rfl, show List.range 1 = [0] from rfl, show List.range 0 = [] from rfl, List.foldl_cons, List.foldl_nil, show List.range' (0 + 1) (3 - (0 + 1)) = [1, 2] from rfl, show List.range' (1 + 1) (3 - (1 + 1)) = [2] from rfl, show List.range' (2 + 1) (3 - (2 + 1)) = [] from rfl, nextStep, pStep, key]
    generalize spreadE (quotE (quotsOf l 0 1)) = x
    generalize spreadE (quotE (quotsOf l 0 2)) = y
    generalize spreadE (quotE (quotsOf l 1 2)) = z
    by_cases h1 : ltE (1, 1) x <;> by_cases h2 : ltE (1, 1) y <;> by_cases h3 : ltE (1, 1) z <;> by_cases h4 : ltE x y <;> by_cases h5 : ltE x z <;> by_cases h6 : ltE y z <;> simp [takes, h1, h2, h3, h4, h5, h6]
theorem pNext_run (v1 v2 : AV) (h : House) (hh : IsHouse (Old H) H v1 v2 h)
    (k : ∀ H', Grew H H' → R (.tuple [I (nextE h).1.1, I (nextE h).1.2, I (nextE h).2]) H') : CallQ prog (.func 27 [] []) [.agg [v1, v2]] H R := by
  have herr : enterErr h [] 0 = if errE h ≠ 0 then errE h else if truthsE h = [] then 8 else 0 := by
    simp [enterErr, pairsOff]
  refine CallQ_enter (fn:=c27) rfl (Nat.le_of_ble_eq_true rfl) ?_;simp(maxSteps:=9999999)(disch:=first|omega|(simp only[AN];omega))only[c27,envFrom,↓KP,EK,↓reduceIte,reduceCtorEq,Nat.reduceEqDiff,Nat.reduceAdd,Nat.reduceLeDiff,Nat.reduceMul]
  refine C_call (enter_run v1 v2 _ _ h [] 0 (hh.grow GW) (.inl ⟨rfl, rfl⟩) (by simp) (fun j hj _ => by simp at hj) rfl (fun _ _ H1 R _ hk => fine_run (hk _ (Grew.refl _))) (fun he H1 hg => ?_) (fun he hfine hne H1 N p m hg hm hheld => ?_))
  · have hgn := hg.next; simp only [AH.next_alloc] at hgn
    have hnE : nextE h = ((0, 0), enterErr h [] 0) := by
      rw [herr] at he ⊢
      unfold nextE
      by_cases h1 : errE h = 0
      · by_cases h2 : truthsE h = []
        · simp [h1, h2]
        · simp [h1, h2] at he
      · simp [h1]
    simp(maxSteps:=9999999)(disch:=first|omega|(simp only[AN];omega))only[he,↓KP,EK,↓reduceIte,reduceCtorEq,Nat.reduceEqDiff,Nat.reduceAdd,Nat.reduceLeDiff,Nat.reduceMul]
    rw [hnE] at k
    refine k _ ?_
    exact GW
  · have hgn := hg.next; simp only [AH.next_alloc] at hgn
    simp only [AH.next_alloc] at hm
    have hws3 := hfine.ws
    have hnE : nextE h = if (pAll (truthsE h) h.ws.length).is = true then (((pAll (truthsE h) h.ws.length).a, (pAll (truthsE h) h.ws.length).b), 0) else ((0, 0), 9) := by
      rw [← pAll_next _ _ hws3]
      rw [herr] at he
      by_cases h1 : errE h = 0
      · simp [nextE, h1, hne]
      · simp [h1] at he
    have hbox : H1.get H.next = some (.cells false [v1, v2]) := by simp(maxSteps:=9999999)(disch:=first|omega|(simp only[AN];omega))only[hg.get,↓KP,EK,↓reduceIte,reduceCtorEq,Nat.reduceEqDiff,Nat.reduceAdd,Nat.reduceLeDiff,Nat.reduceMul]
    have hfac := truthsE_factors hfine
    simp(maxSteps:=9999999)(disch:=first|omega|(simp only[AN];omega))only[hbox,hh.1.len,↓KP,EK,↓reduceIte,reduceCtorEq,Nat.reduceEqDiff,Nat.reduceAdd,Nat.reduceLeDiff,Nat.reduceMul]
    refine K_loop (fun mz ez H2 => ∃ (i : Nat) (s : Found) (tail : Env), ez = (0, .agg [v1, v2]) :: (1, .ptr H.next 0) :: (2, I s.a) :: (3, I s.b) :: (4, I 0) :: (5, .ptr p 0) :: (19, .bool false) :: (6, .ptr H1.next 0) :: (7, .bool s.is) :: (24, I h.ws.length) :: (25, I i) :: tail ∧ (GrewBut m H1 H2) ∧ (H1.next < H2.next) ∧ (Held N p m v1 v2 h 0 H2) ∧ (H2.get H1.next = some (.cells false [I s.best.1, I s.best.2])) ∧ (i ≤ h.ws.length) ∧ (s = pAll (truthsE h) i) ∧ (InR 90000 s.best) ∧ mz = h.ws.length - i) _ ⟨0, ⟨false, 0, 0, (1, 1)⟩, _, rfl, (by exact Grew.but GW), ?_, (by exact hheld.up GW), ?_, ?_, ?_, (by unfold InR; decide), rfl⟩ ?_
    iterate 4 (focus (first|(with_reducible rfl)|omega|(with_reducible(repeat first|exact Grew.refl _|assumption|apply Grew.alloc|refine Grew.set ?_ _ (by first|omega|(simp only[AN];omega)));done)|(simp(maxSteps:=9999999)(disch:=first|omega|(simp only[AN];omega))only[↓KP,EK,↓reduceIte,reduceCtorEq,Nat.reduceEqDiff,Nat.reduceAdd,Nat.reduceLeDiff,Nat.reduceMul]<;>first|omega|rfl)|(simp;done)|rfl))
    rintro mz ez H2 ⟨i, s, tail, rfl, hgb, hlt, hheld2, h6, hi, hs, hin, hmz⟩; subst mz
    have hmlt := hheld.look.mlt
    have hnle := hheld.look.nle
    simp(maxSteps:=9999999)(disch:=first|omega|(simp only[AN];omega))only[↓KP,EK,↓reduceIte,reduceCtorEq,Nat.reduceEqDiff,Nat.reduceAdd,Nat.reduceLeDiff,Nat.reduceMul]
    refine C_decide (fun hc => ?_) (fun hc => ?_)
    · have e1 : IntKind.i64.wrap ((i : Int) + 1) = ((i + 1 : Nat) : Int) := i64_in _ (by omega)
      simp(maxSteps:=9999999)(disch:=first|omega|(simp only[AN];omega))only[↓KP,EK,↓reduceIte,reduceCtorEq,Nat.reduceEqDiff,Nat.reduceAdd,Nat.reduceLeDiff,Nat.reduceMul]
      refine K_loop (fun mz ez H3 => ∃ (j : Nat) (t : Found) (tail : Env), ez = (0, .agg [v1, v2]) :: (1, .ptr H.next 0) :: (2, I t.a) :: (3, I t.b) :: (4, I 0) :: (5, .ptr p 0) :: (19, .bool false) :: (6, .ptr H1.next 0) :: (7, .bool t.is) :: (24, I h.ws.length) :: (25, I i) :: tail ∧ (tail.get 8 = some (I i)) ∧ (tail.get 28 = some (I i)) ∧ (tail.get 29 = some (I j)) ∧ (GrewBut m H1 H3) ∧ (H1.next < H3.next) ∧ (Held N p m v1 v2 h 0 H3) ∧ (H3.get H1.next = some (.cells false [I t.best.1, I t.best.2])) ∧ (j ≤ i) ∧ (t = pRow (truthsE h) i j s) ∧ (InR 90000 t.best) ∧ mz = i - j) _ ⟨0, s, _, rfl, ?_, ?_, ?_, (by exact hgb), ?_, (by exact hheld2), (by exact h6), ?_, ?_, (by exact hin), rfl⟩ ?_
      iterate 6 (focus (first|(with_reducible rfl)|omega|(with_reducible(repeat first|exact Grew.refl _|assumption|apply Grew.alloc|refine Grew.set ?_ _ (by first|omega|(simp only[AN];omega)));done)|(simp(maxSteps:=9999999)(disch:=first|omega|(simp only[AN];omega))only[↓KP,EK,↓reduceIte,reduceCtorEq,Nat.reduceEqDiff,Nat.reduceAdd,Nat.reduceLeDiff,Nat.reduceMul]<;>first|omega|rfl)|(simp;done)|rfl))
      rintro mz ez H3 ⟨j, t, tail, rfl, t8, t28, t29, hgb3, hlt3, hheld3, h63, hj, ht, hin3, hmz⟩; subst mz
      simp(maxSteps:=9999999)(disch:=first|omega|(simp only[AN];omega))only[t28,t29,↓KP,EK,↓reduceIte,reduceCtorEq,Nat.reduceEqDiff,Nat.reduceAdd,Nat.reduceLeDiff,Nat.reduceMul]
      refine C_decide (fun hc2 => ?_) (fun hc2 => ?_)
      · have e2 : IntKind.i64.wrap ((j : Int) + 1) = ((j + 1 : Nat) : Int) := i64_in _ (by omega)
        have hq := quotE_in (quotsOf_in hfac (a := j) (b := i) (by omega) (by omega)) (by
          intro e
          have := congrArg List.length e
          simp only [quotsOf, List.length_map, List.length_nil] at this
          exact hne (List.length_eq_zero_iff.1 this))
        have hz := spreadE_in hq.1 hq.2
        have hstep : pRow (truthsE h) i (j + 1) s = pStep (truthsE h) i t j := by rw [pRow_succ, ← ht]
        simp only [pStep] at hstep
        have r1 := hq.1
        have r2 := hq.2
        unfold InR at r1 r2
        have q1 := mul_in (a := (quotE (quotsOf (truthsE h) j i)).2.1) (b := (quotE (quotsOf (truthsE h) j i)).1.2) (m := 300) (n := 300) (by omega) (by omega)
        have q2 := mul_in (a := (quotE (quotsOf (truthsE h) j i)).2.2) (b := (quotE (quotsOf (truthsE h) j i)).1.1) (m := 300) (n := 300) (by omega) (by omega)
        have e3 : IntKind.i64.wrap ((quotE (quotsOf (truthsE h) j i)).2.1 * (quotE (quotsOf (truthsE h) j i)).1.2) = (quotE (quotsOf (truthsE h) j i)).2.1 * (quotE (quotsOf (truthsE h) j i)).1.2 := i64_in _ (by omega)
        have e4 : IntKind.i64.wrap ((quotE (quotsOf (truthsE h) j i)).2.2 * (quotE (quotsOf (truthsE h) j i)).1.1) = (quotE (quotsOf (truthsE h) j i)).2.2 * (quotE (quotsOf (truthsE h) j i)).1.1 := i64_in _ (by omega)
        simp(maxSteps:=9999999)(disch:=first|omega|(simp only[AN];omega))only[t8,t29,↓KP,EK,↓reduceIte,reduceCtorEq,Nat.reduceEqDiff,Nat.reduceAdd,Nat.reduceLeDiff,Nat.reduceMul]
        refine C_call (between_run j i hfine (by omega) hheld3 (by omega) (by omega) fun H4 hg4 hh4 => ?_)
        have hg4n := hg4.next
        rw [lookE_zero]
        simp(maxSteps:=9999999)(disch:=first|omega|(simp only[AN];omega))only[e3,e4,↓KP,EK,↓reduceIte,reduceCtorEq,Nat.reduceEqDiff,Nat.reduceAdd,Nat.reduceLeDiff,Nat.reduceMul]
        first|refine C_call ?_|refine C_calld ?_
        refine plow_run _ _ ⟨q1.1, by omega⟩ ⟨q2.1, by omega⟩ fun H5 hg5 => ?_
        have hg5n:=hg5.next;try simp only[AN]at hg5n
        have h65 : H5.get H1.next = some (.cells false [I t.best.1, I t.best.2]) := by
          rw [hg5.get _ (by simp(maxSteps:=9999999)(disch:=first|omega|(simp only[AN];omega))only[↓KP,EK,↓reduceIte,reduceCtorEq,Nat.reduceEqDiff,Nat.reduceAdd,Nat.reduceLeDiff,Nat.reduceMul]; omega)]; simp(maxSteps:=9999999)(disch:=first|omega|(simp only[AN];omega))only[↓KP,EK,↓reduceIte,reduceCtorEq,Nat.reduceEqDiff,Nat.reduceAdd,Nat.reduceLeDiff,Nat.reduceMul]
          rw [hg4.get _ (by omega) (by omega)]; exact h63
        have hgb5 : GrewBut m H1 H5 := ⟨by omega, fun b hb hbm => by
          rw [hg5.get _ (by simp(maxSteps:=9999999)(disch:=first|omega|(simp only[AN];omega))only[↓KP,EK,↓reduceIte,reduceCtorEq,Nat.reduceEqDiff,Nat.reduceAdd,Nat.reduceLeDiff,Nat.reduceMul]; omega)]; simp(maxSteps:=9999999)(disch:=first|omega|(simp only[AN];omega))only[↓KP,EK,↓reduceIte,reduceCtorEq,Nat.reduceEqDiff,Nat.reduceAdd,Nat.reduceLeDiff,Nat.reduceMul]
          rw [hg4.get _ (by omega) hbm, hgb3.get b hb hbm]⟩
        have hh5 : Held N p m v1 v2 h 0 H5 := hh4.up (H2 := H5) (Grew.trans GW hg5)
        have hsp : lowE ((quotE (quotsOf (truthsE h) j i)).2.1 * (quotE (quotsOf (truthsE h) j i)).1.2) ((quotE (quotsOf (truthsE h) j i)).2.2 * (quotE (quotsOf (truthsE h) j i)).1.1) = spreadE (quotE (quotsOf (truthsE h) j i)) := rfl
        rw [hsp]
        generalize spreadE (quotE (quotsOf (truthsE h) j i)) = z at hstep hz
        simp(maxSteps:=9999999)(disch:=first|omega|(simp only[AN];omega))only[h65,↓KP,EK,↓reduceIte,reduceCtorEq,Nat.reduceEqDiff,Nat.reduceAdd,Nat.reduceLeDiff,Nat.reduceMul]
        first|refine C_call ?_|refine C_calld ?_
        refine less_run t.best z hin3 hz fun H6 hg6 => ?_
        have hg6n:=hg6.next;try simp only[AN]at hg6n
        have h66 : H6.get H1.next = some (.cells false [I t.best.1, I t.best.2]) := by simp(maxSteps:=9999999)(disch:=first|omega|(simp only[AN];omega))only[hg6.get,h65,↓KP,EK,↓reduceIte,reduceCtorEq,Nat.reduceEqDiff,Nat.reduceAdd,Nat.reduceLeDiff,Nat.reduceMul]
        have h6z : H6.get H5.next = some (.cells false [I z.1, I z.2]) := by simp(maxSteps:=9999999)(disch:=first|omega|(simp only[AN];omega))only[hg6.get,↓KP,EK,↓reduceIte,reduceCtorEq,Nat.reduceEqDiff,Nat.reduceAdd,Nat.reduceLeDiff,Nat.reduceMul]
        have hgb6 : GrewBut m H1 H6 := hgb5.trans (Grew.but (Grew.trans GW hg6))
        have hh6 : Held N p m v1 v2 h 0 H6 := hh5.up (Grew.trans GW hg6)
        have hgb7 : ∀ o, GrewBut m H1 (H6.set H1.next o) := fun o => ⟨by simp(maxSteps:=9999999)(disch:=first|omega|(simp only[AN];omega))only[↓KP,EK,↓reduceIte,reduceCtorEq,Nat.reduceEqDiff,Nat.reduceAdd,Nat.reduceLeDiff,Nat.reduceMul]; omega, fun b hb hbm => by rw [get_set_other (by omega)]; exact hgb6.get b hb hbm⟩
        have hh7 : ∀ o, Held N p m v1 v2 h 0 (H6.set H1.next o) := fun o => hh6.keep (Nat.le_refl _) fun b hb => get_set_other (by omega)
        have hdn : (z == t.best) = decide (z = t.best) := by
          by_cases e : z = t.best
          · simp [e]
          · simp [e]
        obtain ⟨tis, ta, tb, tbest⟩ := t
        simp only at h66 hstep hdn hin3 hgb7
        by_cases hl : ltE tbest z
        · have htk : takes ⟨tis, ta, tb, tbest⟩ j i z = true := by simp [takes, hl]
          rw [if_pos htk] at hstep
          simp(maxSteps:=9999999)(disch:=first|omega|(simp only[AN];omega))only[hl,h66,h6z,t8,t29,↓KP,EK,↓reduceIte,reduceCtorEq,Nat.reduceEqDiff,Nat.reduceAdd,Nat.reduceLeDiff,Nat.reduceMul]
          refine K_draw ?_;simp(maxSteps:=9999999)(disch:=first|omega|(simp only[AN];omega))only[h66,h6z,t8,t29,e2,↓KP,EK,↓reduceIte,reduceCtorEq,Nat.reduceEqDiff,Nat.reduceAdd,Nat.reduceLeDiff,Nat.reduceMul]
          refine ⟨_, ?_, j + 1, ⟨true, j, i, z⟩, _, rfl, ?_, ?_, ?_, (by exact hgb7 _), ?_, (by exact hh7 _), (by simp(maxSteps:=9999999)(disch:=first|omega|(simp only[AN];omega))only[↓KP,EK,↓reduceIte,reduceCtorEq,Nat.reduceEqDiff,Nat.reduceAdd,Nat.reduceLeDiff,Nat.reduceMul]), ?_, (by exact hstep.symm), (by exact hz), rfl⟩ <;> (first|omega|(with_reducible assumption)|(with_reducible(repeat first|exact Grew.refl _|assumption|apply Grew.alloc|refine Grew.set ?_ _ (by first|omega|(simp only[AN];omega)));done)|(simp(maxSteps:=9999999)(disch:=first|omega|(simp only[AN];omega))only[t8,t28,t29,↓KP,EK,↓reduceIte,reduceCtorEq,Nat.reduceEqDiff,Nat.reduceAdd,Nat.reduceLeDiff,Nat.reduceMul]<;>first|omega|rfl))
        · cases tis with
          | false =>
            have htk : ¬ takes ⟨false, ta, tb, tbest⟩ j i z = true := by simp [takes, hl]
            rw [if_neg htk] at hstep
            simp(maxSteps:=9999999)(disch:=first|omega|(simp only[AN];omega))only[hl,h66,h6z,t8,t29,e2,↓KP,EK,↓reduceIte,reduceCtorEq,Nat.reduceEqDiff,Nat.reduceAdd,Nat.reduceLeDiff,Nat.reduceMul]
            refine ⟨_, ?_, j + 1, ⟨false, ta, tb, tbest⟩, _, rfl, ?_, ?_, ?_, (by exact hgb6), ?_, (by exact hh6), (by exact h66), ?_, (by exact hstep.symm), (by exact hin3), rfl⟩ <;> (first|omega|(with_reducible assumption)|(with_reducible(repeat first|exact Grew.refl _|assumption|apply Grew.alloc|refine Grew.set ?_ _ (by first|omega|(simp only[AN];omega)));done)|(simp(maxSteps:=9999999)(disch:=first|omega|(simp only[AN];omega))only[t8,t28,t29,↓KP,EK,↓reduceIte,reduceCtorEq,Nat.reduceEqDiff,Nat.reduceAdd,Nat.reduceLeDiff,Nat.reduceMul]<;>first|omega|rfl))
          | true =>
            by_cases hzq : z = tbest
            · have hx : eqFlatA true [.i, .i] (.agg [I z.1, I z.2]) (.agg [I tbest.1, I tbest.2]) = some true := by rw [hzq]; simp [eqFlatA, eqCells]
              have hdn' : (z == tbest) = true := by rw [hdn, hzq]; simp
              by_cases hka : (j : Int) < ta
              · have htk : takes ⟨true, ta, tb, tbest⟩ j i z = true := by simp [takes, hl, hka, hdn']
                rw [if_pos htk] at hstep
                simp(maxSteps:=9999999)(disch:=first|omega|(simp only[AN];omega))only[hl,hx,hka,h66,h6z,t8,t29,↓KP,EK,↓reduceIte,reduceCtorEq,Nat.reduceEqDiff,Nat.reduceAdd,Nat.reduceLeDiff,Nat.reduceMul]
                refine K_draw ?_;simp(maxSteps:=9999999)(disch:=first|omega|(simp only[AN];omega))only[h66,h6z,t8,t29,e2,↓KP,EK,↓reduceIte,reduceCtorEq,Nat.reduceEqDiff,Nat.reduceAdd,Nat.reduceLeDiff,Nat.reduceMul]
                refine ⟨_, ?_, j + 1, ⟨true, j, i, z⟩, _, rfl, ?_, ?_, ?_, (by exact hgb7 _), ?_, (by exact hh7 _), (by simp(maxSteps:=9999999)(disch:=first|omega|(simp only[AN];omega))only[↓KP,EK,↓reduceIte,reduceCtorEq,Nat.reduceEqDiff,Nat.reduceAdd,Nat.reduceLeDiff,Nat.reduceMul]), ?_, (by exact hstep.symm), (by exact hz), rfl⟩ <;> (first|omega|(with_reducible assumption)|(with_reducible(repeat first|exact Grew.refl _|assumption|apply Grew.alloc|refine Grew.set ?_ _ (by first|omega|(simp only[AN];omega)));done)|(simp(maxSteps:=9999999)(disch:=first|omega|(simp only[AN];omega))only[t8,t28,t29,↓KP,EK,↓reduceIte,reduceCtorEq,Nat.reduceEqDiff,Nat.reduceAdd,Nat.reduceLeDiff,Nat.reduceMul]<;>first|omega|rfl))
              · by_cases hke : (j : Int) = ta
                · by_cases hib : (i : Int) < tb
                  · have htk : takes ⟨true, ta, tb, tbest⟩ j i z = true := by simp [takes, hl, hka, eq_true hke, hib, hdn']
                    rw [if_pos htk] at hstep
                    simp(maxSteps:=9999999)(disch:=first|omega|(simp only[AN];omega))only[hl,hx,hka,eq_true hke,hib,h66,h6z,t8,t29,↓KP,EK,↓reduceIte,reduceCtorEq,Nat.reduceEqDiff,Nat.reduceAdd,Nat.reduceLeDiff,Nat.reduceMul]
                    refine K_draw ?_;simp(maxSteps:=9999999)(disch:=first|omega|(simp only[AN];omega))only[h66,h6z,t8,t29,e2,↓KP,EK,↓reduceIte,reduceCtorEq,Nat.reduceEqDiff,Nat.reduceAdd,Nat.reduceLeDiff,Nat.reduceMul]
                    refine ⟨_, ?_, j + 1, ⟨true, j, i, z⟩, _, rfl, ?_, ?_, ?_, (by exact hgb7 _), ?_, (by exact hh7 _), (by simp(maxSteps:=9999999)(disch:=first|omega|(simp only[AN];omega))only[↓KP,EK,↓reduceIte,reduceCtorEq,Nat.reduceEqDiff,Nat.reduceAdd,Nat.reduceLeDiff,Nat.reduceMul]), ?_, (by exact hstep.symm), (by exact hz), rfl⟩ <;> (first|omega|(with_reducible assumption)|(with_reducible(repeat first|exact Grew.refl _|assumption|apply Grew.alloc|refine Grew.set ?_ _ (by first|omega|(simp only[AN];omega)));done)|(simp(maxSteps:=9999999)(disch:=first|omega|(simp only[AN];omega))only[t8,t28,t29,↓KP,EK,↓reduceIte,reduceCtorEq,Nat.reduceEqDiff,Nat.reduceAdd,Nat.reduceLeDiff,Nat.reduceMul]<;>first|omega|rfl))
                  · have htk : ¬ takes ⟨true, ta, tb, tbest⟩ j i z = true := by simp [takes, hl, hka, eq_true hke, hib, hdn']
                    rw [if_neg htk] at hstep
                    simp(maxSteps:=9999999)(disch:=first|omega|(simp only[AN];omega))only[hl,hx,hka,eq_true hke,hib,h66,h6z,t8,t29,e2,↓KP,EK,↓reduceIte,reduceCtorEq,Nat.reduceEqDiff,Nat.reduceAdd,Nat.reduceLeDiff,Nat.reduceMul]
                    refine ⟨_, ?_, j + 1, ⟨true, ta, tb, tbest⟩, _, rfl, ?_, ?_, ?_, (by exact hgb6), ?_, (by exact hh6), (by exact h66), ?_, (by exact hstep.symm), (by exact hin3), rfl⟩ <;> (first|omega|(with_reducible assumption)|(with_reducible(repeat first|exact Grew.refl _|assumption|apply Grew.alloc|refine Grew.set ?_ _ (by first|omega|(simp only[AN];omega)));done)|(simp(maxSteps:=9999999)(disch:=first|omega|(simp only[AN];omega))only[t8,t28,t29,↓KP,EK,↓reduceIte,reduceCtorEq,Nat.reduceEqDiff,Nat.reduceAdd,Nat.reduceLeDiff,Nat.reduceMul]<;>first|omega|rfl))
                · have htk : ¬ takes ⟨true, ta, tb, tbest⟩ j i z = true := by simp [takes, hl, hka, hke, hdn']
                  rw [if_neg htk] at hstep
                  simp(maxSteps:=9999999)(disch:=first|omega|(simp only[AN];omega))only[hl,hx,hka,hke,h66,h6z,t8,t29,e2,↓KP,EK,↓reduceIte,reduceCtorEq,Nat.reduceEqDiff,Nat.reduceAdd,Nat.reduceLeDiff,Nat.reduceMul]
                  refine ⟨_, ?_, j + 1, ⟨true, ta, tb, tbest⟩, _, rfl, ?_, ?_, ?_, (by exact hgb6), ?_, (by exact hh6), (by exact h66), ?_, (by exact hstep.symm), (by exact hin3), rfl⟩ <;> (first|omega|(with_reducible assumption)|(with_reducible(repeat first|exact Grew.refl _|assumption|apply Grew.alloc|refine Grew.set ?_ _ (by first|omega|(simp only[AN];omega)));done)|(simp(maxSteps:=9999999)(disch:=first|omega|(simp only[AN];omega))only[t8,t28,t29,↓KP,EK,↓reduceIte,reduceCtorEq,Nat.reduceEqDiff,Nat.reduceAdd,Nat.reduceLeDiff,Nat.reduceMul]<;>first|omega|rfl))
            · have hx : eqFlatA true [.i, .i] (.agg [I z.1, I z.2]) (.agg [I tbest.1, I tbest.2]) = some false := by
                have : ¬ (z.1 = tbest.1 ∧ z.2 = tbest.2) := fun e => hzq (Prod.ext e.1 e.2)
                simp [eqFlatA, eqCells]; omega
              have hdn' : (z == tbest) = false := by rw [hdn]; simp [hzq]
              have htk : ¬ takes ⟨true, ta, tb, tbest⟩ j i z = true := by simp [takes, hl, hdn']
              rw [if_neg htk] at hstep
              simp(maxSteps:=9999999)(disch:=first|omega|(simp only[AN];omega))only[hl,hx,h66,h6z,t8,t29,e2,↓KP,EK,↓reduceIte,reduceCtorEq,Nat.reduceEqDiff,Nat.reduceAdd,Nat.reduceLeDiff,Nat.reduceMul]
              refine ⟨_, ?_, j + 1, ⟨true, ta, tb, tbest⟩, _, rfl, ?_, ?_, ?_, (by exact hgb6), ?_, (by exact hh6), (by exact h66), ?_, (by exact hstep.symm), (by exact hin3), rfl⟩ <;> (first|omega|(with_reducible assumption)|(with_reducible(repeat first|exact Grew.refl _|assumption|apply Grew.alloc|refine Grew.set ?_ _ (by first|omega|(simp only[AN];omega)));done)|(simp(maxSteps:=9999999)(disch:=first|omega|(simp only[AN];omega))only[t8,t28,t29,↓KP,EK,↓reduceIte,reduceCtorEq,Nat.reduceEqDiff,Nat.reduceAdd,Nat.reduceLeDiff,Nat.reduceMul]<;>first|omega|rfl))
      · have hje : j = i := by omega
        subst hje
        simp(maxSteps:=9999999)(disch:=first|omega|(simp only[AN];omega))only[e1,↓KP,EK,↓reduceIte,reduceCtorEq,Nat.reduceEqDiff,Nat.reduceAdd,Nat.reduceLeDiff,Nat.reduceMul]
        refine ⟨_, ?_, j + 1, t, _, rfl, (by exact hgb3), ?_, (by exact hheld3), (by exact h63), ?_, (by rw [pAll_succ, ← hs]; exact ht), (by exact hin3), rfl⟩ <;> (first|omega|(with_reducible assumption)|(with_reducible(repeat first|exact Grew.refl _|assumption|apply Grew.alloc|refine Grew.set ?_ _ (by first|omega|(simp only[AN];omega)));done)|(simp(maxSteps:=9999999)(disch:=first|omega|(simp only[AN];omega))only[↓KP,EK,↓reduceIte,reduceCtorEq,Nat.reduceEqDiff,Nat.reduceAdd,Nat.reduceLeDiff,Nat.reduceMul]<;>first|omega|rfl))
    · have hie : i = h.ws.length := by omega
      subst hie
      rw [← hs] at hnE
      have hg2 : Grew H H2 := GrewBut.grew (Grew.trans GW hg) hgb (by omega)
      simp(maxSteps:=9999999)(disch:=first|omega|(simp only[AN];omega))only[↓KP,EK,↓reduceIte,reduceCtorEq,Nat.reduceEqDiff,Nat.reduceAdd,Nat.reduceLeDiff,Nat.reduceMul]
      obtain ⟨tis, ta, tb, tbest⟩ := s
      cases tis with
      | false =>
        rw [hnE] at k
        simp(maxSteps:=9999999)(disch:=first|omega|(simp only[AN];omega))only[↓KP,EK,↓reduceIte,reduceCtorEq,Nat.reduceEqDiff,Nat.reduceAdd,Nat.reduceLeDiff,Nat.reduceMul]
        exact k _ hg2
      | true =>
        rw [hnE] at k
        simp(maxSteps:=9999999)(disch:=first|omega|(simp only[AN];omega))only[↓KP,EK,↓reduceIte,reduceCtorEq,Nat.reduceEqDiff,Nat.reduceAdd,Nat.reduceLeDiff,Nat.reduceMul]
        exact k _ hg2
end Go.Proofs.Ytgncpbkedhchfaa
namespace Go.Proofs.Ytgncpbkedhchfaa
open Go.AM Go.IntWalk
set_option maxRecDepth 100000
set_option maxHeartbeats 4000000
set_option linter.unusedSimpArgs false
variable {H : AH} {R : AV → AH → Prop}
def combs {α : Type} : List α → Nat → List (List α)
  | _, 0 => [[]]
  | [], _ + 1 => []
  | x :: l, r + 1 => (combs l r).map (x :: ·) ++ combs l (r + 1)
theorem combs_mem {α : Type} : ∀ {l : List α} {r : Nat} {s : List α}, s ∈ combs l r → s.length = r ∧ ∀ x ∈ s, x ∈ l
  | _, 0, s, h => by simp only [combs, List.mem_singleton] at h; subst h; simp
  | [], r + 1, s, h => by simp [combs] at h
  | x :: l, r + 1, s, h => by
    simp only [combs, List.mem_append, List.mem_map] at h
    rcases h with ⟨t, ht, rfl⟩ | h
    · obtain ⟨h1, h2⟩ := combs_mem ht
      exact ⟨by simp [h1], fun y hy => by
        rcases List.mem_cons.1 hy with rfl | hy
        · simp
        · simp [h2 y hy]⟩
    · obtain ⟨h1, h2⟩ := combs_mem h
      exact ⟨h1, fun y hy => by simp [h2 y hy]⟩
def bitsOf (c : List Int) : Nat := c.foldl (fun s v => s ||| 2 ^ v.toNat) 0
theorem bitsOf_snoc {c : List Int} {v : Int} : bitsOf (c ++ [v]) = bitsOf c ||| 2 ^ v.toNat := by simp [bitsOf]
theorem snoc_ind {α : Type} {P : List α → Prop} (h0 : P []) (h1 : ∀ l a, P l → P (l ++ [a])) (l : List α) : P l := by
  have : ∀ l : List α, P l.reverse := fun l => by
    induction l with
    | nil => exact h0
    | cons a l ih => rw [List.reverse_cons]; exact h1 _ _ ih
  have := this l.reverse
  rwa [List.reverse_reverse] at this
theorem bitsOf_lt {c : List Int} : (∀ v ∈ c, 0 ≤ v ∧ v < 12) → bitsOf c < 4096 := by
  induction c using snoc_ind with
  | h0 => intro _; decide
  | h1 l a ih =>
    intro h
    rw [bitsOf_snoc]
    have ha := h a (by simp)
    have h2 : 2 ^ a.toNat < 2 ^ 12 := Nat.pow_lt_pow_right (by omega) (by omega)
    exact Nat.or_lt_two_pow (n := 12) (ih fun v hv => h v (by simp [hv])) h2
theorem bitsOf_test {c : List Int} {x : Nat} : (∀ v ∈ c, 0 ≤ v) → (bitsOf c).testBit x = decide ((x : Int) ∈ c) := by
  induction c using snoc_ind with
  | h0 => intro _; simp [bitsOf]
  | h1 l a ih =>
    intro h
    have ha := h a (by simp)
    rw [bitsOf_snoc, Nat.testBit_or, ih fun v hv => h v (by simp [hv]), Nat.testBit_two_pow]
    have : (a.toNat = x) ↔ ((x : Int) = a) := by omega
    simp [this]
theorem lookE_bits {h : House} {c : List Int} (hc : ∀ v ∈ c, 0 ≤ v) : lookE h (bitsOf c) = butE h c := by
  unfold lookE butE
  congr 1
  funext x
  exact bitsOf_test hc
theorem shl_one (v : Int) (h : 0 ≤ v ∧ v < 62) : binA .shl (I 1) (I v) = some (I (2 ^ v.toNat : Nat)) := by
  have h1 : ¬ v < 0 := by omega
  have h2 : min (v.toNat) IntKind.i64.bits = v.toNat := by simp only [IntKind.bits]; omega
  show (if v < 0 then none else some (I (IntKind.i64.wrap (1 * 2 ^ (min v.toNat IntKind.i64.bits))))) = _
  rw [if_neg h1, h2]
  have h3 : (1 : Int) * 2 ^ v.toNat = ((2 ^ v.toNat : Nat) : Int) := by simp
  have h4 : 2 ^ v.toNat < 2 ^ 62 := Nat.pow_lt_pow_right (by omega) (by omega)
  rw [h3]
  generalize 2 ^ v.toNat = y at h4 ⊢
  rw [i64_in _ (by omega)]
theorem or_nat (a b : Nat) (ha : a < 4611686018427387904) (hb : b < 4611686018427387904) : binA .or (I a) (I b) = some (I (a ||| b : Nat)) := by
  show (if IntKind.i64 = IntKind.i64 then some (I (IntKind.i64.wrap (BitVec.ofInt IntKind.i64.bits (a : Int) ||| BitVec.ofInt IntKind.i64.bits (b : Int)).toNat)) else none) = _
  rw [if_pos rfl]
  have hlt : a ||| b < 2 ^ 62 := Nat.or_lt_two_pow (n := 62) ha hb
  have h1 : (BitVec.ofInt IntKind.i64.bits (a : Int) ||| BitVec.ofInt IntKind.i64.bits (b : Int)).toNat = a ||| b := by
    show (BitVec.ofInt 64 (a : Int) ||| BitVec.ofInt 64 (b : Int)).toNat = a ||| b
    rw [show BitVec.ofInt 64 (a : Int) = BitVec.ofNat 64 a from BitVec.ofInt_natCast 64 a, show BitVec.ofInt 64 (b : Int) = BitVec.ofNat 64 b from BitVec.ofInt_natCast 64 b, BitVec.toNat_or, BitVec.toNat_ofNat, BitVec.toNat_ofNat, Nat.mod_eq_of_lt (by omega), Nat.mod_eq_of_lt (by omega)]
  rw [h1, i64_in _ (by omega)]
theorem do_run (bc set : Nat) (v1 v2 : AV) (h : House) (hb : H.get bc = some (.cells false [v1, v2])) (hh : IsHouse (Old H) H v1 v2 h) (hfine : Fine h) (hset : set < 4096)
    (k : ∀ H', Grew H H' → R (.bool (decide (0 < (truthsE (lookE h set)).length))) H') : CallQ prog (.func 80 [] [.ptr bc 0]) [I set] H R := by
  refine CallQ_enter (fn:=c80) rfl (Nat.le_of_ble_eq_true rfl) ?_;simp(maxSteps:=9999999)(disch:=first|omega|(simp only[AN];omega))only[c80,envFrom,hb,↓KP,EK,↓reduceIte,reduceCtorEq,Nat.reduceEqDiff,Nat.reduceAdd,Nat.reduceLeDiff,Nat.reduceMul]
  refine C_call (look_run v1 v2 h set hh fun H1 p m hg hm hheld => ?_)
  simp(maxSteps:=9999999)(disch:=first|omega|(simp only[AN];omega))only[↓KP,EK,↓reduceIte,reduceCtorEq,Nat.reduceEqDiff,Nat.reduceAdd,Nat.reduceLeDiff,Nat.reduceMul]
  refine C_call (some_run hfine hset hheld fun H2 hg2 _ => ?_)
  simp(maxSteps:=9999999)(disch:=first|omega|(simp only[AN];omega))only[↓KP,EK,↓reduceIte,reduceCtorEq,Nat.reduceEqDiff,Nat.reduceAdd,Nat.reduceLeDiff,Nat.reduceMul]
  exact k _ (GrewBut.grew hg hg2 hm)
structure Boxes (Nf bo bm bd bl bn bc : Nat) (vl v1 v2 : AV) (many : Nat) (B : AH) : Prop where
  m : B.get bm = some (.cells false [I many])
  d : B.get bd = some (.cells false [.func 80 [] [.ptr bc 0]])
  l : B.get bl = some (.cells false [vl])
  n : B.get bn = some (.cells false [.func 104 [] [.ptr bo 0, .ptr bm 0, .ptr bd 0, .ptr bl 0, .ptr bn 0]])
  c : B.get bc = some (.cells false [v1, v2])
  lt : bo < Nf ∧ bm < Nf ∧ bd < Nf ∧ bl < Nf ∧ bn < Nf ∧ bc < Nf
  ne : bo ≠ bm ∧ bo ≠ bd ∧ bo ≠ bl ∧ bo ≠ bn ∧ bo ≠ bc
structure InHand (Nf bo : Nat) (c : List Int) (B H : AH) : Prop where
  next : Nf ≤ H.next
  same : ∀ b, b < Nf → b ≠ bo → H.get b = B.get b
  own : ∃ vo, H.get bo = some (.cells false [vo]) ∧ Mine 1 EInt (fun _ => False) Nf H vo c
def doE (h : House) (c : List Int) : Bool := decide (0 < (truthsE (butE h c)).length)
theorem nxt_run {Nf bo bm bd bl bn bc : Nat} {vl v1 v2 : AV} {many : Nat} {B : AH} {h : House} {l : List Int} (hbx : Boxes Nf bo bm bd bl bn bc vl v1 v2 many B) (hfine : Fine h) (hh : IsHouse (fun b => b < Nf ∧ b ≠ bo) B v1 v2 h) (hl : IsInts (fun b => b < Nf ∧ b ≠ bo) B vl l)
    (hlv : ∀ v ∈ l, 0 ≤ v ∧ v < 12) (hll : l.length ≤ 12) (hmany : many ≤ 12) : ∀ (r at_ : Nat) (c : List Int) (H : AH) (R : AV → AH → Prop), c.length + r = many → at_ ≤ l.length → (∀ v ∈ c, 0 ≤ v ∧ v < 12) → InHand Nf bo c B H →
      (∀ H' s, (combs (l.drop at_) r).find? (fun s => doE h (c ++ s)) = some s → H.next ≤ H'.next → InHand Nf bo (c ++ s) B H' → R (.bool true) H') →
      (∀ H', (combs (l.drop at_) r).find? (fun s => doE h (c ++ s)) = none → H.next ≤ H'.next → InHand Nf bo c B H' → R (.bool false) H') →
      CallQ prog (.func 104 [] [.ptr bo 0, .ptr bm 0, .ptr bd 0, .ptr bl 0, .ptr bn 0]) [I at_, I (bitsOf c)] H R := by
  intro r
  have lt := hbx.lt
  have ne := hbx.ne
  induction r with
  | zero =>
    intro at_ c H R hcr hat hcv hi k1 k0
    obtain ⟨vo, e0, hm⟩ := hi.own
    have em : H.get bm = some (.cells false [I many]) := by rw [hi.same _ lt.2.1 (Ne.symm ne.1)]; exact hbx.m
    have ed : H.get bd = some (.cells false [.func 80 [] [.ptr bc 0]]) := by rw [hi.same _ lt.2.2.1 (Ne.symm ne.2.1)]; exact hbx.d
    have ec : H.get bc = some (.cells false [v1, v2]) := by rw [hi.same _ lt.2.2.2.2.2 (Ne.symm ne.2.2.2.2)]; exact hbx.c
    have hlen : (c.length : Int) = many := by omega
    have hN := hi.next
    refine CallQ_enter (fn:=c104) rfl (Nat.le_of_ble_eq_true rfl) ?_;simp(maxSteps:=9999999)(disch:=first|omega|(simp only[AN];omega))only[c104,envFrom,e0,em,ed,hm.len,hlen,↓KP,EK,↓reduceIte,reduceCtorEq,Nat.reduceEqDiff,Nat.reduceAdd,Nat.reduceLeDiff,Nat.reduceMul]
    refine C_call (do_run bc (bitsOf c) v1 v2 h ec (hh.move fun b hb => ⟨by show b < H.next; omega, hi.same b hb.1 hb.2⟩) hfine (bitsOf_lt hcv) fun H1 hg => ?_)
    have hi1 : InHand Nf bo c B H1 := ⟨by have := hg.next; omega, fun b h1 h2 => by rw [hg.get b (by omega), hi.same b h1 h2], vo, by rw [hg.get _ (by omega)]; exact e0, hm.grow EInt.stays hg⟩
    rw [lookE_bits fun v hv => (hcv v hv).1]
    simp(maxSteps:=9999999)(disch:=first|omega|(simp only[AN];omega))only[↓KP,EK,↓reduceIte,reduceCtorEq,Nat.reduceEqDiff,Nat.reduceAdd,Nat.reduceLeDiff,Nat.reduceMul]
    have hf : (combs (l.drop at_) 0).find? (fun s => doE h (c ++ s)) = if doE h c = true then some [] else none := by
      simp only [combs, List.find?_cons, List.find?_nil, List.append_nil]
      cases doE h c <;> rfl
    cases hd : doE h c with
    | true =>
      rw [if_pos hd] at hf
      have := k1 H1 [] hf hg.next (by simpa using hi1)
      unfold doE at hd
      rw [hd]; exact this
    | false =>
      rw [if_neg (by simp [hd])] at hf
      have := k0 H1 hf hg.next hi1
      unfold doE at hd
      rw [hd]; exact this
  | succ r ih =>
    intro at_ c H R hcr hat hcv hi k1 k0
    obtain ⟨vo, e0, hm⟩ := hi.own
    have em : H.get bm = some (.cells false [I many]) := by rw [hi.same _ lt.2.1 (Ne.symm ne.1)]; exact hbx.m
    have hlen : ¬ (c.length : Int) = many := by omega
    refine CallQ_enter (fn:=c104) rfl (Nat.le_of_ble_eq_true rfl) ?_;simp(maxSteps:=9999999)(disch:=first|omega|(simp only[AN];omega))only[c104,envFrom,e0,em,hm.len,hlen,↓KP,EK,↓reduceIte,reduceCtorEq,Nat.reduceEqDiff,Nat.reduceAdd,Nat.reduceLeDiff,Nat.reduceMul]
    refine K_loop (fun mz ez H1 => ∃ (i : Nat) (tail : Env), ez = (0, I at_) :: (1, I (bitsOf c)) :: (2, .ptr bo 0) :: (3, .ptr bm 0) :: (4, .ptr bd 0) :: (5, .ptr bl 0) :: (6, .ptr bn 0) :: (9, .bool false) :: (14, .bool false) :: (10, I i) :: tail ∧ (H.next ≤ H1.next) ∧ (InHand Nf bo c B H1) ∧ (i ≤ l.length) ∧ ((combs (l.drop at_) (r + 1)).find? (fun s => doE h (c ++ s)) = (combs (l.drop i) (r + 1)).find? (fun s => doE h (c ++ s))) ∧ mz = l.length - i) _ ⟨at_, _, rfl, ?_, (by exact hi), ?_, ?_, rfl⟩ ?_
    iterate 3 (focus (first|(with_reducible rfl)|omega|(with_reducible(repeat first|exact Grew.refl _|assumption|apply Grew.alloc|refine Grew.set ?_ _ (by first|omega|(simp only[AN];omega)));done)|(simp(maxSteps:=9999999)(disch:=first|omega|(simp only[AN];omega))only[↓KP,EK,↓reduceIte,reduceCtorEq,Nat.reduceEqDiff,Nat.reduceAdd,Nat.reduceLeDiff,Nat.reduceMul]<;>first|omega|rfl)|(simp;done)|rfl))
    rintro mz ez H1 ⟨i, tail, rfl, hn1, hi1, hil, hfi, hmz⟩; subst mz
    obtain ⟨vo, e0, hm⟩ := hi1.own
    have hN := hi1.next
    have el : H1.get bl = some (.cells false [vl]) := by rw [hi1.same _ lt.2.2.2.1 (Ne.symm ne.2.2.1)]; exact hbx.l
    have en : H1.get bn = some (.cells false [.func 104 [] [.ptr bo 0, .ptr bm 0, .ptr bd 0, .ptr bl 0, .ptr bn 0]]) := by rw [hi1.same _ lt.2.2.2.2.1 (Ne.symm ne.2.2.2.1)]; exact hbx.n
    have hl1 : IsInts (Old H1) H1 vl l := hl.move EInt.stays fun b hb => ⟨by show b < H1.next; omega, hi1.same b hb.1 hb.2⟩
    simp(maxSteps:=9999999)(disch:=first|omega|(simp only[AN];omega))only[el,hl1.len,↓KP,EK,↓reduceIte,reduceCtorEq,Nat.reduceEqDiff,Nat.reduceAdd,Nat.reduceLeDiff,Nat.reduceMul]
    refine C_decide (fun hc => ?_) (fun hc => ?_)
    · have hi' : i < l.length := by omega
      obtain ⟨qb, qi, qro, qvs, qx, ⟨qlt, qne⟩, qy, qz⟩ := IsInts.at_ hl hi'
      have q : (∀ S, opIdxSl 1 vl (.int .i64 (i : Int)) S = some (.ptr qb qi, S)) ∧ H1.get qb = some (.cells qro qvs) ∧ qvs[qi]? = some (I l[i]) := ⟨qx, (hi1.same _ qlt qne).trans qy, qz⟩
      have hv := hlv _ (List.getElem_mem hi')
      obtain ⟨vb, H2, b1, b2, b3, b4⟩ := hm.push (bytes := 8) (cs := [I l[i]]) (a := l[i]) (F := fun _ => False) EInt.stays hN rfl (fun _ h => h.elim) rfl rfl (by omega)
      have e1 : IntKind.i64.wrap ((i : Int) + 1) = ((i + 1 : Nat) : Int) := i64_in _ (by omega)
      have s1 := shl_one l[i] (by omega)
      have hbl := bitsOf_lt hcv
      have hpl : 2 ^ l[i].toNat < 4096 := by
        have : 2 ^ l[i].toNat < 2 ^ 12 := Nat.pow_lt_pow_right (by omega) (by omega)
        omega
      have s2 := or_nat (bitsOf c) (2 ^ l[i].toNat) (by omega) (by omega)
      rw [← bitsOf_snoc] at s2
      simp(maxSteps:=9999999)(disch:=first|omega|(simp only[AN];omega))only[↓KP,EK,↓reduceIte,reduceCtorEq,Nat.reduceEqDiff,Nat.reduceAdd,Nat.reduceLeDiff,Nat.reduceMul]
      refine K_draw ?_;simp(maxSteps:=9999999)(disch:=first|omega|(simp only[AN];omega))only[e0,el,q,b1,b2.cells?,b2.isCell,b4,↓KP,EK,↓reduceIte,reduceCtorEq,Nat.reduceEqDiff,Nat.reduceAdd,Nat.reduceLeDiff,Nat.reduceMul]
      have hi3 : InHand Nf bo (c ++ [l[i]]) B (H2.set bo (.cells false [vb])) := ⟨by show Nf ≤ H2.next; omega, fun b h1 h2 => by rw [get_set_other h2, b4 b h1, hi1.same b h1 h2], vb, get_set_same _ _ _, b2.move EInt.stays (fun k hk hk' => get_set_other (by rcases hk' with h | h; exact h.elim; omega)) (Nat.le_refl _)⟩
      have hsplit : (combs (l.drop i) (r + 1)).find? (fun s => doE h (c ++ s)) = (((combs (l.drop (i + 1)) r).find? (fun s => doE h (c ++ [l[i]] ++ s))).map (l[i] :: ·)).or ((combs (l.drop (i + 1)) (r + 1)).find? (fun s => doE h (c ++ s))) := by
        rw [List.drop_eq_getElem_cons hi', combs, List.find?_append, List.find?_map]
        simp only [Function.comp_def, List.append_assoc, List.singleton_append]
      refine K_draw ?_;simp(maxSteps:=9999999)(disch:=first|omega|(simp only[AN];omega))only[en,b4,el,q,e1,s1,s2,↓KP,EK,↓reduceIte,reduceCtorEq,Nat.reduceEqDiff,Nat.reduceAdd,Nat.reduceLeDiff,Nat.reduceMul]
      refine C_calld (ih (i + 1) (c ++ [l[i]]) _ _ (by simp; omega) (by omega) (fun v hv' => ?_) hi3 (fun H4 s hs hn4 hi4 => ?_) (fun H4 hs hn4 hi4 => ?_))
      · rcases List.mem_append.1 hv' with h | h
        · exact hcv v h
        · simp only [List.mem_singleton] at h; subst h; exact hv
      · have hn4' : H2.next ≤ H4.next := hn4
        simp(maxSteps:=9999999)(disch:=first|omega|(simp only[AN];omega))only[↓KP,EK,↓reduceIte,reduceCtorEq,Nat.reduceEqDiff,Nat.reduceAdd,Nat.reduceLeDiff,Nat.reduceMul]
        refine k1 _ (l[i] :: s) ?_ (by omega) ?_
        · rw [hfi, hsplit, hs]; rfl
        · simpa using hi4
      · have hn4' : H2.next ≤ H4.next := hn4
        obtain ⟨v4, f0, f1⟩ := hi4.own
        obtain ⟨v5, g1, g2⟩ := f1.front (n := (c.length : Int)) (k := c.length) rfl (by simp)
        have e5 : IntKind.i64.wrap (((c ++ [l[i]]).length : Int) - 1) = (c.length : Int) := by rw [i64_in _ (by simp; omega)]; simp
        rw [List.take_left] at g2
        simp(maxSteps:=9999999)(disch:=first|omega|(simp only[AN];omega))only[f0,f1.len,e5,g1,g2.cells?,g2.isCell,e1,↓KP,EK,↓reduceIte,reduceCtorEq,Nat.reduceEqDiff,Nat.reduceAdd,Nat.reduceLeDiff,Nat.reduceMul]
        have hi5 : InHand Nf bo c B (H4.set bo (.cells false [v5])) := ⟨hi4.next, fun b h1 h2 => by rw [get_set_other h2, hi4.same b h1 h2], v5, get_set_same _ _ _, g2.move EInt.stays (fun k hk hk' => get_set_other (by rcases hk' with h | h; exact h.elim; omega)) (Nat.le_refl _)⟩
        refine ⟨_, ?_, i + 1, _, rfl, ?_, (by exact hi5), ?_, (by rw [hfi, hsplit, hs]; rfl), rfl⟩ <;> (first|omega|(with_reducible assumption)|(with_reducible(repeat first|exact Grew.refl _|assumption|apply Grew.alloc|refine Grew.set ?_ _ (by first|omega|(simp only[AN];omega)));done)|(simp(maxSteps:=9999999)(disch:=first|omega|(simp only[AN];omega))only[↓KP,EK,↓reduceIte,reduceCtorEq,Nat.reduceEqDiff,Nat.reduceAdd,Nat.reduceLeDiff,Nat.reduceMul]<;>first|omega|rfl))
    · have hie : i = l.length := by omega
      subst hie
      have hnone : (combs (l.drop l.length) (r + 1)).find? (fun s => doE h (c ++ s)) = none := by
        rw [List.drop_length]; rfl
      simp(maxSteps:=9999999)(disch:=first|omega|(simp only[AN];omega))only[↓KP,EK,↓reduceIte,reduceCtorEq,Nat.reduceEqDiff,Nat.reduceAdd,Nat.reduceLeDiff,Nat.reduceMul]
      exact k0 _ (hfi.trans hnone) hn1 hi1
theorem first_run (bc many : Nat) (vl v1 v2 : AV) (h : House) (l : List Int) (hb : H.get bc = some (.cells false [v1, v2])) (hbl : bc < H.next) (hh : IsHouse (Old H) H v1 v2 h) (hl : IsInts (Old H) H vl l) (hfine : Fine h)
    (hlv : ∀ v ∈ l, 0 ≤ v ∧ v < 12) (hll : l.length ≤ 12) (hmany : many ≤ 12)
    (k1 : ∀ H' v s, many ≠ 0 → (combs l many).find? (doE h) = some s → Grew H H' → v ≠ .nilslice → IsInts (Old H') H' v s → R v H') (k0 : (many = 0 ∨ (combs l many).find? (doE h) = none) → ∀ H', Grew H H' → R .nilslice H') :
    CallQ prog (.func 79 [] []) [vl, I many, .func 80 [] [.ptr bc 0]] H R := by
  have hg0 : ∀ o1 o2 o3 o4 o5 o6, Grew H ((((((H.alloc o1).alloc o2).alloc o3).alloc o4).alloc o5).set (H.next + 4) o6) := fun o1 o2 o3 o4 o5 o6 => GW
  by_cases hm : (many : Int) = 0
  · refine CallQ_enter (fn:=c79) rfl (Nat.le_of_ble_eq_true rfl) ?_;simp(maxSteps:=9999999)(disch:=first|omega|(simp only[AN];omega))only[c79,envFrom,hm,hl.cells?,hl.isCell,opBox,↓KP,EK,↓reduceIte,reduceCtorEq,Nat.reduceEqDiff,Nat.reduceAdd,Nat.reduceLeDiff,Nat.reduceMul]
    exact k0 (.inl (by omega)) _ (hg0 _ _ _ _ _ _)
  · refine CallQ_enter (fn:=c79) rfl (Nat.le_of_ble_eq_true rfl) ?_;simp(maxSteps:=9999999)(disch:=first|omega|(simp only[AN];omega))only[c79,envFrom,hm,hl.cells?,hl.isCell,opBox,↓KP,EK,↓reduceIte,reduceCtorEq,Nat.reduceEqDiff,Nat.reduceAdd,Nat.reduceLeDiff,Nat.reduceMul]
    have hg := hg0 (.cells false [vl]) (.cells false [I many]) (.cells false [.func 80 [] [.ptr bc 0]]) (.cells false [.nilslice]) (.cells false [.nilfunc]) (.cells false [.func 104 [] [.ptr (H.next + 1 + 1 + 1) 0, .ptr (H.next + 1) 0, .ptr (H.next + 1 + 1) 0, .ptr H.next 0, .ptr (H.next + 1 + 1 + 1 + 1) 0]])
    generalize hB : (((((H.alloc (.cells false [vl])).alloc (.cells false [I many])).alloc (.cells false [.func 80 [] [.ptr bc 0]])).alloc (.cells false [.nilslice])).alloc (.cells false [.nilfunc])).set (H.next + 4) (.cells false [.func 104 [] [.ptr (H.next + 1 + 1 + 1) 0, .ptr (H.next + 1) 0, .ptr (H.next + 1 + 1) 0, .ptr H.next 0, .ptr (H.next + 1 + 1 + 1 + 1) 0]]) = B at hg
    have hBn : B.next = H.next + 5 := by rw [← hB]; rfl
    have hbx : Boxes (H.next + 5) (H.next + 1 + 1 + 1) (H.next + 1) (H.next + 1 + 1) H.next (H.next + 1 + 1 + 1 + 1) bc vl v1 v2 many B :=
      ⟨by rw [← hB]; simp(maxSteps:=9999999)(disch:=first|omega|(simp only[AN];omega))only[↓KP,EK,↓reduceIte,reduceCtorEq,Nat.reduceEqDiff,Nat.reduceAdd,Nat.reduceLeDiff,Nat.reduceMul], by rw [← hB]; simp(maxSteps:=9999999)(disch:=first|omega|(simp only[AN];omega))only[↓KP,EK,↓reduceIte,reduceCtorEq,Nat.reduceEqDiff,Nat.reduceAdd,Nat.reduceLeDiff,Nat.reduceMul], by rw [← hB]; simp(maxSteps:=9999999)(disch:=first|omega|(simp only[AN];omega))only[↓KP,EK,↓reduceIte,reduceCtorEq,Nat.reduceEqDiff,Nat.reduceAdd,Nat.reduceLeDiff,Nat.reduceMul], by rw [← hB]; simp(maxSteps:=9999999)(disch:=first|omega|(simp only[AN];omega))only[↓KP,EK,↓reduceIte,reduceCtorEq,Nat.reduceEqDiff,Nat.reduceAdd,Nat.reduceLeDiff,Nat.reduceMul], by rw [hg.get _ hbl]; exact hb, by omega, by omega⟩
    have hi0 : InHand (H.next + 5) (H.next + 1 + 1 + 1) [] B B := ⟨by omega, fun _ _ _ => rfl, .nilslice, by rw [← hB]; simp(maxSteps:=9999999)(disch:=first|omega|(simp only[AN];omega))only[↓KP,EK,↓reduceIte,reduceCtorEq,Nat.reduceEqDiff,Nat.reduceAdd,Nat.reduceLeDiff,Nat.reduceMul], Mine.nil⟩
    have hmove : ∀ b, b < H.next → (b < H.next + 5 ∧ b ≠ H.next + 1 + 1 + 1) ∧ B.get b = H.get b := fun b hb => ⟨by omega, hg.get b hb⟩
    refine C_call (nxt_run hbx hfine (hh.move hmove) (hl.move EInt.stays hmove) hlv hll hmany many 0 [] B _ (by simp) (by omega) (by simp) hi0 (fun H1 s hs hn1 hi1 => ?_) (fun H1 hs hn1 hi1 => ?_))
    · obtain ⟨vo, e0, hm1⟩ := hi1.own
      have hsl := (combs_mem (List.mem_of_find?_eq_some hs)).1
      simp(maxSteps:=9999999)(disch:=first|omega|(simp only[AN];omega))only[e0,↓KP,EK,↓reduceIte,reduceCtorEq,Nat.reduceEqDiff,Nat.reduceAdd,Nat.reduceLeDiff,Nat.reduceMul]
      refine k1 H1 vo s (by omega) (by simpa using hs) ⟨by omega, fun b hb => by rw [hi1.same b (by omega) (by omega), hg.get b hb]⟩ (fun e => ?_) (by simpa using hm1.sl EInt.stays)
      subst e
      have := hm1.len H1
      simp only [List.nil_append] at this
      have h0 : opLen false .nilslice H1 = some (.int .i64 0, H1) := rfl
      rw [h0] at this
      simp only [Option.some.injEq, Prod.mk.injEq, AV.int.injEq, true_and, and_true] at this
      omega
    · simp(maxSteps:=9999999)(disch:=first|omega|(simp only[AN];omega))only[↓KP,EK,↓reduceIte,reduceCtorEq,Nat.reduceEqDiff,Nat.reduceAdd,Nat.reduceLeDiff,Nat.reduceMul]
      exact k0 (.inr (by simpa using hs)) _ ⟨by omega, fun b hb => by rw [hi1.same b (by omega) (by omega), hg.get b hb]⟩
end Go.Proofs.Ytgncpbkedhchfaa
namespace Go.Proofs.Ytgncpbkedhchfaa
open Go.AM Go.IntWalk
set_option maxRecDepth 100000
set_option maxHeartbeats 4000000
set_option linter.unusedSimpArgs false
variable {H : AH} {R : AV → AH → Prop}
theorem repeatL_length (n : Nat) : (repeatL [I 0] n).length = n := by
  induction n with
  | zero => rfl
  | succ n ih => simp [repeatL, ih]
theorem write_all : ∀ (vs xs : List AV), vs.length = xs.length → writeN vs 0 xs = some xs
  | [], [], _ => rfl
  | v :: vs, x :: xs, h => by
    simp only [writeN, write_all vs xs (by simpa using h), Option.map_some]
  | [], _ :: _, h => by simp at h
  | _ :: _, [], h => by simp at h
theorem rows_ints : ∀ {cells : List AV} {l : List Int} {F : Nat → Prop} {H : AH}, Go.AM.Rows 1 (EInt F H) cells l → cells = l.map I
  | _, _, _, _, .nil => rfl
  | _, _, _, _, .cons hz h t => by rw [h, rows_ints t]; rfl
theorem ints_rows {F : Nat → Prop} {H : AH} : ∀ (l : List Int), Go.AM.Rows 1 (EInt F H) (l.map I) l
  | [] => .nil
  | x :: l => .cons (cs := [I x]) rfl rfl (ints_rows l)
theorem make_copy {S : AH} {v : AV} {l : List Int} (hv : IsInts (Old S) S v l) (hl : l.length ≤ 1000) :
    opMakeSlice 1 8 [I 0] (I l.length) (I l.length) S = some (.slice S.next 0 l.length 1, S.alloc (.cells false (repeatL [I 0] l.length))) ∧
    copyA (S.alloc (.cells false (repeatL [I 0] l.length))) 1 (.slice S.next 0 l.length 1) v = some (I l.length, (S.alloc (.cells false (repeatL [I 0] l.length))).set S.next (.cells false (l.map I))) ∧
    IsInts (Old ((S.alloc (.cells false (repeatL [I 0] l.length))).set S.next (.cells false (l.map I)))) ((S.alloc (.cells false (repeatL [I 0] l.length))).set S.next (.cells false (l.map I))) (.slice S.next 0 l.length 1) l := by
  refine ⟨?_, ?_, ?_⟩
  · have h1 : l.length ≤ roomA ∧ 8 * l.length ≤ roomA := by unfold roomA; omega
    simp [opMakeSlice, natOf, h1]
  · obtain ⟨cells, h1, h2⟩ := (hv.grow EInt.stays ((Grew.refl S).alloc (.cells false (repeatL [I 0] l.length)))).src
    have h3 := rows_ints h2
    subst h3
    have hc : (l.map I).all AV.isCell = true := by simp [I, AV.isCell]
    have h4 : AM.lenA (.slice S.next 0 l.length 1) = some l.length := rfl
    simp only [copyA, hv.lenA, h4, Nat.min_self, copyN, h1, AH.write, get_alloc_new, write_all _ _ (show (repeatL [I 0] l.length).length = (l.map I).length by rw [repeatL_length, List.length_map]), hc, if_true]
  · refine .inr ⟨S.next, 0, l.map I, rfl, (by show S.next < S.next + 1; omega), ?_, ints_rows l⟩
    unfold AH.read
    rw [get_set_same]
    simp only [readN, Nat.zero_add, List.length_map, Nat.mul_one, Nat.le_refl, if_true, List.drop_zero]
    rw [List.take_of_length_le (by simp)]
theorem countsE_in {h : House} (hf : Fine h) : ∀ v ∈ countsE h, 0 ≤ v ∧ v < 12 := by
  intro v hv
  simp only [countsE, countsTo, cntRow, List.mem_flatMap, List.mem_range, List.mem_filterMap] at hv
  obtain ⟨d, hd, w, hw, hh⟩ := hv
  split at hh
  · simp only [Option.some.injEq] at hh
    have h3 := hf.ws
    have h4 := hf.days
    have h5 : (d : Int) * h.ws.length ≤ 3 * h.ws.length := Int.mul_le_mul_of_nonneg_right (by omega) (by omega)
    have h6 : 0 ≤ (d : Int) * h.ws.length := Int.mul_nonneg (by omega) (by omega)
    omega
  · cases hh
def pWrongList (h : House) : List Int := (((List.range ((countsE h).length + 1)).flatMap (combs (countsE h))).find? (doE h)).getD (countsE h)
theorem Wrong_run' (v1 v2 : AV) (h : House) (hh : IsHouse (Old H) H v1 v2 h)
    (k : ∀ H' v, Grew H H' → IsInts (Old H') H' v (if errE h ≠ 0 then [] else pWrongList h) → R (.tuple [v, I (errE h)]) H') : CallQ prog (.func 29 [] []) [.agg [v1, v2]] H R := by
  refine CallQ_enter (fn:=c29) rfl (Nat.le_of_ble_eq_true rfl) ?_;simp(maxSteps:=9999999)(disch:=first|omega|(simp only[AN];omega))only[c29,envFrom,↓KP,EK,↓reduceIte,reduceCtorEq,Nat.reduceEqDiff,Nat.reduceAdd,Nat.reduceLeDiff,Nat.reduceMul]
  refine C_call (Check_run v1 v2 h (hh.grow GW) fun H1 hg1 => ?_)
  have hg1' : Grew H H1 := ((Grew.refl H).alloc _).trans hg1
  have hg1n := hg1.next; simp only [AH.next_alloc] at hg1n
  have hbox1 : H1.get H.next = some (.cells false [v1, v2]) := by simp(maxSteps:=9999999)(disch:=first|omega|(simp only[AN];omega))only[hg1.get,↓KP,EK,↓reduceIte,reduceCtorEq,Nat.reduceEqDiff,Nat.reduceAdd,Nat.reduceLeDiff,Nat.reduceMul]
  by_cases he : (checkE h).2.2 = 0
  · have he' : errE h = 0 := he
    have hfine := fine_of he'
    rw [if_neg (by omega), he'] at k
    have hd4 := hfine.days
    have hw3 := hfine.ws
    simp(maxSteps:=9999999)(disch:=first|omega|(simp only[AN];omega))only[he,hbox1,hh.2.len,↓KP,EK,↓reduceIte,reduceCtorEq,Nat.reduceEqDiff,Nat.reduceAdd,Nat.reduceLeDiff,Nat.reduceMul]
    refine K_loop (fun mz ez H2 => ∃ (d : Nat) (v4 : AV) (tail : Env), ez = (0, .agg [v1, v2]) :: (1, .ptr H.next 0) :: (2, .nilslice) :: (3, I 0) :: (19, .bool false) :: (4, v4) :: (22, v2) :: (23, I h.days.length) :: (24, I d) :: tail ∧ (Grew H1 H2) ∧ (Mine 1 EInt (fun _ => False) H1.next H2 v4 (countsTo h d)) ∧ (d ≤ h.days.length) ∧ mz = h.days.length - d) _ ⟨0, .nilslice, _, rfl, ?_, (by exact Mine.nil), ?_, rfl⟩ ?_
    iterate 2 (focus (first|(with_reducible rfl)|omega|(with_reducible(repeat first|exact Grew.refl _|assumption|apply Grew.alloc|refine Grew.set ?_ _ (by first|omega|(simp only[AN];omega)));done)|(simp(maxSteps:=9999999)(disch:=first|omega|(simp only[AN];omega))only[↓KP,EK,↓reduceIte,reduceCtorEq,Nat.reduceEqDiff,Nat.reduceAdd,Nat.reduceLeDiff,Nat.reduceMul]<;>first|omega|rfl)|(simp;done)|rfl))
    rintro mz ez H2 ⟨d, v4, tail, rfl, hG, hv4, hd, hmz⟩; subst mz; have hGn := hG.next
    have hg2' := hg1'.trans hG
    simp(maxSteps:=9999999)(disch:=first|omega|(simp only[AN];omega))only[↓KP,EK,↓reduceIte,reduceCtorEq,Nat.reduceEqDiff,Nat.reduceAdd,Nat.reduceLeDiff,Nat.reduceMul]
    refine C_decide (fun hc => ?_) (fun hc => ?_)
    · have hd' : d < h.days.length := by omega
      have hlen := hfine.len _ (List.getElem_mem hd')
      have hgd : h.days.getD d [] = h.days[d] := getD_eq hd'
      have hcl := countsTo_length hfine d
      obtain ⟨p_b, p_i, p_ro, p_vs, vo, p_lt, hvo, p⟩ := hh.2.rdSl rfl hd'
      simp(maxSteps:=9999999)(disch:=first|omega|(simp only[AN];omega))only[hG.get,hg1.get,p,hvo.len,↓KP,EK,↓reduceIte,reduceCtorEq,Nat.reduceEqDiff,Nat.reduceAdd,Nat.reduceLeDiff,Nat.reduceMul]
      refine K_loop (fun mz ez H3 => ∃ (w : Nat) (v4 : AV) (tail : Env), ez = (0, .agg [v1, v2]) :: (1, .ptr H.next 0) :: (2, .nilslice) :: (3, I 0) :: (19, .bool false) :: (4, v4) :: (22, v2) :: (23, I h.days.length) :: (24, I d) :: tail ∧ (tail.get 5 = some (I d)) ∧ (tail.get 29 = some vo) ∧ (tail.get 30 = some (I h.days[d].length)) ∧ (tail.get 31 = some (I w)) ∧ (Grew H1 H3) ∧ (Mine 1 EInt (fun _ => False) H1.next H3 v4 (countsTo h d ++ cntRow h d w)) ∧ (w ≤ h.ws.length) ∧ mz = h.ws.length - w) _ ⟨0, v4, _, rfl, ?_, ?_, ?_, ?_, ?_, (by simpa [cntRow] using hv4), ?_, rfl⟩ ?_
      iterate 6 (focus (first|(with_reducible rfl)|omega|(with_reducible(repeat first|exact Grew.refl _|assumption|apply Grew.alloc|refine Grew.set ?_ _ (by first|omega|(simp only[AN];omega)));done)|(simp(maxSteps:=9999999)(disch:=first|omega|(simp only[AN];omega))only[↓KP,EK,↓reduceIte,reduceCtorEq,Nat.reduceEqDiff,Nat.reduceAdd,Nat.reduceLeDiff,Nat.reduceMul]<;>first|omega|rfl)|(simp;done)|rfl))
      rintro mz ez H3 ⟨w, v4, tail, rfl, t5, t29, t30, t31, hG3, hv4, hw, hmz⟩; subst mz; have hG3n := hG3.next
      simp(maxSteps:=9999999)(disch:=first|omega|(simp only[AN];omega))only[t30,t31,hlen,↓KP,EK,↓reduceIte,reduceCtorEq,Nat.reduceEqDiff,Nat.reduceAdd,Nat.reduceLeDiff,Nat.reduceMul]
      refine C_decide (fun hc2 => ?_) (fun hc2 => ?_)
      · have hw' : w < h.ws.length := by omega
        obtain ⟨q_b, q_i, q_ro, q_vs, q_lt, q⟩ := hvo.rdInt (k := w) rfl (by omega)
        have hgi : getI (h.days.getD d []) w = h.days[d][w] := by rw [hgd, getI_eq]
        have hrl := cntRow_length (h := h) (d := d) (m := w)
        have e1 : IntKind.i64.wrap ((w : Int) + 1) = ((w + 1 : Nat) : Int) := i64_in _ (by omega)
        have hmul : (d : Int) * h.ws.length ≤ 4 * 3 := Int.mul_le_mul (by omega) (by omega) (by omega) (by omega)
        have hmul0 : 0 ≤ (d : Int) * h.ws.length := Int.mul_nonneg (by omega) (by omega)
        have e2 : IntKind.i64.wrap ((d : Int) * h.ws.length) = (d : Int) * h.ws.length := i64_in _ (by omega)
        have e3 : IntKind.i64.wrap ((d : Int) * h.ws.length + w) = (d : Int) * h.ws.length + w := i64_in _ (by omega)
        by_cases hn : h.days[d][w] = -1
        · simp(maxSteps:=9999999)(disch:=first|omega|(simp only[AN];omega))only[t5,t29,t31,hG3.get,hg1.get,q,hn,e1,↓KP,EK,↓reduceIte,reduceCtorEq,Nat.reduceEqDiff,Nat.reduceAdd,Nat.reduceLeDiff,Nat.reduceMul]
          refine ⟨_, ?_, w + 1, v4, _, rfl, ?_, ?_, ?_, ?_, ?_, (by rw [cntRow_succ, hgi, hn]; simpa using hv4), ?_, rfl⟩ <;> (first|omega|(with_reducible assumption)|(with_reducible(repeat first|exact Grew.refl _|assumption|apply Grew.alloc|refine Grew.set ?_ _ (by first|omega|(simp only[AN];omega)));done)|(simp(maxSteps:=9999999)(disch:=first|omega|(simp only[AN];omega))only[t5,t29,t30,t31,hlen,↓KP,EK,↓reduceIte,reduceCtorEq,Nat.reduceEqDiff,Nat.reduceAdd,Nat.reduceLeDiff,Nat.reduceMul]<;>first|omega|rfl))
        · obtain ⟨vb, H5, b1, b2, b3, b4⟩ := hv4.push (bytes := 8) (cs := [I ((d : Int) * h.ws.length + w)]) (a := (d : Int) * h.ws.length + w) (F := fun _ => False) EInt.stays (by omega) rfl (fun _ h => h.elim) rfl rfl (by simp only [List.length_append]; omega)
          simp(maxSteps:=9999999)(disch:=first|omega|(simp only[AN];omega))only[t5,t29,t31,hG3.get,hg1.get,q,hn,e1,e2,e3,hh.1.len,b1,↓KP,EK,↓reduceIte,reduceCtorEq,Nat.reduceEqDiff,Nat.reduceAdd,Nat.reduceLeDiff,Nat.reduceMul]
          refine ⟨_, ?_, w + 1, vb, _, rfl, ?_, ?_, ?_, ?_, (by exact ⟨by omega, fun b hb => by simp(maxSteps:=9999999)(disch:=first|omega|(simp only[AN];omega))only[b4,hG3.get,↓KP,EK,↓reduceIte,reduceCtorEq,Nat.reduceEqDiff,Nat.reduceAdd,Nat.reduceLeDiff,Nat.reduceMul]⟩), (by rw [cntRow_succ, hgi, if_pos hn, ← List.append_assoc]; exact b2), ?_, rfl⟩ <;> (first|omega|(with_reducible assumption)|(with_reducible(repeat first|exact Grew.refl _|assumption|apply Grew.alloc|refine Grew.set ?_ _ (by first|omega|(simp only[AN];omega)));done)|(simp(maxSteps:=9999999)(disch:=first|omega|(simp only[AN];omega))only[t5,t29,t30,t31,hlen,↓KP,EK,↓reduceIte,reduceCtorEq,Nat.reduceEqDiff,Nat.reduceAdd,Nat.reduceLeDiff,Nat.reduceMul]<;>first|omega|rfl))
      · have e1 : IntKind.i64.wrap ((d : Int) + 1) = ((d + 1 : Nat) : Int) := i64_in _ (by omega)
        have hwe : w = h.ws.length := by omega
        subst hwe
        simp(maxSteps:=9999999)(disch:=first|omega|(simp only[AN];omega))only[e1,↓KP,EK,↓reduceIte,reduceCtorEq,Nat.reduceEqDiff,Nat.reduceAdd,Nat.reduceLeDiff,Nat.reduceMul]
        refine ⟨_, ?_, d + 1, v4, _, rfl, (by exact hG3), (by rw [countsTo_succ]; exact hv4), ?_, rfl⟩ <;> (first|omega|(with_reducible assumption)|(with_reducible(repeat first|exact Grew.refl _|assumption|apply Grew.alloc|refine Grew.set ?_ _ (by first|omega|(simp only[AN];omega)));done)|(simp(maxSteps:=9999999)(disch:=first|omega|(simp only[AN];omega))only[↓KP,EK,↓reduceIte,reduceCtorEq,Nat.reduceEqDiff,Nat.reduceAdd,Nat.reduceLeDiff,Nat.reduceMul]<;>first|omega|rfl))
    · have hde : d = h.days.length := by omega
      subst hde
      have hcl := countsE_length hfine
      obtain ⟨m1, m2, m3⟩ := make_copy (hv4.sl EInt.stays) (show (countsTo h h.days.length).length ≤ 1000 by have : (countsE h).length = (countsTo h h.days.length).length := rfl; omega)
      rw [show countsTo h h.days.length = countsE h from rfl] at m1 m2 m3
      have hv4l := hv4.len
      rw [show countsTo h h.days.length = countsE h from rfl] at hv4l
      have hin := countsE_in hfine
      have e0 : IntKind.i64.wrap (((countsE h).length : Int) + 1) = (((countsE h).length + 1 : Nat) : Int) := i64_in _ (by omega)
      have hg3 : Grew H ((H2.alloc (.cells false (repeatL [I 0] (countsE h).length))).set H2.next (.cells false ((countsE h).map I))) := GW
      have hbox3 : ((H2.alloc (.cells false (repeatL [I 0] (countsE h).length))).set H2.next (.cells false ((countsE h).map I))).get H.next = some (.cells false [v1, v2]) := by simp(maxSteps:=9999999)(disch:=first|omega|(simp only[AN];omega))only[hG.get,hg1.get,↓KP,EK,↓reduceIte,reduceCtorEq,Nat.reduceEqDiff,Nat.reduceAdd,Nat.reduceLeDiff,Nat.reduceMul]
      have hn3 : ((H2.alloc (.cells false (repeatL [I 0] (countsE h).length))).set H2.next (.cells false ((countsE h).map I))).next = H2.next + 1 := rfl
      simp(maxSteps:=9999999)(disch:=first|omega|(simp only[AN];omega))only[hv4l,m1,m2,e0,m3.len,↓KP,EK,↓reduceIte,reduceCtorEq,Nat.reduceEqDiff,Nat.reduceAdd,Nat.reduceLeDiff,Nat.reduceMul]
      generalize (H2.alloc (.cells false (repeatL [I 0] (countsE h).length))).set H2.next (.cells false ((countsE h).map I)) = H3 at m3 hg3 hbox3 hn3
      have hfind : ∀ (m : Nat) (s : List Int), m < (countsE h).length + 1 → (∀ x ∈ (List.range m).flatMap (combs (countsE h)), doE h x = false) → (combs (countsE h) m).find? (doE h) = some s → pWrongList h = s := fun m s hm hno hs => by
        obtain ⟨_, as, bs, e1, e2⟩ := List.find?_eq_some_iff_append.1 hs
        have hi : as.length < (combs (countsE h) m).length := by rw [e1]; simp
        have := find_here (f := combs (countsE h)) (p := doE h) (i := as.length) hm hi hno (by rw [e1, List.take_left]; intro x hx; simpa using e2 x hx) (by simp only [e1, List.getElem_append_right (Nat.le_refl _), Nat.sub_self, List.getElem_cons_zero]; exact List.find?_some hs)
        rw [pWrongList, this]
        simp only [e1, List.getElem_append_right (Nat.le_refl _), Nat.sub_self, List.getElem_cons_zero, Option.getD_some]
      have hnil : butE h [] = h := by rw [← lookE_bits (by simp)]; exact lookE_zero h
      refine K_loop (fun mz ez H4 => ∃ (m : Nat) (tail : Env), ez = (0, .agg [v1, v2]) :: (1, .ptr H.next 0) :: (2, .nilslice) :: (3, I 0) :: (19, .bool false) :: (4, v4) :: (22, v2) :: (23, I h.days.length) :: (24, I h.days.length) :: tail ∧ (tail.get 9 = some (.slice H2.next 0 (countsE h).length 1)) ∧ (tail.get 58 = some (I ((countsE h).length + 1 : Nat))) ∧ (tail.get 59 = some (I m)) ∧ (Grew H3 H4) ∧ (m ≤ (countsE h).length + 1) ∧ (∀ x ∈ (List.range m).flatMap (combs (countsE h)), doE h x = false) ∧ mz = (countsE h).length + 1 - m) _ ⟨0, _, rfl, ?_, ?_, ?_, ?_, ?_, (by simp), rfl⟩ ?_
      iterate 5 (focus (first|(with_reducible rfl)|omega|(with_reducible(repeat first|exact Grew.refl _|assumption|apply Grew.alloc|refine Grew.set ?_ _ (by first|omega|(simp only[AN];omega)));done)|(simp(maxSteps:=9999999)(disch:=first|omega|(simp only[AN];omega))only[↓KP,EK,↓reduceIte,reduceCtorEq,Nat.reduceEqDiff,Nat.reduceAdd,Nat.reduceLeDiff,Nat.reduceMul]<;>first|omega|rfl)|(simp;done)|rfl))
      rintro mz ez H4 ⟨m, tail, rfl, t9, t58, t59, hG4, hm, hno, hmz⟩; subst mz; have hG4n := hG4.next
      have hg4 := hg3.trans hG4
      have hbox4 : H4.get H.next = some (.cells false [v1, v2]) := by simp(maxSteps:=9999999)(disch:=first|omega|(simp only[AN];omega))only[hG4.get,hbox3,↓KP,EK,↓reduceIte,reduceCtorEq,Nat.reduceEqDiff,Nat.reduceAdd,Nat.reduceLeDiff,Nat.reduceMul]
      have e1 : IntKind.i64.wrap ((m : Int) + 1) = ((m + 1 : Nat) : Int) := i64_in _ (by omega)
      simp(maxSteps:=9999999)(disch:=first|omega|(simp only[AN];omega))only[t58,t59,↓KP,EK,↓reduceIte,reduceCtorEq,Nat.reduceEqDiff,Nat.reduceAdd,Nat.reduceLeDiff,Nat.reduceMul]
      refine C_decide (fun hc3 => ?_) (fun hc3 => ?_)
      · simp(maxSteps:=9999999)(disch:=first|omega|(simp only[AN];omega))only[t9,t59,↓KP,EK,↓reduceIte,reduceCtorEq,Nat.reduceEqDiff,Nat.reduceAdd,Nat.reduceLeDiff,Nat.reduceMul]
        refine C_call (first_run H.next m _ v1 v2 h (countsE h) hbox4 (by omega) (hh.grow hg4) (m3.grow EInt.stays hG4) hfine hin (by omega) (by omega) (fun H5 v s hm0 hs hg5 hvn hvs => ?_) (fun hor H5 hg5 => ?_))
        · have hw := hfind m s (by omega) hno hs
          have hx : eqNilA .slice v .nilslice = some false := by
            rcases hvs with ⟨rfl, _⟩ | ⟨b, i, cells, rfl, _⟩
            · exact absurd rfl hvn
            · rfl
          rw [hw] at k
          simp(maxSteps:=9999999)(disch:=first|omega|(simp only[AN];omega))only[hx,↓KP,EK,↓reduceIte,reduceCtorEq,Nat.reduceEqDiff,Nat.reduceAdd,Nat.reduceLeDiff,Nat.reduceMul]
          exact k _ _ (hg4.trans hg5) hvs
        · have hx : eqNilA .slice .nilslice .nilslice = some true := rfl
          have hg5n := hg5.next
          have hbox5 : H5.get H.next = some (.cells false [v1, v2]) := by simp(maxSteps:=9999999)(disch:=first|omega|(simp only[AN];omega))only[hg5.get,hbox4,↓KP,EK,↓reduceIte,reduceCtorEq,Nat.reduceEqDiff,Nat.reduceAdd,Nat.reduceLeDiff,Nat.reduceMul]
          have hsucc : (combs (countsE h) m).find? (doE h) = none → ∀ x ∈ (List.range (m + 1)).flatMap (combs (countsE h)), doE h x = false := fun hn x hx => by
            rw [List.range_succ, List.flatMap_append] at hx
            rcases List.mem_append.1 hx with h1 | h1
            · exact hno x h1
            · simp only [List.flatMap_cons, List.flatMap_nil, List.append_nil] at h1
              rw [List.find?_eq_none] at hn
              simpa using hn x h1
          by_cases hm0 : (m : Int) = 0
          · have hm0' : m = 0 := by omega
            subst hm0'
            simp(maxSteps:=9999999)(disch:=first|omega|(simp only[AN];omega))only[hx,t59,hm0,hbox5,↓KP,EK,↓reduceIte,reduceCtorEq,Nat.reduceEqDiff,Nat.reduceAdd,Nat.reduceLeDiff,Nat.reduceMul]
            refine C_call (look_run v1 v2 h 0 (hh.grow (hg4.trans hg5)) fun H6 p m hg6 hm6 hheld => ?_)
            have hg6n := hg6.next
            simp(maxSteps:=9999999)(disch:=first|omega|(simp only[AN];omega))only[↓KP,EK,↓reduceIte,reduceCtorEq,Nat.reduceEqDiff,Nat.reduceAdd,Nat.reduceLeDiff,Nat.reduceMul]
            refine C_call (some_run hfine (by omega) hheld fun H7 hg7 _ => ?_)
            have hg7' : Grew H5 H7 := GrewBut.grew hg6 hg7 hm6
            have hg7n := hg7'.next
            rw [lookE_zero]
            by_cases ht : 0 < (truthsE h).length
            · have hd : doE h [] = true := by unfold doE; rw [hnil]; exact decide_eq_true ht
              have hw := hfind 0 [] (by omega) hno (by simp [combs, hd])
              rw [hw] at k
              simp(maxSteps:=9999999)(disch:=first|omega|(simp only[AN];omega))only[ht,↓KP,EK,↓reduceIte,reduceCtorEq,Nat.reduceEqDiff,Nat.reduceAdd,Nat.reduceLeDiff,Nat.reduceMul]
              exact k _ _ ((hg4.trans hg5).trans hg7') (.inl ⟨rfl, rfl⟩)
            · have hd : doE h [] = false := by unfold doE; rw [hnil]; exact decide_eq_false ht
              have hn : (combs (countsE h) 0).find? (doE h) = none := by simp [combs, hd]
              have e1' : IntKind.i64.wrap (0 + 1) = ((0 + 1 : Nat) : Int) := rfl
              simp(maxSteps:=9999999)(disch:=first|omega|(simp only[AN];omega))only[ht,t59,hm0,e1',↓KP,EK,↓reduceIte,reduceCtorEq,Nat.reduceEqDiff,Nat.reduceAdd,Nat.reduceLeDiff,Nat.reduceMul]
              refine ⟨_, ?_, 0 + 1, _, rfl, ?_, ?_, ?_, (by exact (hG4.trans hg5).trans hg7'), ?_, (by exact hsucc hn), rfl⟩ <;> (first|omega|(with_reducible assumption)|(with_reducible(repeat first|exact Grew.refl _|assumption|apply Grew.alloc|refine Grew.set ?_ _ (by first|omega|(simp only[AN];omega))|refine Grew.trans ?_ hg7'|refine Grew.trans ?_ hg5);done)|(simp(maxSteps:=9999999)(disch:=first|omega|(simp only[AN];omega))only[t9,t58,t59,hg7'.get,hg5.get,↓KP,EK,↓reduceIte,reduceCtorEq,Nat.reduceEqDiff,Nat.reduceAdd,Nat.reduceLeDiff,Nat.reduceMul]<;>first|omega|rfl))
          · have hn : (combs (countsE h) m).find? (doE h) = none := hor.resolve_left (by omega)
            simp(maxSteps:=9999999)(disch:=first|omega|(simp only[AN];omega))only[hx,t59,hm0,e1,↓KP,EK,↓reduceIte,reduceCtorEq,Nat.reduceEqDiff,Nat.reduceAdd,Nat.reduceLeDiff,Nat.reduceMul]
            refine ⟨_, ?_, m + 1, _, rfl, ?_, ?_, ?_, (by exact hG4.trans hg5), ?_, (by exact hsucc hn), rfl⟩ <;> (first|omega|(with_reducible assumption)|(with_reducible(repeat first|exact Grew.refl _|assumption|apply Grew.alloc|refine Grew.set ?_ _ (by first|omega|(simp only[AN];omega))|refine Grew.trans ?_ hg5);done)|(simp(maxSteps:=9999999)(disch:=first|omega|(simp only[AN];omega))only[t9,t58,t59,hg5.get,↓KP,EK,↓reduceIte,reduceCtorEq,Nat.reduceEqDiff,Nat.reduceAdd,Nat.reduceLeDiff,Nat.reduceMul]<;>first|omega|rfl))
      · have hme : m = (countsE h).length + 1 := by omega
        subst hme
        have hw : pWrongList h = countsE h := by
          rw [pWrongList, List.find?_eq_none.2 fun x hx => by simp [hno x hx]]; rfl
        rw [hw] at k
        simp(maxSteps:=9999999)(disch:=first|omega|(simp only[AN];omega))only[t9,↓KP,EK,↓reduceIte,reduceCtorEq,Nat.reduceEqDiff,Nat.reduceAdd,Nat.reduceLeDiff,Nat.reduceMul]
        exact k _ _ hg4 (m3.grow EInt.stays hG4)
  · have he' : errE h ≠ 0 := he
    rw [if_pos he'] at k
    simp(maxSteps:=9999999)(disch:=first|omega|(simp only[AN];omega))only[he,↓KP,EK,↓reduceIte,reduceCtorEq,Nat.reduceEqDiff,Nat.reduceAdd,Nat.reduceLeDiff,Nat.reduceMul]
    exact k _ _ hg1' (.inl ⟨rfl, rfl⟩)
theorem combs_map {α β : Type} (f : α → β) : ∀ (l : List α) (r : Nat), combs (l.map f) r = (combs l r).map (List.map f)
  | _, 0 => by simp [combs]
  | [], r + 1 => by simp [combs]
  | x :: l, r + 1 => by
    simp only [List.map_cons, combs, combs_map f l r, combs_map f l (r + 1), List.map_append, List.map_map]
    rfl
def nextOf (a : Int) (o : List Int) : Int := match o.getLast? with
  | some x => x + 1
  | none => a
theorem upTo_cons {a b : Int} (h : a ≤ b) : upTo a b = a :: upTo (a + 1) b := by
  have := upTo_split (lo := a) (f := a) (hi := b) (by omega) h
  rw [upTo_nil] at this
  simpa using this
theorem upTo_none {a b : Int} (h : b < a) : upTo a b = [] := by
  unfold upTo
  rw [show (b + 1 - a).toNat = 0 from by omega]; rfl
theorem flatMap_same {α β : Type} {f g : α → List β} : ∀ {l : List α}, (∀ x ∈ l, f x = g x) → l.flatMap f = l.flatMap g
  | [], _ => rfl
  | x :: l, h => by rw [List.flatMap_cons, List.flatMap_cons, h x (by simp), flatMap_same fun y hy => h y (by simp [hy])]
theorem combs_snoc (b : Int) : ∀ (k : Nat) (a : Int) (m : Nat), (b + 1 - a).toNat = k → combs (upTo a b) (m + 1) = (combs (upTo a b) m).flatMap fun o => (upTo (nextOf a o) b).map fun f => o ++ [f]
  | 0, a, m, hk => by
    rw [upTo_none (by omega)]
    cases m with
    | zero => simp [combs, nextOf, upTo_none (show b < a by omega)]
    | succ m => simp [combs]
  | k + 1, a, m, hk => by
    rw [upTo_cons (by omega)]
    have ih := combs_snoc b k (a + 1)
    cases m with
    | zero =>
      have h0 := ih 0 (by omega)
      have hn : ∀ a : Int, nextOf a [] = a := fun _ => rfl
      simp only [combs, List.map_cons, List.map_nil, List.flatMap_cons, List.flatMap_nil, List.append_nil, hn, List.nil_append] at h0 ⊢
      rw [h0, upTo_cons (show a ≤ b by omega)]
      rfl
    | succ m =>
      have h1 := ih m (by omega)
      have h2 := ih (m + 1) (by omega)
      rw [combs, h2]
      conv => rhs; rw [combs]
      rw [List.flatMap_append, List.flatMap_map]
      congr 1
      · rw [h1, List.map_flatMap]
        congr 1
        funext o
        have : nextOf a (a :: o) = nextOf (a + 1) o := by
          unfold nextOf
          cases o with
          | nil => rfl
          | cons x o => (simp only [List.getLast?_cons_cons, List.getLast?_cons]; rfl)
        rw [this, List.map_map]
        rfl
      · refine flatMap_same fun o ho => ?_
        have hol := (combs_mem ho).1
        have : nextOf a o = nextOf (a + 1) o := by
          unfold nextOf
          cases o with
          | nil => simp at hol
          | cons x o =>
            simp only [List.getLast?_cons]
        rw [this]
theorem choices_combs (n : Nat) : ∀ m, choicesE n m = combs (upTo 0 ((n : Int) - 1)) m
  | 0 => by simp [choicesE, combs]
  | m + 1 => by
    rw [choicesE_succ, choices_combs n m, combs_snoc ((n : Int) - 1) _ 0 m rfl, choStep]
    refine flatMap_same fun o ho => ?_
    have hol := (combs_mem ho).1
    have : firstOf o m = nextOf 0 o := by
      unfold firstOf nextOf
      rw [List.getLast?_eq_getElem?]
      by_cases hm : 0 < m
      · rw [if_pos hm, List.getElem?_eq_getElem (by omega), getI_eq (by omega)]
        simp only [hol]
      · have h0 : o = [] := List.length_eq_zero_iff.1 (by omega)
        subst h0
        rw [if_neg hm]; rfl
    rw [choRow, this]
theorem own_all (all : List Int) : (upTo 0 ((all.length : Int) - 1)).map (fun i => getI all i.toNat) = all := by
  refine List.ext_getElem (by simp [upTo]) fun i h1 h2 => ?_
  simp [upTo, getI_eq h2]
theorem cand_combs (h : House) (m : Nat) : candE h m = combs (countsE h) m := by
  have : candE h m = (combs (upTo 0 (((countsE h).length : Int) - 1)) m).map (List.map fun i => getI (countsE h) i.toNat) := by
    rw [candE, choices_combs]; rfl
  rw [this, ← combs_map, own_all]
theorem combs_all {α : Type} : ∀ (l : List α) (r : Nat), l.length < r → combs l r = []
  | _, 0, h => by simp at h
  | [], r + 1, _ => rfl
  | x :: l, r + 1, h => by
    simp only [List.length_cons] at h
    simp [combs, combs_all l r (by omega), combs_all l (r + 1) (by omega)]
theorem combs_full {α : Type} : ∀ (l : List α), combs l l.length = [l]
  | [] => rfl
  | x :: l => by simp [combs, combs_full l, combs_all l (l.length + 1) (by omega)]
theorem pWrong_eq (h : House) : pWrongList h = wrongList h := by
  have h1 : doE h = hasTruth h := rfl
  have h2 : candE h = combs (countsE h) := funext (cand_combs h)
  rw [pWrongList, wrongList, h1, h2, List.range_succ, List.flatMap_append, List.find?_append]
  cases hf : ((List.range (countsE h).length).flatMap (combs (countsE h))).find? (hasTruth h) with
  | some s => rfl
  | none =>
    simp only [Option.none_or, List.flatMap_cons, List.flatMap_nil, List.append_nil, combs_full, List.find?_cons, List.find?_nil, Option.getD_none]
    cases hasTruth h (countsE h) <;> rfl
theorem Wrong_run (v1 v2 : AV) (h : House) (hh : IsHouse (Old H) H v1 v2 h)
    (k : ∀ H' v, Grew H H' → IsInts (Old H') H' v (wrongE h).1 → R (.tuple [v, I (wrongE h).2]) H') : CallQ prog (.func 29 [] []) [.agg [v1, v2]] H R := by
  refine Wrong_run' v1 v2 h hh fun H' v hg hv => ?_
  have hw : wrongE h = (if errE h ≠ 0 then [] else pWrongList h, errE h) := by
    rw [pWrong_eq, wrongE]
    by_cases he : errE h = 0
    · simp [he]
    · simp [he]
  rw [hw] at k
  exact k H' v hg hv
end Go.Proofs.Ytgncpbkedhchfaa
namespace Go.Proofs.Ytgncpbkedhchfaa
open Go.AM Go.IntWalk
set_option maxRecDepth 100000
set_option maxHeartbeats 4000000
set_option linter.unusedSimpArgs false
variable {H : AH} {R : AV → AH → Prop}
theorem twice_run (b1 b2 b3 : Nat) (v1 v2 : AV) (h : House) (d w : Nat) (hh : IsHouse (Old H) H v1 v2 h) (e1 : H.get b1 = some (.cells false [v1, v2])) (e2 : H.get b2 = some (.cells false [I d])) (e3 : H.get b3 = some (.cells false [I w])) (hd : d < h.days.length) (hw : w < h.days[d].length)
    (k : R (I (if h.days[d][w] ≠ -1 then 5 else 0)) H) : CallQ prog (.func 73 [] [.ptr b1 0, .ptr b2 0, .ptr b3 0]) [] H R := by
  obtain ⟨p_b, p_i, p_ro, p_vs, vo, p_lt, hvo, p⟩ := hh.2.rdSl rfl hd
  obtain ⟨q_b, q_i, q_ro, q_vs, q_lt, q⟩ := hvo.rdInt rfl hw
  refine CallQ_enter (fn:=c73) rfl (Nat.le_of_ble_eq_true rfl) ?_;simp(maxSteps:=9999999)(disch:=first|omega|(simp only[AN];omega))only[c73,envFrom,↓KP,EK,↓reduceIte,reduceCtorEq,Nat.reduceEqDiff,Nat.reduceAdd,Nat.reduceLeDiff,Nat.reduceMul]
  by_cases hc : h.days[d][w] = -1
  · refine K_draw ?_;simp(maxSteps:=9999999)(disch:=first|omega|(simp only[AN];omega))only[e1,e2,e3,p,q,hc,↓KP,EK,↓reduceIte,reduceCtorEq,Nat.reduceEqDiff,Nat.reduceAdd,Nat.reduceLeDiff,Nat.reduceMul]
    simpa [hc] using k
  · refine K_draw ?_;simp(maxSteps:=9999999)(disch:=first|omega|(simp only[AN];omega))only[e1,e2,e3,p,q,hc,↓KP,EK,↓reduceIte,reduceCtorEq,Nat.reduceEqDiff,Nat.reduceAdd,Nat.reduceLeDiff,Nat.reduceMul]
    simpa [hc] using k
def offOf (h : House) (w : Nat) : Int := match h.ws[w]? with
  | some x => x.off
  | none => 0
def canS (h : House) (d w : Nat) (fs : List Int) : Int × Int :=
  (max 0 (((numbersE h d fs).1 + getI fs w - 1) / getI fs w - offOf h w), min 120 ((numbersE h d fs).2 / getI fs w + offOf h w))
def canL (h : House) (d w : Nat) (fs : List Int) : List (Int × Int) := if (canS h d w fs).1 ≤ (canS h d w fs).2 then [canS h d w fs] else []
structure Watch1 (N p m b1 : Nat) (v1 v2 : AV) (h : House) (but : Nat) (B H : AH) : Prop where
  held : Held N p m v1 v2 h but H
  base : ∀ b, b < N → b ≠ m → H.get b = B.get b
  e1 : H.get b1 = some (.cells false [.ptr p 0])
  lt1 : b1 < H.next
  ge1 : N ≤ b1
theorem Watch1.keep {N p m b1 : Nat} {v1 v2 : AV} {h : House} {but : Nat} {B H1 H2 : AH} (hw : Watch1 N p m b1 v1 v2 h but B H1) (hn : H1.next ≤ H2.next) (hs : ∀ b, Kh N b1 b → H2.get b = H1.get b) : Watch1 N p m b1 v1 v2 h but B H2 := by
  obtain ⟨c1, c2, c3, c5, c7⟩ := hw
  exact ⟨c1.keep hn fun b hb => hs b (.inl hb), fun b h1 h2 => by rw [hs b (.inl h1)]; exact c2 b h1 h2, by rw [hs _ (.inr rfl)]; exact c3, by omega, c7⟩
theorem Watch1.back {N p m b1 bh : Nat} {v1 v2 : AV} {h : House} {but : Nat} {B B' H1 : AH} (hr : Ready N p m bh v1 v2 h but B' H1) (hB : ∀ b, b < N → b ≠ m → B'.get b = B.get b) (e1 : H1.get b1 = some (.cells false [.ptr p 0])) (lt1 : b1 < H1.next) (ge1 : N ≤ b1) : Watch1 N p m b1 v1 v2 h but B H1 :=
  ⟨hr.held, fun b h1 h2 => by rw [hr.base b h1 h2, hB b h1 h2], e1, lt1, ge1⟩
theorem nums_at {h : House} {fs : List Int} {n d : Nat} (hd : d < 4) (hn : d < n) : ((numsTo h fs n).map I)[d * 2]? = some (I (numbersE h d fs).1) ∧ ((numsTo h fs n).map I)[d * 2 + 1]? = some (I (numbersE h d fs).2) := by
  have hl : ∀ e, (if e < n then [(numbersE h e fs).1, (numbersE h e fs).2] else [0, 0]) = [if e < n then (numbersE h e fs).1 else 0, if e < n then (numbersE h e fs).2 else 0] := fun e => by split <;> rfl
  simp only [numsTo, show List.range 4 = [0, 1, 2, 3] from rfl, List.flatMap_cons, List.flatMap_nil, hl]
  match d, hd with
  | 0, _ => simp [hn]
  | 1, _ => simp [hn]
  | 2, _ => simp [hn]
  | 3, _ => simp [hn]
theorem can_iter {N p m b1 bc bw bd w d : Nat} {v1 v2 : AV} {h : House} {B : AH} (hfine : Fine h) (hw : w < h.ws.length) (hd : d < h.days.length)
    (hbc : B.get bc = some (.cells false [v1, v2]) ∧ bc < N ∧ bc ≠ m) (hbw : B.get bw = some (.cells false [I w]) ∧ bw < N ∧ bw ≠ m) (hbd : B.get bd = some (.cells false [I d]) ∧ bd < N ∧ bd ≠ m) :
    Iter prog (.func 74 [] [.ptr bc 0, .ptr bw 0, .ptr b1 0, .ptr bd 0]) (((truthsE (lookE h 0)).flatMap (canL h d w)).map spanArg) (Kh N b1) (Watch1 N p m b1 v1 v2 h 0 B) := by
  refine ⟨fun H1 H2 hn hs hr => hr.keep hn hs, fun H hr b hb => by have := hr.lt1; have := hr.held.look.nle; rcases hb with h | h <;> omega, fun H l Y S R hNl hl hi hY hS hy hfin h0 => ?_⟩
  have hbl1 : b1 < l := hNl _ (.inr rfl)
  have hNle : N ≤ l := Nat.not_lt.1 fun h => by have := hNl l (.inl h); omega
  have e1 := hi.e1
  have ge1 := hi.ge1
  have hold := hi.held.look.old
  have hNH := hi.held.look.nle
  obtain ⟨c1, c2, c3⟩ := hbc
  obtain ⟨w1, w2, w3⟩ := hbw
  obtain ⟨d1, d2, d3⟩ := hbd
  have x1 : H.get bc = some (.cells false [v1, v2]) := by rw [hi.base bc c2 c3]; exact c1
  have x2 : H.get bw = some (.cells false [I w]) := by rw [hi.base bw w2 w3]; exact w1
  have x3 : H.get bd = some (.cells false [I d]) := by rw [hi.base bd d2 d3]; exact d1
  obtain ⟨q_b, q_i, q_ro, q_vs, q_lt, q⟩ := rdW hold.1 (k := w) rfl hw
  refine CallQ_enter (fn:=c74) rfl (Nat.le_of_ble_eq_true rfl) ?_;simp(maxSteps:=9999999)(disch:=first|omega|(simp only[AN];omega))only[c74,envFrom,e1,x1,x2,x3,q,Watcher.cells,↓KP,EK,↓reduceIte,reduceCtorEq,Nat.reduceEqDiff,Nat.reduceAdd,Nat.reduceLeDiff,Nat.reduceMul]
  first|refine C_call ?_|refine C_calld ?_
  refine truths_run p ?_
  have hr1 := (hi.held.up (H2 := ((H.alloc (.cells false [.yield l])).alloc (.cells false [.str (bs []), I 0, I 0, I 0])).set (H.next + 1) (.cells false [.str h.ws[w].name, I h.ws[w].lo, I h.ws[w].hi, I h.ws[w].off])) GW).ready
  have hBn0 : (((H.alloc (.cells false [.yield l])).alloc (.cells false [.str (bs []), I 0, I 0, I 0])).set (H.next + 1) (.cells false [.str h.ws[w].name, I h.ws[w].lo, I h.ws[w].hi, I h.ws[w].off])).next = H.next + 2 := rfl
  rw [hBn0] at hr1
  simp(maxSteps:=9999999)(disch:=first|omega|(simp only[AN];omega))only[↓KP,EK,↓reduceIte,reduceCtorEq,Nat.reduceEqDiff,Nat.reduceAdd,Nat.reduceLeDiff,Nat.reduceMul]
  have hbase : ∀ b, b < N → b ≠ m → ((((H.alloc (.cells false [.yield l])).alloc (.cells false [.str (bs []), I 0, I 0, I 0])).set (H.next + 1) (.cells false [.str h.ws[w].name, I h.ws[w].lo, I h.ws[w].hi, I h.ws[w].off])).alloc (.cells false [.ptr p 0])).get b = B.get b := fun b h1 h2 => by simp(maxSteps:=9999999)(disch:=first|omega|(simp only[AN];omega))only[↓KP,EK,↓reduceIte,reduceCtorEq,Nat.reduceEqDiff,Nat.reduceAdd,Nat.reduceLeDiff,Nat.reduceMul]; exact hi.base b h1 h2
  have hY0 : Y [] ((((H.alloc (.cells false [.yield l])).alloc (.cells false [.str (bs []), I 0, I 0, I 0])).set (H.next + 1) (.cells false [.str h.ws[w].name, I h.ws[w].lo, I h.ws[w].hi, I h.ws[w].off])).alloc (.cells false [.ptr p 0])) := hY [] H _ (by simp(maxSteps:=9999999)(disch:=first|omega|(simp only[AN];omega))only[↓KP,EK,↓reduceIte,reduceCtorEq,Nat.reduceEqDiff,Nat.reduceAdd,Nat.reduceLeDiff,Nat.reduceMul]; omega) (fun b h1 h2 => by simp(maxSteps:=9999999)(disch:=first|omega|(simp only[AN];omega))only[↓KP,EK,↓reduceIte,reduceCtorEq,Nat.reduceEqDiff,Nat.reduceAdd,Nat.reduceLeDiff,Nat.reduceMul]) h0
  have ey : ((((H.alloc (.cells false [.yield l])).alloc (.cells false [.str (bs []), I 0, I 0, I 0])).set (H.next + 1) (.cells false [.str h.ws[w].name, I h.ws[w].lo, I h.ws[w].hi, I h.ws[w].off])).alloc (.cells false [.ptr p 0])).get H.next = some (.cells false [.yield l]) := by simp(maxSteps:=9999999)(disch:=first|omega|(simp only[AN];omega))only[↓KP,EK,↓reduceIte,reduceCtorEq,Nat.reduceEqDiff,Nat.reduceAdd,Nat.reduceLeDiff,Nat.reduceMul]
  have ew : ((((H.alloc (.cells false [.yield l])).alloc (.cells false [.str (bs []), I 0, I 0, I 0])).set (H.next + 1) (.cells false [.str h.ws[w].name, I h.ws[w].lo, I h.ws[w].hi, I h.ws[w].off])).alloc (.cells false [.ptr p 0])).get (H.next + 1) = some (.cells false [.str h.ws[w].name, I h.ws[w].lo, I h.ws[w].hi, I h.ws[w].off]) := by simp(maxSteps:=9999999)(disch:=first|omega|(simp only[AN];omega))only[↓KP,EK,↓reduceIte,reduceCtorEq,Nat.reduceEqDiff,Nat.reduceAdd,Nat.reduceLeDiff,Nat.reduceMul]
  have eb1 : ((((H.alloc (.cells false [.yield l])).alloc (.cells false [.str (bs []), I 0, I 0, I 0])).set (H.next + 1) (.cells false [.str h.ws[w].name, I h.ws[w].lo, I h.ws[w].hi, I h.ws[w].off])).alloc (.cells false [.ptr p 0])).get b1 = some (.cells false [.ptr p 0]) := by simp(maxSteps:=9999999)(disch:=first|omega|(simp only[AN];omega))only[e1,↓KP,EK,↓reduceIte,reduceCtorEq,Nat.reduceEqDiff,Nat.reduceAdd,Nat.reduceLeDiff,Nat.reduceMul]
  have hBn : ((((H.alloc (.cells false [.yield l])).alloc (.cells false [.str (bs []), I 0, I 0, I 0])).set (H.next + 1) (.cells false [.str h.ws[w].name, I h.ws[w].lo, I h.ws[w].hi, I h.ws[w].off])).alloc (.cells false [.ptr p 0])).next = H.next + 3 := rfl
  generalize (((H.alloc (.cells false [.yield l])).alloc (.cells false [.str (bs []), I 0, I 0, I 0])).set (H.next + 1) (.cells false [.str h.ws[w].name, I h.ws[w].lo, I h.ws[w].hi, I h.ws[w].off])).alloc (.cells false [.ptr p 0]) = B' at hr1 hbase hY0 ey ew eb1 hBn
  refine K_iter (L := yields h 0) (K := Kh N (H.next + 2)) (Inv := Ready N p m (H.next + 2) v1 v2 h 0 B') rfl (truths_iter hfine (by omega)) hr1 (fun a ha => ?_)
    (fun done H2 => (∃ ds rs, truthsE (lookE h 0) = ds ++ rs ∧ done = ds.map (argT (lookE h 0)) ∧ Y ((ds.flatMap (canL h d w)).map spanArg) H2) ∧ H2.get H.next = some (.cells false [.yield l]) ∧ H2.get (H.next + 1) = some (.cells false [.str h.ws[w].name, I h.ws[w].lo, I h.ws[w].hi, I h.ws[w].off]) ∧ H2.get b1 = some (.cells false [.ptr p 0]))
    (fun x H2 => x = .ret ∧ S H2 ∧ H2.get b1 = some (.cells false [.ptr p 0])) ?_ ?_ ?_ ?_ ?_ ?_
  · obtain ⟨fs, _, rfl⟩ := List.mem_map.1 ha; rfl
  · rintro done H1 H2 hn hs ⟨⟨ds, rs, h1, h2, h3⟩, h4, h5, h6⟩
    refine ⟨⟨ds, rs, h1, h2, hY _ H1 H2 hn (fun b h7 h8 => hs b (by have := Kh.not h7; simp only [Kh]; omega) (by omega)) h3⟩, by rw [hs _ (by simp only [Kh]; omega) (by omega)]; exact h4, by rw [hs _ (by simp only [Kh]; omega) (by omega)]; exact h5, by rw [hs _ (by simp only [Kh]; omega) (by omega)]; exact h6⟩
  · rintro x H1 H2 hn hs ⟨h1, h3, h5⟩
    refine ⟨h1, hS H1 H2 hn (fun b h7 h8 => hs b (by have := Kh.not h7; simp only [Kh]; omega) (by omega)) h3, by rw [hs _ (by simp only [Kh]; omega) (by omega)]; exact h5⟩
  · exact ⟨⟨[], _, rfl, rfl, hY0⟩, ey, ew, eb1⟩
  · rintro done a rest H1 hL hlt hi1 ⟨⟨ds, rs, h1, rfl, h3⟩, h4, h5, h6⟩ hlo
    rw [yields, h1, List.map_append, List.append_cancel_left_eq] at hL
    cases rs with
    | nil => cases hL
    | cons fs rs =>
      simp only [List.map_cons, List.cons.injEq] at hL
      obtain ⟨rfl, rfl⟩ := hL
      have hfm : fs ∈ truthsE h := by rw [← lookE_zero h, h1]; simp
      have hwat := Watch1.back hi1 hbase h6 (by omega) ge1
      have y2 : H1.get bw = some (.cells false [I w]) := by rw [hwat.base bw w2 w3]; exact w1
      have y3 : H1.get bd = some (.cells false [I d]) := by rw [hwat.base bd d2 d3]; exact d1
      have hw3 := hfine.ws
      have hd4 := hfine.days
      have hget := three_get (getI fs 0) (getI fs 1) (getI fs 2) (n := w) (by omega)
      have hget' : [getI fs 0, getI fs 1, getI fs 2][w]'(by simp; omega) = getI fs w := by
        rcases (show w = 0 ∨ w = 1 ∨ w = 2 by omega) with rfl | rfl | rfl <;> rfl
      rw [hget'] at hget
      have hix : ∀ S b, opIdxArr 3 1 (.ptr b 0) (I w) S = some (.ptr b w, S) := fun S b => by
        have : w < 3 := by omega
        simp [opIdxArr, natOf, this]
      have hix8 : ∀ S b, opIdxArr 4 2 (.ptr b 0) (I d) S = some (.ptr b (d * 2), S) := fun S b => by
        have : d < 4 := by omega
        simp [opIdxArr, natOf, this]
      obtain ⟨x0, x1, x2, x3, x4, x5, x6, x7, he⟩ := eight (show (numsE (lookE h 0) fs).length = 8 from nums_length)
      obtain ⟨n1, n2⟩ := nums_at (h := lookE h 0) (fs := fs) (n := (lookE h 0).days.length) (d := d) (by omega) (by rw [maskE_length]; exact hd)
      rw [show numsTo (lookE h 0) fs (lookE h 0).days.length = numsE (lookE h 0) fs from rfl, he] at n1 n2
      simp only [List.map_cons, List.map_nil, lookE_zero] at n1 n2
      obtain ⟨hfl, hfb⟩ := truthsE_mem hfine hfm
      have ff := hfb _ (List.getElem_mem (l := fs) (n := w) (by omega))
      rw [← getI_eq] at ff
      obtain ⟨nb1, nb2⟩ := numbersE_in hfine hd hfb
      have hwf := hfine.w hw
      have hoff : offOf h w = h.ws[w].off := by unfold offOf; rw [List.getElem?_eq_getElem hw]
      have hcan : canS h d w fs = (max 0 (((numbersE h d fs).1 + getI fs w - 1) / getI fs w - h.ws[w].off), min 120 ((numbersE h d fs).2 / getI fs w + h.ws[w].off)) := by rw [canS, hoff]
      generalize (numbersE h d fs).1 = lo at n1 nb1 hcan
      generalize (numbersE h d fs).2 = hi2 at n2 nb2 hcan
      have g1 : IntKind.i64.wrap (lo + getI fs w) = lo + getI fs w := i64_in _ (by omega)
      have g2 : IntKind.i64.wrap (lo + getI fs w - 1) = lo + getI fs w - 1 := i64_in _ (by omega)
      have b1' := Int.ediv_le_self (a := lo + getI fs w - 1) (getI fs w) (by omega)
      have b1'' := Int.ediv_nonneg (a := lo + getI fs w - 1) (b := getI fs w) (by omega) (by omega)
      have b2' := Int.ediv_le_self (a := hi2) (getI fs w) (by omega)
      have b2'' := Int.ediv_nonneg (a := hi2) (b := getI fs w) (by omega) (by omega)
      have g3 : IntKind.i64.wrap ((lo + getI fs w - 1).tdiv (getI fs w)) = (lo + getI fs w - 1) / getI fs w := by rw [Int.tdiv_eq_ediv_of_nonneg (by omega), i64_in _ (by omega)]
      have g4 : IntKind.i64.wrap (hi2.tdiv (getI fs w)) = hi2 / getI fs w := by rw [Int.tdiv_eq_ediv_of_nonneg (by omega), i64_in _ (by omega)]
      generalize hq1 : (lo + getI fs w - 1) / getI fs w = q1 at *
      generalize hq2 : hi2 / getI fs w = q2 at *
      have g5 : IntKind.i64.wrap (q1 - h.ws[w].off) = q1 - h.ws[w].off := i64_in _ (by omega)
      have g6 : IntKind.i64.wrap (q2 + h.ws[w].off) = q2 + h.ws[w].off := i64_in _ (by omega)
      have g7 : ¬ getI fs w = 0 := by omega
      simp(maxSteps:=9999999)(disch:=first|omega|(simp only[AN];omega))only[K8,hlo,argT,pad3,he,List.map_cons,List.map_nil,↓KP,EK,↓reduceIte,reduceCtorEq,Nat.reduceEqDiff,Nat.reduceAdd,Nat.reduceLeDiff,Nat.reduceMul]
      refine K_draw ?_;simp(maxSteps:=9999999)(disch:=first|omega|(simp only[AN];omega))only[h4,h5,y2,y3,hix,hix8,hget,n1,n2,g1,g2,g3,g4,g5,g6,g7,↓KP,EK,↓reduceIte,reduceCtorEq,Nat.reduceEqDiff,Nat.reduceAdd,Nat.reduceLeDiff,Nat.reduceMul]
      have hdone : ds.map (argT (lookE h 0)) ++ [[.agg [I (getI fs 0), I (getI fs 1), I (getI fs 2)], .agg [I x0, I x1, I x2, I x3, I x4, I x5, I x6, I x7]]] = (ds ++ [fs]).map (argT (lookE h 0)) := by rw [List.map_append]; simp only [List.map_cons, List.map_nil, argT, pad3, he]
      by_cases hcc : max 0 (q1 - h.ws[w].off) ≤ min 120 (q2 + h.ws[w].off)
      · have hcl : canL h d w fs = [(max 0 (q1 - h.ws[w].off), min 120 (q2 + h.ws[w].off))] := by rw [canL, hcan, if_pos hcc]
        simp(maxSteps:=9999999)(disch:=first|omega|(simp only[AN];omega))only[hcc,h4,↓KP,EK,↓reduceIte,reduceCtorEq,Nat.reduceEqDiff,Nat.reduceAdd,Nat.reduceLeDiff,Nat.reduceMul]
        refine C_call (CallQ.mono (hy ((ds.flatMap (canL h d w)).map spanArg) (spanArg (max 0 (q1 - h.ws[w].off), min 120 (q2 + h.ws[w].off))) ((rs.flatMap (canL h d w)).map spanArg) _ (by rw [h1, List.flatMap_append, List.flatMap_cons, hcl, List.map_append, List.map_append]; rfl) ?_ (hwat.keep ?_ fun b hb => ?_) (hY _ H1 _ ?_ (fun b h7 h8 => ?_) h3)) fun v H3 hv => ?_)
        · simp(maxSteps:=9999999)(disch:=first|omega|(simp only[AN];omega))only[↓KP,EK,↓reduceIte,reduceCtorEq,Nat.reduceEqDiff,Nat.reduceAdd,Nat.reduceLeDiff,Nat.reduceMul]; omega
        · simp(maxSteps:=9999999)(disch:=first|omega|(simp only[AN];omega))only[↓KP,EK,↓reduceIte,reduceCtorEq,Nat.reduceEqDiff,Nat.reduceAdd,Nat.reduceLeDiff,Nat.reduceMul]; omega
        · have : b < H.next := by rcases hb with h | h <;> omega
          simp(maxSteps:=9999999)(disch:=first|omega|(simp only[AN];omega))only[↓KP,EK,↓reduceIte,reduceCtorEq,Nat.reduceEqDiff,Nat.reduceAdd,Nat.reduceLeDiff,Nat.reduceMul]
        · simp(maxSteps:=9999999)(disch:=first|omega|(simp only[AN];omega))only[↓KP,EK,↓reduceIte,reduceCtorEq,Nat.reduceEqDiff,Nat.reduceAdd,Nat.reduceLeDiff,Nat.reduceMul]; omega
        · simp(maxSteps:=9999999)(disch:=first|omega|(simp only[AN];omega))only[↓KP,EK,↓reduceIte,reduceCtorEq,Nat.reduceEqDiff,Nat.reduceAdd,Nat.reduceLeDiff,Nat.reduceMul]
        · obtain ⟨⟨k1, k2⟩, hor⟩ := hv
          simp only [AH.next_alloc, AH.next_set] at k1
          have kk : ∀ b, b < H1.next → b ≠ B'.next → (b < N ∨ b = b1 ∨ l < b) → H3.get b = H1.get b := fun b h7 h8 h9 => by
            rw [k2 b (by simp(maxSteps:=9999999)(disch:=first|omega|(simp only[AN];omega))only[↓KP,EK,↓reduceIte,reduceCtorEq,Nat.reduceEqDiff,Nat.reduceAdd,Nat.reduceLeDiff,Nat.reduceMul]; omega) (by simp only [Kh]; omega)]
            simp(maxSteps:=9999999)(disch:=first|omega|(simp only[AN];omega))only[↓KP,EK,↓reduceIte,reduceCtorEq,Nat.reduceEqDiff,Nat.reduceAdd,Nat.reduceLeDiff,Nat.reduceMul]
          have klo := k2 B'.next (by simp(maxSteps:=9999999)(disch:=first|omega|(simp only[AN];omega))only[↓KP,EK,↓reduceIte,reduceCtorEq,Nat.reduceEqDiff,Nat.reduceAdd,Nat.reduceLeDiff,Nat.reduceMul]; omega) (.inr (by omega))
          have klo' : H3.get B'.next = _ := klo.trans (by simp(maxSteps:=9999999)(disch:=first|omega|(simp only[AN];omega))only[↓KP,EK,↓reduceIte,reduceCtorEq,Nat.reduceEqDiff,Nat.reduceAdd,Nat.reduceLeDiff,Nat.reduceMul]; rfl)
          rcases hor with ⟨rfl, hy3⟩ | ⟨rfl, hS3⟩
          · simp(maxSteps:=9999999)(disch:=first|omega|(simp only[AN];omega))only[↓KP,EK,↓reduceIte,reduceCtorEq,Nat.reduceEqDiff,Nat.reduceAdd,Nat.reduceLeDiff,Nat.reduceMul]
            refine K_bod ⟨klo', ⟨by omega, fun b h7 h8 => kk b h7 (by simp only [Kh] at h8; omega) (by simp only [Kh] at h8; omega)⟩, ⟨ds ++ [fs], rs, by rw [h1]; simp, hdone, by rw [List.flatMap_append, List.map_append]; simpa [hcl] using hy3⟩, by rw [kk _ (by omega) (by omega) (by omega)]; exact h4, by rw [kk _ (by omega) (by omega) (by omega)]; exact h5, by rw [kk _ (by omega) (by omega) (by omega)]; exact h6⟩
          · simp(maxSteps:=9999999)(disch:=first|omega|(simp only[AN];omega))only[↓KP,EK,↓reduceIte,reduceCtorEq,Nat.reduceEqDiff,Nat.reduceAdd,Nat.reduceLeDiff,Nat.reduceMul]
            exact K_bod ⟨klo', ⟨by omega, fun b h7 h8 => kk b h7 (by simp only [Kh] at h8; omega) (by simp only [Kh] at h8; omega)⟩, rfl, hS3, by rw [kk _ (by omega) (by omega) (by omega)]; exact h6⟩
      · have hcl : canL h d w fs = [] := by rw [canL, hcan, if_neg hcc]
        simp(maxSteps:=9999999)(disch:=first|omega|(simp only[AN];omega))only[hcc,↓KP,EK,↓reduceIte,reduceCtorEq,Nat.reduceEqDiff,Nat.reduceAdd,Nat.reduceLeDiff,Nat.reduceMul]
        refine K_bod ⟨?_, ⟨?_, fun b h7 h8 => ?_⟩, ⟨ds ++ [fs], rs, by rw [h1]; simp, hdone, ?_⟩, ?_, ?_, ?_⟩
        · simp(maxSteps:=9999999)(disch:=first|omega|(simp only[AN];omega))only[↓KP,EK,↓reduceIte,reduceCtorEq,Nat.reduceEqDiff,Nat.reduceAdd,Nat.reduceLeDiff,Nat.reduceMul]
        · simp(maxSteps:=9999999)(disch:=first|omega|(simp only[AN];omega))only[↓KP,EK,↓reduceIte,reduceCtorEq,Nat.reduceEqDiff,Nat.reduceAdd,Nat.reduceLeDiff,Nat.reduceMul]; omega
        · simp only [Kh] at h8
          simp(maxSteps:=9999999)(disch:=first|omega|(simp only[AN];omega))only[↓KP,EK,↓reduceIte,reduceCtorEq,Nat.reduceEqDiff,Nat.reduceAdd,Nat.reduceLeDiff,Nat.reduceMul]
        · rw [List.flatMap_append, List.flatMap_cons, hcl]
          simp only [List.flatMap_nil, List.append_nil]
          exact hY _ H1 _ (by simp(maxSteps:=9999999)(disch:=first|omega|(simp only[AN];omega))only[↓KP,EK,↓reduceIte,reduceCtorEq,Nat.reduceEqDiff,Nat.reduceAdd,Nat.reduceLeDiff,Nat.reduceMul]; omega) (fun b h7 h8 => by simp(maxSteps:=9999999)(disch:=first|omega|(simp only[AN];omega))only[↓KP,EK,↓reduceIte,reduceCtorEq,Nat.reduceEqDiff,Nat.reduceAdd,Nat.reduceLeDiff,Nat.reduceMul]) h3
        · simp(maxSteps:=9999999)(disch:=first|omega|(simp only[AN];omega))only[h4,↓KP,EK,↓reduceIte,reduceCtorEq,Nat.reduceEqDiff,Nat.reduceAdd,Nat.reduceLeDiff,Nat.reduceMul]
        · simp(maxSteps:=9999999)(disch:=first|omega|(simp only[AN];omega))only[h5,↓KP,EK,↓reduceIte,reduceCtorEq,Nat.reduceEqDiff,Nat.reduceAdd,Nat.reduceLeDiff,Nat.reduceMul]
        · simp(maxSteps:=9999999)(disch:=first|omega|(simp only[AN];omega))only[h6,↓KP,EK,↓reduceIte,reduceCtorEq,Nat.reduceEqDiff,Nat.reduceAdd,Nat.reduceLeDiff,Nat.reduceMul]
  · rintro H2 hn hi2 ⟨⟨ds, rs, h1, h2, h3⟩, h4, h5, h6⟩
    have hrs : rs = [] := by
      have := congrArg List.length h2
      rw [yields, h1, List.length_map, List.length_map, List.length_append] at this
      exact List.length_eq_zero_iff.1 (by omega)
    subst hrs
    rw [List.append_nil] at h1
    simp(maxSteps:=9999999)(disch:=first|omega|(simp only[AN];omega))only[↓KP,EK,↓reduceIte,reduceCtorEq,Nat.reduceEqDiff,Nat.reduceAdd,Nat.reduceLeDiff,Nat.reduceMul]
    exact hfin _ (by omega) (Watch1.back hi2 hbase h6 (by omega) ge1) (.inl (by rw [h1]; exact h3))
  · rintro x H2 hx hn hi2 ⟨rfl, h3, h5⟩
    simp(maxSteps:=9999999)(disch:=first|omega|(simp only[AN];omega))only[↓KP,EK,↓reduceIte,reduceCtorEq,Nat.reduceEqDiff,Nat.reduceAdd,Nat.reduceLeDiff,Nat.reduceMul]
    exact hfin _ (by omega) (Watch1.back hi2 hbase h5 (by omega) ge1) (.inr h3)
theorem narrow_comm (s : Int × Int) (w w' : Watcher) (c c' f f' : Int) : narrow (narrow s w c f) w' c' f' = narrow (narrow s w' c' f') w c f := by
  unfold narrow
  by_cases h1 : c = -1 <;> by_cases h2 : c' = -1 <;> simp [h1, h2] <;> omega
theorem narrowAll_comm : ∀ {ws : List Watcher} {cs fs : List Int} {s : Int × Int} {w : Watcher} {c f : Int}, narrowAll (narrow s w c f) ws cs fs = narrow (narrowAll s ws cs fs) w c f
  | [], _, _, _, _, _, _ => by simp [narrowAll]
  | _ :: _, [], _, _, _, _, _ => by simp [narrowAll]
  | _ :: _, _ :: _, [], _, _, _, _ => by simp [narrowAll]
  | w' :: ws, c' :: cs, f' :: fs, s, w, c, f => by
    simp only [narrowAll]
    rw [narrow_comm, narrowAll_comm]
theorem narrowAll_set : ∀ {ws : List Watcher} {cs fs : List Int} {s : Int × Int} {k : Nat} {c : Int} (h1 : k < ws.length) (h2 : k < cs.length) (h3 : k < fs.length), cs[k] = -1 → narrowAll s ws (cs.set k c) fs = narrow (narrowAll s ws cs fs) ws[k] c fs[k]
  | w :: ws, c' :: cs, f :: fs, s, 0, c, _, _, _, h => by
    simp only [List.getElem_cons_zero] at h
    subst h
    simp only [List.set_cons_zero, narrowAll, List.getElem_cons_zero, narrowAll_comm]
    simp [narrow]
  | w :: ws, c' :: cs, f :: fs, s, k + 1, c, h1, h2, h3, h => by
    simp only [List.getElem_cons_succ] at h
    simp only [List.set_cons_succ, narrowAll, List.getElem_cons_succ]
    exact narrowAll_set (by simpa using h1) (by simpa using h2) (by simpa using h3) h
  | [], _, _, _, _, _, h1, _, _, _ => by simp at h1
  | _ :: _, [], _, _, _, _, _, h2, _, _ => by simp at h2
  | _ :: _, _ :: _, [], _, _, _, _, _, h3, _ => by simp at h3
theorem okDay_with {h : House} (hf : Fine h) {d w : Nat} (hd : d < h.days.length) (hw : w < h.ws.length) (hfree : h.days[d][w]'(by rw [hf.len _ (List.getElem_mem hd)]; exact hw) = -1) {c : Int} (hc : 0 ≤ c ∧ c ≤ 120) {fs : List Int} (hm : fs ∈ truthsE h) :
    okDay (withE h d w c) fs d = decide ((canS h d w fs).1 ≤ c ∧ c ≤ (canS h d w fs).2) := by
  have hlen := hf.len _ (List.getElem_mem hd)
  obtain ⟨hfl, hfb⟩ := truthsE_mem hf hm
  have ff := hfb _ (List.getElem_mem (l := fs) (n := w) (by omega))
  have hn : numbersE (withE h d w c) d fs = narrow (numbersE h d fs) h.ws[w] c fs[w] := by
    have : (withE h d w c).days.getD d [] = h.days[d].set w c := by
      rw [getD_eq (by simp [withE]; exact hd)]
      simp only [withE, List.getElem_set_self, getD_eq hd]
    unfold numbersE
    rw [this, getD_eq hd]
    exact narrowAll_set hw (by omega) (by omega) hfree
  have hle := okE_day hm hd
  obtain ⟨nb1, nb2⟩ := numbersE_in hf hd hfb
  have hwf := hf.w hw
  have hoff : offOf h w = h.ws[w].off := by unfold offOf; rw [List.getElem?_eq_getElem hw]
  unfold okDay
  rw [hn, narrow, if_neg (by omega), decide_eq_decide]
  simp only [canS, hoff, getI_eq (show w < fs.length by omega)]
  generalize fs[w] = f at ff
  generalize h.ws[w].off = o at hwf
  generalize (numbersE h d fs).1 = lo at hle nb1
  generalize (numbersE h d fs).2 = hi at hle nb2
  have k1 : f * max 0 (c - o) ≤ f * (c + o) := Int.mul_le_mul_of_nonneg_left (by omega) (by omega)
  have k2 : (lo + f - 1) / f ≤ c + o ↔ lo ≤ f * (c + o) := by
    rw [← Int.lt_add_one_iff, Int.ediv_lt_iff_lt_mul (by omega), Int.add_mul, Int.mul_comm (c + o) f]
    omega
  have k3 : c - o ≤ hi / f ↔ f * max 0 (c - o) ≤ hi := by
    rw [Int.le_ediv_iff_mul_le (by omega), Int.mul_comm]
    by_cases hx : 0 ≤ c - o
    · rw [show max 0 (c - o) = c - o from by omega]
    · rw [show max 0 (c - o) = 0 from by omega]
      have : f * (c - o) ≤ 0 := Int.mul_nonpos_of_nonneg_of_nonpos (by omega) (by omega)
      simp; omega
  generalize f * max 0 (c - o) = x at *
  generalize f * (c + o) = y at *
  generalize (lo + f - 1) / f = u at *
  generalize hi / f = v at *
  constructor
  · intro hh
    have h1 : lo ≤ y := by omega
    have h2 : x ≤ hi := by omega
    have := k2.2 h1
    have := k3.2 h2
    omega
  · intro hh
    have h1 := k2.1 (by omega)
    have h2 := k3.1 (by omega)
    omega
theorem fold_ends (P : Nat → Bool) : ∀ n : Nat, n ≤ 121 → ((∀ c, c < n → P c = false) ∧ (List.range n).foldl (fun s (c : Nat) => if P c then join s ((c : Int), (c : Int)) else s) (121, -1) = (121, -1)) ∨
    ∃ a b : Nat, a ≤ b ∧ b < n ∧ P a = true ∧ P b = true ∧ (∀ c, c < n → P c = true → a ≤ c ∧ c ≤ b) ∧ (List.range n).foldl (fun s (c : Nat) => if P c then join s ((c : Int), (c : Int)) else s) (121, -1) = ((a : Int), (b : Int))
  | 0, _ => .inl ⟨by simp, rfl⟩
  | n + 1, hn => by
    rw [List.range_succ, List.foldl_append, List.foldl_cons, List.foldl_nil]
    rcases fold_ends P n (by omega) with ⟨h1, h2⟩ | ⟨a, b, h1, h2, h3, h4, h5, h6⟩
    · rw [h2]
      cases hp : P n with
      | true =>
        refine .inr ⟨n, n, by omega, by omega, hp, hp, fun c hc hpc => ?_, ?_⟩
        · by_cases hcn : c = n
          · omega
          · rw [h1 c (by omega)] at hpc; cases hpc
        · simp only [if_true, join]; exact Prod.ext (by simp only; omega) (by simp only; omega)
      | false =>
        refine .inl ⟨fun c hc => ?_, by simp⟩
        by_cases hcn : c = n
        · subst hcn; exact hp
        · exact h1 c (by omega)
    · rw [h6]
      cases hp : P n with
      | true =>
        refine .inr ⟨a, n, by omega, by omega, h3, hp, fun c hc hpc => ?_, ?_⟩
        · by_cases hcn : c = n
          · omega
          · have := h5 c (by omega) hpc; omega
        · simp only [if_true, join]; exact Prod.ext (by simp only; omega) (by simp only; omega)
      | false =>
        refine .inr ⟨a, b, h1, by omega, h3, h4, fun c hc hpc => ?_, by simp⟩
        by_cases hcn : c = n
        · subst hcn; rw [hp] at hpc; cases hpc
        · exact h5 c (by omega) hpc
theorem wide_ends : ∀ {l : List (Int × Int)}, (∀ x ∈ l, 0 ≤ x.1 ∧ x.1 ≤ x.2 ∧ x.2 ≤ 120) → l ≠ [] → (∃ x ∈ l, (wideL l).1 = x.1) ∧ (∃ x ∈ l, (wideL l).2 = x.2) ∧ ∀ x ∈ l, (wideL l).1 ≤ x.1 ∧ x.2 ≤ (wideL l).2 := by
  intro l
  induction l using snoc_ind with
  | h0 => intro _ h; exact absurd rfl h
  | h1 l a ih =>
    intro h _
    have ha := h a (by simp)
    rw [wideL_snoc]
    by_cases hl : l = []
    · subst hl
      refine ⟨⟨a, by simp, ?_⟩, ⟨a, by simp, ?_⟩, fun x hx => ?_⟩
      · show min 9223372036854775807 a.1 = a.1; omega
      · show max (-1) a.2 = a.2; omega
      · simp only [List.nil_append, List.mem_singleton] at hx; subst hx
        exact ⟨by show min 9223372036854775807 x.1 ≤ x.1; omega, by show x.2 ≤ max (-1) x.2; omega⟩
    · obtain ⟨⟨x, hx, ex⟩, ⟨y, hy, ey⟩, hall⟩ := ih (fun z hz => h z (by simp [hz])) hl
      refine ⟨?_, ?_, fun z hz => ?_⟩
      · by_cases hc : x.1 ≤ a.1
        · exact ⟨x, by simp [hx], by show min (wideL l).1 a.1 = x.1; omega⟩
        · exact ⟨a, by simp, by show min (wideL l).1 a.1 = a.1; omega⟩
      · by_cases hc : y.2 ≤ a.2
        · exact ⟨a, by simp, by show max (wideL l).2 a.2 = a.2; omega⟩
        · exact ⟨y, by simp [hy], by show max (wideL l).2 a.2 = y.2; omega⟩
      · rcases List.mem_append.1 hz with hz | hz
        · have := hall z hz
          exact ⟨by show min (wideL l).1 a.1 ≤ z.1; omega, by show z.2 ≤ max (wideL l).2 a.2; omega⟩
        · simp only [List.mem_singleton] at hz; subst hz
          exact ⟨by show min (wideL l).1 z.1 ≤ z.1; omega, by show z.2 ≤ max (wideL l).2 z.2; omega⟩
theorem would_wide {h : House} (hf : Fine h) {d w : Nat} (hd : d < h.days.length) (hw : w < h.ws.length) (hfree : h.days[d][w]'(by rw [hf.len _ (List.getElem_mem hd)]; exact hw) = -1) :
    (if (wouldFold h d w 121).2 < 0 then ((0, 0), 9) else (wouldFold h d w 121, 0) : (Int × Int) × Int) = if (wideL ((truthsE h).flatMap (canL h d w))).2 < 0 then ((0, 0), 9) else (wideL ((truthsE h).flatMap (canL h d w)), 0) := by
  have hcan : ∀ c : Nat, c < 121 → (canE h d w (c : Int) = true ↔ ∃ x ∈ (truthsE h).flatMap (canL h d w), x.1 ≤ (c : Int) ∧ (c : Int) ≤ x.2) := fun c hc => by
    unfold canE
    rw [List.any_eq_true]
    constructor
    · rintro ⟨fs, hm, ho⟩
      rw [okDay_with hf hd hw hfree (by omega) hm, decide_eq_true_eq] at ho
      exact ⟨canS h d w fs, List.mem_flatMap.2 ⟨fs, hm, by unfold canL; rw [if_pos (by omega)]; simp⟩, ho⟩
    · rintro ⟨x, hx, h1⟩
      obtain ⟨fs, hm, hx⟩ := List.mem_flatMap.1 hx
      unfold canL at hx
      split at hx
      · simp only [List.mem_singleton] at hx; subst hx
        exact ⟨fs, hm, by rw [okDay_with hf hd hw hfree (by omega) hm, decide_eq_true_eq]; exact h1⟩
      · cases hx
  have hall : ∀ x ∈ (truthsE h).flatMap (canL h d w), 0 ≤ x.1 ∧ x.1 ≤ x.2 ∧ x.2 ≤ 120 := fun x hx => by
    obtain ⟨fs, hm, hx⟩ := List.mem_flatMap.1 hx
    unfold canL at hx
    split at hx
    · rename_i hle
      simp only [List.mem_singleton] at hx; subst hx
      simp only [canS] at hle ⊢
      omega
    · cases hx
  generalize (truthsE h).flatMap (canL h d w) = l at hcan hall
  have hfold := fold_ends (fun c : Nat => canE h d w (c : Int)) 121 (Nat.le_refl _)
  rw [show (List.range 121).foldl (fun s (c : Nat) => if (fun c : Nat => canE h d w (c : Int)) c then join s ((c : Int), (c : Int)) else s) (121, -1) = wouldFold h d w 121 from rfl] at hfold
  by_cases hl : l = []
  · subst hl
    rcases hfold with ⟨_, h2⟩ | ⟨a, b, h1, h2, h3, _⟩
    · rw [h2]; rfl
    · obtain ⟨x, hx, _⟩ := (hcan a (by omega)).1 h3; cases hx
  · obtain ⟨⟨x, hx, ex⟩, ⟨y, hy, ey⟩, hb⟩ := wide_ends hall hl
    have hx' := hall x hx
    have hy' := hall y hy
    rcases hfold with ⟨h1, _⟩ | ⟨a, b, h1, h2, h3, h4, h5, h6⟩
    · have := h1 x.1.toNat (by omega)
      have h7 := (hcan x.1.toNat (by omega)).2 ⟨x, hx, by omega, by omega⟩
      rw [h7] at this; cases this
    · obtain ⟨u, hu, u1, u2⟩ := (hcan a (by omega)).1 h3
      obtain ⟨v, hv, v1, v2⟩ := (hcan b (by omega)).1 h4
      have q1 := h5 x.1.toNat (by omega) ((hcan x.1.toNat (by omega)).2 ⟨x, hx, by omega, by omega⟩)
      have q2 := h5 y.2.toNat (by omega) ((hcan y.2.toNat (by omega)).2 ⟨y, hy, by omega, by omega⟩)
      have q3 := hb u hu
      have q4 := hb v hv
      have : wideL l = ((a : Int), (b : Int)) := Prod.ext (by simp only; omega) (by simp only; omega)
      rw [this, h6]
theorem wouldE_eq {h : House} {d w : Int} : wouldE h d w = if wouldErr h d w ≠ 0 then ((0, 0), wouldErr h d w) else if truthsE h = [] then ((0, 0), 8) else
    if (wideL ((truthsE h).flatMap (canL h d.toNat w.toNat))).2 < 0 then ((0, 0), 9) else (wideL ((truthsE h).flatMap (canL h d.toNat w.toNat)), 0) := by
  unfold wouldE
  by_cases he : wouldErr h d w = 0
  · have he' := he
    unfold wouldErr at he'
    by_cases h1 : indexE h d h.days.length = 0
    · rw [if_neg (by omega)] at he'
      by_cases h2 : indexE h w h.ws.length = 0
      · rw [if_neg (by omega)] at he'
        obtain ⟨hf, d0, d1⟩ := indexE_zero h1
        obtain ⟨_, w0, w1⟩ := indexE_zero h2
        have hd : d.toNat < h.days.length := by omega
        have hw : w.toNat < h.ws.length := by omega
        have hlen := hf.len _ (List.getElem_mem hd)
        have hfree : h.days[d.toNat][w.toNat]'(by omega) = -1 := by
          rw [getD_eq hd, getI_eq (by omega)] at he'
          split at he'
          · cases he'
          · rename_i h3; omega
        have := would_wide hf hd hw hfree
        simp only [he, ne_eq, not_true, if_false]
        by_cases ht : truthsE h = []
        · simp [ht]
        · simp only [ht, if_false]; exact this
      · rw [if_pos h2] at he'; exact absurd he' h2
    · rw [if_pos h1] at he'; exact absurd he' h1
  · simp [he]
theorem wouldErr_enter {h : House} {d w : Int} : enterErr h [d, h.days.length, w, h.ws.length] (if getI (h.days.getD d.toNat []) w.toNat ≠ -1 then 5 else 0) = if wouldErr h d w ≠ 0 then wouldErr h d w else if truthsE h = [] then 8 else 0 := by
  unfold enterErr wouldErr indexE
  by_cases he : errE h = 0
  · have hp : (pairsOff [d, (h.days.length : Int), w, h.ws.length] = true) ↔ ¬ (0 ≤ d ∧ d ≤ (h.days.length : Int) - 1) ∨ ¬ (0 ≤ w ∧ w ≤ (h.ws.length : Int) - 1) := by
      simp only [pairsOff, offP, Bool.or_false, Bool.or_eq_true, decide_eq_true_eq]; omega
    simp only [he, ne_eq, not_true, if_false, if_true]
    by_cases hd : 0 ≤ d ∧ d ≤ (h.days.length : Int) - 1
    · by_cases hw : 0 ≤ w ∧ w ≤ (h.ws.length : Int) - 1
      · rw [if_neg (fun e => by rcases hp.1 e with h1 | h1; exact h1 hd; exact h1 hw)]
        simp only [hd, hw, and_self, if_true, not_true, if_false]
      · rw [if_pos (hp.2 (.inr hw))]; simp [hd, hw]
    · rw [if_pos (hp.2 (.inl hd))]; simp [hd]
  · simp [he]
theorem Would_run (v1 v2 : AV) (h : House) (d w : Int) (hh : IsHouse (Old H) H v1 v2 h) (hs : Sized h)
    (k : ∀ H', Grew H H' → R (.tuple [.agg [I (wouldE h d w).1.1, I (wouldE h d w).1.2], I (wouldE h d w).2]) H') : CallQ prog (.func 23 [] []) [.agg [v1, v2], I d, I w] H R := by
  have hg0 : Grew H (((((H.alloc (.cells false [v1, v2])).alloc (.cells false [I d])).alloc (.cells false [I w])).alloc (.cells false [I 0, I 0])).alloc (.cells false [I d, I h.days.length, I w, I h.ws.length])) := GW
  have hE := wouldErr_enter (h := h) (d := d) (w := w)
  have hwE : wouldE h d w = if enterErr h [d, h.days.length, w, h.ws.length] (if getI (h.days.getD d.toNat []) w.toNat ≠ -1 then 5 else 0) ≠ 0 then ((0, 0), enterErr h [d, h.days.length, w, h.ws.length] (if getI (h.days.getD d.toNat []) w.toNat ≠ -1 then 5 else 0)) else
      if (wideL ((truthsE h).flatMap (canL h d.toNat w.toNat))).2 < 0 then ((0, 0), 9) else (wideL ((truthsE h).flatMap (canL h d.toNat w.toNat)), 0) := by
    rw [hE, wouldE_eq]
    by_cases h1 : wouldErr h d w = 0
    · by_cases h2 : truthsE h = []
      · simp [h1, h2]
      · simp [h1, h2]
    · simp [h1]
  refine CallQ_enter (fn:=c23) rfl (Nat.le_of_ble_eq_true rfl) ?_;simp(maxSteps:=9999999)(disch:=first|omega|(simp only[AN];omega))only[c23,envFrom,hh.1.len,hh.2.len,↓KP,EK,↓reduceIte,reduceCtorEq,Nat.reduceEqDiff,Nat.reduceAdd,Nat.reduceLeDiff,Nat.reduceMul]
  have hin : errE h = 0 → pairsOff [d, (h.days.length : Int), w, h.ws.length] = false → Fine h ∧ (0 ≤ d ∧ d < h.days.length) ∧ (0 ≤ w ∧ w < h.ws.length) := fun he hp => by
    simp only [pairsOff, offP, Bool.or_false, Bool.or_eq_false_iff, decide_eq_false_iff_not] at hp
    exact ⟨fine_of he, by omega, by omega⟩
  refine C_call (enter_run v1 v2 _ _ h [d, h.days.length, w, h.ws.length] (if getI (h.days.getD d.toNat []) w.toNat ≠ -1 then 5 else 0) (hh.grow hg0) (four_slice _ _ _ _ _) (by simp) (fun j hj hodd => ?_) rfl (fun he hp H1 R hg hk => ?_) (fun he H1 hg => ?_) (fun he hfine hne H1 N p m hg hm hheld => ?_))
  · have : j = 1 ∨ j = 3 := by simp at hj; omega
    have := hs.ws
    have := hs.days
    rcases ‹j = 1 ∨ j = 3› with rfl | rfl <;> (simp only [List.getElem_cons_succ, List.getElem_cons_zero]; omega)
  · obtain ⟨hfine, hd, hw⟩ := hin he hp
    obtain ⟨d', rfl⟩ : ∃ d' : Nat, d = d' := ⟨d.toNat, by omega⟩
    obtain ⟨w', rfl⟩ : ∃ w' : Nat, w = w' := ⟨w.toNat, by omega⟩
    have hd' : d' < h.days.length := by omega
    have hlen := hfine.len _ (List.getElem_mem hd')
    refine twice_run _ _ _ v1 v2 h d' w' ((hh.grow hg0).grow hg) (by simp(maxSteps:=9999999)(disch:=first|omega|(simp only[AN];omega))only[hg.get,↓KP,EK,↓reduceIte,reduceCtorEq,Nat.reduceEqDiff,Nat.reduceAdd,Nat.reduceLeDiff,Nat.reduceMul]) (by simp(maxSteps:=9999999)(disch:=first|omega|(simp only[AN];omega))only[hg.get,↓KP,EK,↓reduceIte,reduceCtorEq,Nat.reduceEqDiff,Nat.reduceAdd,Nat.reduceLeDiff,Nat.reduceMul]) (by simp(maxSteps:=9999999)(disch:=first|omega|(simp only[AN];omega))only[hg.get,↓KP,EK,↓reduceIte,reduceCtorEq,Nat.reduceEqDiff,Nat.reduceAdd,Nat.reduceLeDiff,Nat.reduceMul]) hd' (by omega) ?_
    have := hk H1 (Grew.refl _)
    simp only [Int.toNat_natCast, getD_eq hd', getI_eq (show w' < h.days[d'].length by omega)] at this
    exact this
  · have hgn := hg.next; simp only [AH.next_alloc] at hgn
    rw [hwE, if_pos he] at k
    generalize enterErr h [d, h.days.length, w, h.ws.length] (if getI (h.days.getD d.toNat []) w.toNat ≠ -1 then 5 else 0) = er at he k
    simp(maxSteps:=9999999)(disch:=first|omega|(simp only[AN];omega))only[he,hg.get,↓KP,EK,↓reduceIte,reduceCtorEq,Nat.reduceEqDiff,Nat.reduceAdd,Nat.reduceLeDiff,Nat.reduceMul]
    refine k _ ?_
    exact GW
  · have hgn := hg.next; simp only [AH.next_alloc] at hgn
    have hpe : errE h = 0 ∧ pairsOff [d, (h.days.length : Int), w, h.ws.length] = false := by
      unfold enterErr at he
      by_cases h1 : errE h = 0
      · by_cases h2 : pairsOff [d, (h.days.length : Int), w, h.ws.length] = true
        · rw [if_neg (by omega), if_pos h2] at he; cases he
        · exact ⟨h1, by simpa using h2⟩
      · rw [if_pos h1] at he; exact absurd he h1
    obtain ⟨_, hd, hw⟩ := hin hpe.1 hpe.2
    rw [hwE, if_neg (by omega)] at k
    obtain ⟨d', rfl⟩ : ∃ d' : Nat, d = d' := ⟨d.toNat, by omega⟩
    obtain ⟨w', rfl⟩ : ∃ w' : Nat, w = w' := ⟨w.toNat, by omega⟩
    simp only [AH.next_alloc] at hm
    simp only [Int.toNat_natCast] at k
    have hmlt := hheld.look.mlt
    have hnle := hheld.look.nle
    simp(maxSteps:=9999999)(disch:=first|omega|(simp only[AN];omega))only[hg.get,↓KP,EK,↓reduceIte,reduceCtorEq,Nat.reduceEqDiff,Nat.reduceAdd,Nat.reduceLeDiff,Nat.reduceMul]
    have e0 : ((H1.alloc (.cells false [.nilptr])).set H1.next (.cells false [.ptr p 0])).get H.next = some (.cells false [v1, v2]) := by simp(maxSteps:=9999999)(disch:=first|omega|(simp only[AN];omega))only[hg.get,↓KP,EK,↓reduceIte,reduceCtorEq,Nat.reduceEqDiff,Nat.reduceAdd,Nat.reduceLeDiff,Nat.reduceMul]
    have e1 : ((H1.alloc (.cells false [.nilptr])).set H1.next (.cells false [.ptr p 0])).get (H.next + 1) = some (.cells false [I d']) := by simp(maxSteps:=9999999)(disch:=first|omega|(simp only[AN];omega))only[hg.get,↓KP,EK,↓reduceIte,reduceCtorEq,Nat.reduceEqDiff,Nat.reduceAdd,Nat.reduceLeDiff,Nat.reduceMul]
    have e2 : ((H1.alloc (.cells false [.nilptr])).set H1.next (.cells false [.ptr p 0])).get (H.next + 1 + 1) = some (.cells false [I w']) := by simp(maxSteps:=9999999)(disch:=first|omega|(simp only[AN];omega))only[hg.get,↓KP,EK,↓reduceIte,reduceCtorEq,Nat.reduceEqDiff,Nat.reduceAdd,Nat.reduceLeDiff,Nat.reduceMul]
    have e3 : ((H1.alloc (.cells false [.nilptr])).set H1.next (.cells false [.ptr p 0])).get (H.next + 1 + 1 + 1) = some (.cells false [I 0, I 0]) := by simp(maxSteps:=9999999)(disch:=first|omega|(simp only[AN];omega))only[hg.get,↓KP,EK,↓reduceIte,reduceCtorEq,Nat.reduceEqDiff,Nat.reduceAdd,Nat.reduceLeDiff,Nat.reduceMul]
    have e4 : ((H1.alloc (.cells false [.nilptr])).set H1.next (.cells false [.ptr p 0])).get H1.next = some (.cells false [.ptr p 0]) := by simp(maxSteps:=9999999)(disch:=first|omega|(simp only[AN];omega))only[↓KP,EK,↓reduceIte,reduceCtorEq,Nat.reduceEqDiff,Nat.reduceAdd,Nat.reduceLeDiff,Nat.reduceMul]
    have hh1 : Held N p m v1 v2 h 0 ((H1.alloc (.cells false [.nilptr])).set H1.next (.cells false [.ptr p 0])) := hheld.up GW
    have hold : ∀ b, b < H.next → ((H1.alloc (.cells false [.nilptr])).set H1.next (.cells false [.ptr p 0])).get b = H.get b := fun b hb => by simp(maxSteps:=9999999)(disch:=first|omega|(simp only[AN];omega))only[hg.get,↓KP,EK,↓reduceIte,reduceCtorEq,Nat.reduceEqDiff,Nat.reduceAdd,Nat.reduceLeDiff,Nat.reduceMul]
    have hBn : ((H1.alloc (.cells false [.nilptr])).set H1.next (.cells false [.ptr p 0])).next = H1.next + 1 := rfl
    generalize (H1.alloc (.cells false [.nilptr])).set H1.next (.cells false [.ptr p 0]) = B at e0 e1 e2 e3 e4 hh1 hold hBn
    have hwa : Watch1 N p m H1.next v1 v2 h 0 B B := ⟨hh1, fun _ _ _ => rfl, e4, by omega, hnle⟩
    have hit := can_iter (N := N) (p := p) (m := m) (b1 := H1.next) (bc := H.next) (bw := H.next + 1 + 1) (bd := H.next + 1) (w := w') (d := d') (v1 := v1) (v2 := v2) (h := h) (B := B) hfine (by omega) (by omega) ⟨e0, by omega, by omega⟩ ⟨e2, by omega, by omega⟩ ⟨e1, by omega, by omega⟩
    rw [lookE_zero] at hit
    refine C_call (wide_run hit hwa fun H2 hn2 hi2 hs2 => ?_)
    have f3 : H2.get (H.next + 1 + 1 + 1) = some (.cells false [I 0, I 0]) := by rw [hi2.base _ (by omega) (by omega)]; exact e3
    have hg2 : Grew H H2 := ⟨by omega, fun b hb => by rw [hi2.base _ (by omega) (by omega)]; exact hold b hb⟩
    generalize wideL ((truthsE h).flatMap (canL h d' w')) = W at k
    simp(maxSteps:=9999999)(disch:=first|omega|(simp only[AN];omega))only[↓KP,EK,↓reduceIte,reduceCtorEq,Nat.reduceEqDiff,Nat.reduceAdd,Nat.reduceLeDiff,Nat.reduceMul]
    refine C_decide (fun hneg => ?_) (fun hneg => ?_)
    · simp(maxSteps:=9999999)(disch:=first|omega|(simp only[AN];omega))only[f3,↓KP,EK,↓reduceIte,reduceCtorEq,Nat.reduceEqDiff,Nat.reduceAdd,Nat.reduceLeDiff,Nat.reduceMul]
      rw [if_pos hneg] at k
      refine k _ ?_
      exact GW
    · simp(maxSteps:=9999999)(disch:=first|omega|(simp only[AN];omega))only[f3,↓KP,EK,↓reduceIte,reduceCtorEq,Nat.reduceEqDiff,Nat.reduceAdd,Nat.reduceLeDiff,Nat.reduceMul]
      rw [if_neg hneg] at k
      refine k _ ?_
      exact GW
end Go.Proofs.Ytgncpbkedhchfaa
namespace Go.Proofs.Ytgncpbkedhchfaa
open Go.AM Go.IntWalk
set_option maxRecDepth 100000
set_option maxHeartbeats 4000000
set_option linter.unusedSimpArgs false
variable {H : AH} {R : AV → AH → Prop}
def nWolf : ByteArray := bs [119, 111, 108, 102]
def nBerta : ByteArray := bs [98, 101, 114, 116, 97]
def nCarl : ByteArray := bs [99, 97, 114, 108]
def houseE (more : List (List Int)) : House := ⟨[⟨nWolf, 100, 100, 0⟩, ⟨nBerta, 110, 116, 1⟩, ⟨nCarl, 94, 100, 1⟩], [[60, 53, -1], [-1, 90, 104]] ++ more⟩
theorem span_run (a b : Int) (k : ∀ H', Grew H H' → R (.agg [I a, I b]) H') : CallQ prog (.func 33 [] []) [I a, I b] H R := by
  refine CallQ_enter (fn:=c33) rfl (Nat.le_of_ble_eq_true rfl) ?_;simp(maxSteps:=9999999)(disch:=first|omega|(simp only[AN];omega))only[c33,envFrom,↓KP,EN,↓reduceIte,reduceCtorEq,Nat.reduceEqDiff,Nat.reduceAdd,Nat.reduceLeDiff,Nat.reduceMul]
  refine k _ ?_
  exact GW
theorem ratio_run (a b : Int) (k : ∀ H', Grew H H' → R (.agg [I a, I b]) H') : CallQ prog (.func 34 [] []) [I a, I b] H R := by
  refine CallQ_enter (fn:=c34) rfl (Nat.le_of_ble_eq_true rfl) ?_;simp(maxSteps:=9999999)(disch:=first|omega|(simp only[AN];omega))only[c34,envFrom,↓KP,EN,↓reduceIte,reduceCtorEq,Nat.reduceEqDiff,Nat.reduceAdd,Nat.reduceLeDiff,Nat.reduceMul]
  refine k _ ?_
  exact GW
theorem House_run (v : AV) (more : List (List Int)) (hv : IsSl 1 (ESl 1 EInt) (Old H) H v more) (hm : more.length ≤ 10) (k : ∀ H' v1 v2, Grew H H' → IsHouse (Old H') H' v1 v2 (houseE more) → R (.agg [v1, v2]) H') : CallQ prog (.func 32 [] []) [v] H R := by
  have hg0 := (Grew.refl H).alloc (.cells false [.nilslice, .nilslice])
  refine CallQ_enter (fn:=c32) rfl (Nat.le_of_ble_eq_true rfl) ?_;simp(maxSteps:=9999999)(disch:=first|omega|(simp only[AN];omega))only[c32,envFrom,↓KP,EN,↓reduceIte,reduceCtorEq,Nat.reduceEqDiff,Nat.reduceAdd,Nat.reduceLeDiff,Nat.reduceMul]
  first|refine C_call ?_|refine C_calld ?_
  refine span_run 100 100 fun H1 hg1 => ?_
  have hg1n:=hg1.next;try simp only[AN]at hg1n
  simp(maxSteps:=9999999)(disch:=first|omega|(simp only[AN];omega))only[↓KP,EN,↓reduceIte,reduceCtorEq,Nat.reduceEqDiff,Nat.reduceAdd,Nat.reduceLeDiff,Nat.reduceMul]
  first|refine C_call ?_|refine C_calld ?_
  refine span_run 110 116 fun H2 hg2 => ?_
  have hg2n:=hg2.next;try simp only[AN]at hg2n
  simp(maxSteps:=9999999)(disch:=first|omega|(simp only[AN];omega))only[↓KP,EN,↓reduceIte,reduceCtorEq,Nat.reduceEqDiff,Nat.reduceAdd,Nat.reduceLeDiff,Nat.reduceMul]
  first|refine C_call ?_|refine C_calld ?_
  refine span_run 94 100 fun H3 hg3 => ?_
  have hg3n:=hg3.next;try simp only[AN]at hg3n
  simp(maxSteps:=9999999)(disch:=first|omega|(simp only[AN];omega))only[↓KP,EN,↓reduceIte,reduceCtorEq,Nat.reduceEqDiff,Nat.reduceAdd,Nat.reduceLeDiff,Nat.reduceMul]
  have hg3' : Grew H H3 := ((hg0.trans hg1).trans hg2).trans hg3
  have hwcells : [AV.str (bs [119, 111, 108, 102]), I 100, I 100, I 0, AV.str (bs [98, 101, 114, 116, 97]), I 110, I 116, I 1, AV.str (bs [99, 97, 114, 108]), I 94, I 100, I 1] = [AV.str nWolf, I 100, I 100, I 0, AV.str nBerta, I 110, I 116, I 1, AV.str nCarl, I 94, I 100, I 1] := rfl
  have b0 : ((((H3.alloc (.cells false [AV.str (bs [119, 111, 108, 102]), I 100, I 100, I 0, AV.str (bs [98, 101, 114, 116, 97]), I 110, I 116, I 1, AV.str (bs [99, 97, 114, 108]), I 94, I 100, I 1])).alloc (.cells false [I 60, I 53, I (-1)])).alloc (.cells false [I (-1), I 90, I 104])).alloc (.cells false [.slice (H3.next + 1) 0 3 1, .slice (H3.next + 1 + 1) 0 3 1])).get H3.next = some (.cells false [AV.str nWolf, I 100, I 100, I 0, AV.str nBerta, I 110, I 116, I 1, AV.str nCarl, I 94, I 100, I 1]) := by simp(maxSteps:=9999999)(disch:=first|omega|(simp only[AN];omega))only[↓KP,EN,↓reduceIte,reduceCtorEq,Nat.reduceEqDiff,Nat.reduceAdd,Nat.reduceLeDiff,Nat.reduceMul]; rfl
  have b1 : ((((H3.alloc (.cells false [AV.str (bs [119, 111, 108, 102]), I 100, I 100, I 0, AV.str (bs [98, 101, 114, 116, 97]), I 110, I 116, I 1, AV.str (bs [99, 97, 114, 108]), I 94, I 100, I 1])).alloc (.cells false [I 60, I 53, I (-1)])).alloc (.cells false [I (-1), I 90, I 104])).alloc (.cells false [.slice (H3.next + 1) 0 3 1, .slice (H3.next + 1 + 1) 0 3 1])).get (H3.next + 1) = some (.cells false [I 60, I 53, I (-1)]) := by simp(maxSteps:=9999999)(disch:=first|omega|(simp only[AN];omega))only[↓KP,EN,↓reduceIte,reduceCtorEq,Nat.reduceEqDiff,Nat.reduceAdd,Nat.reduceLeDiff,Nat.reduceMul]
  have b2 : ((((H3.alloc (.cells false [AV.str (bs [119, 111, 108, 102]), I 100, I 100, I 0, AV.str (bs [98, 101, 114, 116, 97]), I 110, I 116, I 1, AV.str (bs [99, 97, 114, 108]), I 94, I 100, I 1])).alloc (.cells false [I 60, I 53, I (-1)])).alloc (.cells false [I (-1), I 90, I 104])).alloc (.cells false [.slice (H3.next + 1) 0 3 1, .slice (H3.next + 1 + 1) 0 3 1])).get (H3.next + 1 + 1) = some (.cells false [I (-1), I 90, I 104]) := by simp(maxSteps:=9999999)(disch:=first|omega|(simp only[AN];omega))only[↓KP,EN,↓reduceIte,reduceCtorEq,Nat.reduceEqDiff,Nat.reduceAdd,Nat.reduceLeDiff,Nat.reduceMul]
  have b3 : ((((H3.alloc (.cells false [AV.str (bs [119, 111, 108, 102]), I 100, I 100, I 0, AV.str (bs [98, 101, 114, 116, 97]), I 110, I 116, I 1, AV.str (bs [99, 97, 114, 108]), I 94, I 100, I 1])).alloc (.cells false [I 60, I 53, I (-1)])).alloc (.cells false [I (-1), I 90, I 104])).alloc (.cells false [.slice (H3.next + 1) 0 3 1, .slice (H3.next + 1 + 1) 0 3 1])).get (H3.next + 1 + 1 + 1) = some (.cells false [.slice (H3.next + 1) 0 3 1, .slice (H3.next + 1 + 1) 0 3 1]) := by simp(maxSteps:=9999999)(disch:=first|omega|(simp only[AN];omega))only[↓KP,EN,↓reduceIte,reduceCtorEq,Nat.reduceEqDiff,Nat.reduceAdd,Nat.reduceLeDiff,Nat.reduceMul]
  have hgB : Grew H3 ((((H3.alloc (.cells false [AV.str (bs [119, 111, 108, 102]), I 100, I 100, I 0, AV.str (bs [98, 101, 114, 116, 97]), I 110, I 116, I 1, AV.str (bs [99, 97, 114, 108]), I 94, I 100, I 1])).alloc (.cells false [I 60, I 53, I (-1)])).alloc (.cells false [I (-1), I 90, I 104])).alloc (.cells false [.slice (H3.next + 1) 0 3 1, .slice (H3.next + 1 + 1) 0 3 1])) := GW
  have hBn : ((((H3.alloc (.cells false [AV.str (bs [119, 111, 108, 102]), I 100, I 100, I 0, AV.str (bs [98, 101, 114, 116, 97]), I 110, I 116, I 1, AV.str (bs [99, 97, 114, 108]), I 94, I 100, I 1])).alloc (.cells false [I 60, I 53, I (-1)])).alloc (.cells false [I (-1), I 90, I 104])).alloc (.cells false [.slice (H3.next + 1) 0 3 1, .slice (H3.next + 1 + 1) 0 3 1])).next = H3.next + 4 := rfl
  generalize (((H3.alloc (.cells false [AV.str (bs [119, 111, 108, 102]), I 100, I 100, I 0, AV.str (bs [98, 101, 114, 116, 97]), I 110, I 116, I 1, AV.str (bs [99, 97, 114, 108]), I 94, I 100, I 1])).alloc (.cells false [I 60, I 53, I (-1)])).alloc (.cells false [I (-1), I 90, I 104])).alloc (.cells false [.slice (H3.next + 1) 0 3 1, .slice (H3.next + 1 + 1) 0 3 1]) = B at b0 b1 b2 b3 hgB hBn
  have r1 : ∀ F : Nat → Prop, F (H3.next + 1) → IsInts F B (.slice (H3.next + 1) 0 3 1) [60, 53, -1] := fun F hF => .inr ⟨_, _, [I 60, I 53, I (-1)], rfl, hF, by unfold AH.read; rw [b1]; rfl, ints_rows [60, 53, -1]⟩
  have r2 : ∀ F : Nat → Prop, F (H3.next + 1 + 1) → IsInts F B (.slice (H3.next + 1 + 1) 0 3 1) [-1, 90, 104] := fun F hF => .inr ⟨_, _, [I (-1), I 90, I 104], rfl, hF, by unfold AH.read; rw [b2]; rfl, ints_rows [-1, 90, 104]⟩
  have hmine : Mine 1 (ESl 1 EInt) (fun b => b < H.next ∨ (H3.next ≤ b ∧ b < H3.next + 3)) (H3.next + 3) B (.slice (H3.next + 1 + 1 + 1) 0 2 1) [[60, 53, -1], [-1, 90, 104]] :=
    .inr ⟨_, _, _, [.slice (H3.next + 1) 0 3 1, .slice (H3.next + 1 + 1) 0 3 1], rfl, by omega, by omega, b3, rfl, Rows.cons (cs := [.slice (H3.next + 1) 0 3 1]) rfl ⟨_, rfl, r1 _ ⟨by omega, by omega, .inl (.inr (by omega))⟩⟩ (Rows.single rfl ⟨_, rfl, r2 _ ⟨by omega, by omega, .inl (.inr (by omega))⟩⟩)⟩
  have hgHB := hg3'.trans hgB
  have hn := hg3'.next
  have hvB := (hv.grow (ESl.stays EInt.stays) hgHB)
  obtain ⟨cells, hsc, hrc⟩ := hvB.src
  have hvH : IsSl 1 (ESl 1 EInt) (fun b => b < H.next) B v more := hv.move (ESl.stays EInt.stays) fun b hb => ⟨hb, hgHB.get b hb⟩
  obtain ⟨cells', hsc', hrc'⟩ := hvH.src
  obtain rfl : cells = cells' := by rw [hsc] at hsc'; simpa using hsc'
  obtain ⟨v', H4, a1, a2, a3, a4⟩ := hmine.append (bytes := 24) (ESl.stays EInt.stays) (by omega) hv.lenA hsc (hrc'.mono fun cs a h => ESl.stays EInt.stays _ _ _ _ _ _ (fun b hb => ⟨⟨by omega, fun i n y e => by simp only [AV.slice.injEq] at e; omega, .inl (.inl hb)⟩, rfl⟩) h) (Rows.allCell (fun cs a => ESl.isCell _ _ cs a) hrc) (by simp [roomA]; omega)
  have hold : ∀ b, b < H3.next + 3 → H4.get b = B.get b := fun b hb => a4 b (by omega) (fun i n z e => by simp only [AV.slice.injEq] at e; omega)
  have hg4 : Grew H H4 := ⟨by omega, fun b hb => by rw [hold b (by omega), hgHB.get b hb]⟩
  have hbx : H4.get H.next = some (.cells false [.nilslice, .nilslice]) := by rw [hold _ (by omega), hgB.get _ (by omega)]; simp(maxSteps:=9999999)(disch:=first|omega|(simp only[AN];omega))only[hg3.get,hg2.get,hg1.get,↓KP,EN,↓reduceIte,reduceCtorEq,Nat.reduceEqDiff,Nat.reduceAdd,Nat.reduceLeDiff,Nat.reduceMul]
  simp(maxSteps:=9999999)(disch:=first|omega|(simp only[AN];omega))only[a1,a2.cells?,a2.isCell,hbx,↓KP,EN,↓reduceIte,reduceCtorEq,Nat.reduceEqDiff,Nat.reduceAdd,Nat.reduceLeDiff,Nat.reduceMul]
  have hgF : ∀ o, Grew H (H4.set H.next o) := fun o => GW
  refine k _ _ _ (hgF _) ⟨?_, ?_⟩
  · have hw : IsSl 4 EWatcher (fun b => b = H3.next) H4 (.slice H3.next 0 3 4) (houseE more).ws := .inr ⟨_, _, [AV.str nWolf, I 100, I 100, I 0, AV.str nBerta, I 110, I 116, I 1, AV.str nCarl, I 94, I 100, I 1], rfl, rfl, by unfold AH.read; rw [hold _ (by omega), b0]; rfl, Rows.cons (cs := [AV.str nWolf, I 100, I 100, I 0]) rfl rfl (Rows.cons (cs := [AV.str nBerta, I 110, I 116, I 1]) rfl rfl (Rows.single rfl rfl))⟩
    exact hw.move EWatcher.stays fun b hb => ⟨by subst hb; show H3.next < H4.next; omega, get_set_other (by omega)⟩
  · have := a2.move (ESl.stays EInt.stays) (H' := H4.set H.next (.cells false [.slice H3.next 0 3 4, v'])) (fun b hb hb' => get_set_other ?_) (Nat.le_refl _)
    · exact this.sl (ESl.stays EInt.stays)
    · rcases hb' with (h | h) | h <;> omega
theorem n1 : isName nWolf = true := by unfold isName nWolf; rw [ByteArray.toList_eq]; decide
theorem n2 : isName nBerta = true := by unfold isName nBerta; rw [ByteArray.toList_eq]; decide
theorem n3 : isName nCarl = true := by unfold isName nCarl; rw [ByteArray.toList_eq]; decide
theorem n12 : (nWolf.toList == nBerta.toList) = false := by unfold nWolf nBerta; rw [ByteArray.toList_eq, ByteArray.toList_eq]; decide
theorem n13 : (nWolf.toList == nCarl.toList) = false := by unfold nWolf nCarl; rw [ByteArray.toList_eq, ByteArray.toList_eq]; decide
theorem n23 : (nBerta.toList == nCarl.toList) = false := by unfold nBerta nCarl; rw [ByteArray.toList_eq, ByteArray.toList_eq]; decide
theorem errE_house (more : List (List Int)) (hm : more.length ≤ 2) (hd : firstErr (dE (houseE more)) 0 (houseE more).days = none) : errE (houseE more) = 0 := by
  have hw : firstErr (wE (houseE more)) 0 (houseE more).ws = none := by
    have f1 : freshE nWolf [] = 0 := by simp [freshE, n1]
    have f2 : freshE nBerta [nWolf] = 0 := by simp [freshE, n2, n12]
    have f3 : freshE nCarl [nWolf, nBerta] = 0 := by simp [freshE, n3, n13, n23]
    have w1 : watcherE ⟨nWolf, 100, 100, 0⟩ = 0 := by unfold watcherE endsE; decide
    have w2 : watcherE ⟨nBerta, 110, 116, 1⟩ = 0 := by unfold watcherE endsE; decide
    have w3 : watcherE ⟨nCarl, 94, 100, 1⟩ = 0 := by unfold watcherE endsE; decide
    simp [houseE, firstErr, wE, f1, f2, f3, w1, w2, w3]
  have q1 : ¬ 4 < (houseE more).days.length := by simp [houseE]; omega
  have q2 : ¬ 3 < (houseE more).ws.length := by simp [houseE]
  unfold errE checkE
  rw [hw, hd, if_neg q2]
  simp only []
  rw [if_neg q1]
theorem ex_err : errE (houseE []) = 0 := errE_house [] (by simp) (by decide +kernel)
theorem ex_err2 : errE (houseE [[50, -1, 60]]) = 0 := errE_house [[50, -1, 60]] (by simp) (by decide +kernel)
theorem ex_factor : factorE (houseE []) 2 = ((95, 100), 0) := by
  unfold factorE indexE; rw [ex_err]; decide +kernel
theorem ex_number : numberE (houseE []) 1 = ((9968, 10465), 0) := by
  unfold numberE indexE; rw [ex_err]; decide +kernel
theorem ex_would : wouldE (houseE []) 0 2 = ((59, 64), 0) := by
  rw [wouldE_eq]; unfold wouldErr indexE; rw [ex_err]; decide +kernel
theorem ex_would0 : wouldE (houseE []) 0 0 = ((0, 0), 5) := by
  rw [wouldE_eq]; unfold wouldErr indexE; rw [ex_err]; decide +kernel
theorem ex_between : betweenE (houseE []) 1 2 = (((57, 50), (112, 95)), 0) := by
  unfold betweenE pairErr indexE; rw [ex_err]; decide +kernel
theorem ex_next : nextE (houseE []) = ((0, 2), 0) := by
  unfold nextE; rw [ex_err]; decide +kernel
theorem ex_wrong : wrongE (houseE [[50, -1, 60]]) = ([6], 0) := by
  unfold wrongE; rw [ex_err2]; decide +kernel
theorem ex_zero : factorE (houseE [[50, -1, 60]]) 0 = ((0, 0), 8) := by
  unfold factorE indexE; rw [ex_err2]; decide +kernel
theorem sized_house (more : List (List Int)) (h : more.length ≤ 10) : Sized (houseE more) := by
  refine ⟨fun w hw => ?_, by simp [houseE], by simp [houseE]; omega⟩
  simp only [houseE, List.mem_cons, List.not_mem_nil, or_false] at hw
  rcases hw with rfl | rfl | rfl <;> (show ByteArray.size _ ≤ _; decide)
theorem Awake_run (k : ∀ H', Grew H H' → R (.bool true) H') : CallQ prog (.func 22 [] []) [] H R := by
  refine CallQ_enter (fn:=c22) rfl (Nat.le_of_ble_eq_true rfl) ?_;simp(maxSteps:=9999999)(disch:=first|omega|(simp only[AN];omega))only[c22,envFrom,↓KP,EN,↓reduceIte,reduceCtorEq,Nat.reduceEqDiff,Nat.reduceAdd,Nat.reduceLeDiff,Nat.reduceMul]
  refine C_call (House_run .nilslice [] (.inl ⟨rfl, rfl⟩) (by simp) fun H1 a1 a2 hg1 hh1 => ?_)
  have hg1n := hg1.next
  have hsl : IsSl 1 (ESl 1 EInt) (Old ((H1.alloc (.cells false [I 50, I (-1), I 60])).alloc (.cells false [.slice H1.next 0 3 1]))) ((H1.alloc (.cells false [I 50, I (-1), I 60])).alloc (.cells false [.slice H1.next 0 3 1])) (.slice (H1.next + 1) 0 1 1) [[50, -1, 60]] :=
    .inr ⟨_, _, [.slice H1.next 0 3 1], rfl, by show H1.next + 1 < H1.next + 1 + 1; omega, by simp(maxSteps:=9999999)(disch:=first|omega|(simp only[AN];omega))only[↓KP,EN,↓reduceIte,reduceCtorEq,Nat.reduceEqDiff,Nat.reduceAdd,Nat.reduceLeDiff,Nat.reduceMul]; rfl, Rows.single rfl ⟨_, rfl, .inr ⟨_, _, [I 50, I (-1), I 60], rfl, by show H1.next < H1.next + 1 + 1; omega, by simp [AH.read, AH.get_alloc, readN], ints_rows [50, -1, 60]⟩⟩⟩
  simp(maxSteps:=9999999)(disch:=first|omega|(simp only[AN];omega))only[↓KP,EN,↓reduceIte,reduceCtorEq,Nat.reduceEqDiff,Nat.reduceAdd,Nat.reduceLeDiff,Nat.reduceMul]
  refine C_call (House_run _ [[50, -1, 60]] hsl (by simp) fun H2 b1 b2 hg2 hh2 => ?_)
  have hg2n := hg2.next; simp only [AH.next_alloc] at hg2n
  have hh1' : IsHouse (Old H2) H2 a1 a2 (houseE []) := hh1.grow (Grew.trans GW hg2)
  have hg2' : Grew H H2 := Grew.trans GW hg2
  simp(maxSteps:=9999999)(disch:=first|omega|(simp only[AN];omega))only[hh1'.1.isCell,hh1'.2.isCell,hh2.1.isCell,hh2.2.isCell,↓KP,EN,↓reduceIte,reduceCtorEq,Nat.reduceEqDiff,Nat.reduceAdd,Nat.reduceLeDiff,Nat.reduceMul]
  first|refine C_call ?_|refine C_calld ?_
  refine Factor_run a1 a2 (houseE []) 2 (hh1'.grow GW) (sized_house _ (by simp)) fun H3 hg3 => ?_
  have hg3n:=hg3.next;try simp only[AN]at hg3n
  rw [ex_factor]
  simp(maxSteps:=9999999)(disch:=first|omega|(simp only[AN];omega))only[hg3.get,↓KP,EN,↓reduceIte,reduceCtorEq,Nat.reduceEqDiff,Nat.reduceAdd,Nat.reduceLeDiff,Nat.reduceMul]
  first|refine C_call ?_|refine C_calld ?_
  refine Number_run a1 a2 (houseE []) 1 (hh1'.grow GW) (sized_house _ (by simp)) fun H4 hg4 => ?_
  have hg4n:=hg4.next;try simp only[AN]at hg4n
  rw [ex_number]
  simp(maxSteps:=9999999)(disch:=first|omega|(simp only[AN];omega))only[hg4.get,hg3.get,↓KP,EN,↓reduceIte,reduceCtorEq,Nat.reduceEqDiff,Nat.reduceAdd,Nat.reduceLeDiff,Nat.reduceMul]
  first|refine C_call ?_|refine C_calld ?_
  refine Would_run a1 a2 (houseE []) 0 2 (hh1'.grow GW) (sized_house _ (by simp)) fun H5 hg5 => ?_
  have hg5n:=hg5.next;try simp only[AN]at hg5n
  rw [ex_would]
  simp(maxSteps:=9999999)(disch:=first|omega|(simp only[AN];omega))only[hg5.get,hg4.get,hg3.get,↓KP,EN,↓reduceIte,reduceCtorEq,Nat.reduceEqDiff,Nat.reduceAdd,Nat.reduceLeDiff,Nat.reduceMul]
  first|refine C_call ?_|refine C_calld ?_
  refine pBetween_run a1 a2 (houseE []) 1 2 (hh1'.grow GW) (sized_house _ (by simp)) fun H6 hg6 => ?_
  have hg6n:=hg6.next;try simp only[AN]at hg6n
  rw [ex_between]
  simp(maxSteps:=9999999)(disch:=first|omega|(simp only[AN];omega))only[hg6.get,hg5.get,hg4.get,hg3.get,↓KP,EN,↓reduceIte,reduceCtorEq,Nat.reduceEqDiff,Nat.reduceAdd,Nat.reduceLeDiff,Nat.reduceMul]
  first|refine C_call ?_|refine C_calld ?_
  refine pNext_run a1 a2 (houseE []) (hh1'.grow GW) fun H7 hg7 => ?_
  have hg7n:=hg7.next;try simp only[AN]at hg7n
  rw [ex_next]
  simp(maxSteps:=9999999)(disch:=first|omega|(simp only[AN];omega))only[hg7.get,hg6.get,hg5.get,hg4.get,hg3.get,↓KP,EN,↓reduceIte,reduceCtorEq,Nat.reduceEqDiff,Nat.reduceAdd,Nat.reduceLeDiff,Nat.reduceMul]
  refine C_call (Wrong_run b1 b2 (houseE [[50, -1, 60]]) (hh2.grow GW) fun H8 v8 hg8 hv8 => ?_)
  have hg8n := hg8.next; try simp only [AH.next_alloc, AH.next_set] at hg8n
  rw [ex_wrong] at hv8 ⊢
  simp(maxSteps:=9999999)(disch:=first|omega|(simp only[AN];omega))only[hg8.get,hg7.get,hg6.get,hg5.get,hg4.get,hg3.get,↓KP,EN,↓reduceIte,reduceCtorEq,Nat.reduceEqDiff,Nat.reduceAdd,Nat.reduceLeDiff,Nat.reduceMul]
  first|refine C_call ?_|refine C_calld ?_
  refine Factor_run b1 b2 (houseE [[50, -1, 60]]) 0 (hh2.grow GW) (sized_house _ (by simp)) fun H9 hg9 => ?_
  have hg9n:=hg9.next;try simp only[AN]at hg9n
  rw [ex_zero]
  simp(maxSteps:=9999999)(disch:=first|omega|(simp only[AN];omega))only[hg9.get,hg8.get,hg7.get,hg6.get,hg5.get,hg4.get,hg3.get,↓KP,EN,↓reduceIte,reduceCtorEq,Nat.reduceEqDiff,Nat.reduceAdd,Nat.reduceLeDiff,Nat.reduceMul]
  first|refine C_call ?_|refine C_calld ?_
  refine Would_run a1 a2 (houseE []) 0 0 (hh1'.grow GW) (sized_house _ (by simp)) fun H10 hg10 => ?_
  have hg10n:=hg10.next;try simp only[AN]at hg10n
  rw [ex_would0]
  simp(maxSteps:=9999999)(disch:=first|omega|(simp only[AN];omega))only[hg10.get,hg9.get,hg8.get,hg7.get,hg6.get,hg5.get,hg4.get,hg3.get,↓KP,EN,↓reduceIte,reduceCtorEq,Nat.reduceEqDiff,Nat.reduceAdd,Nat.reduceLeDiff,Nat.reduceMul]
  have eqs : ∀ a b : Int, eqFlatA true [.i, .i] (.agg [I a, I b]) (.agg [I a, I b]) = some true := fun a b => by simp [eqFlatA, eqCells]
  refine K_draw ?_
  simp(maxSteps:=9999999)(disch:=first|omega|(simp only[AN];omega))only[eqs,hg10.get,hg9.get,hg8.get,hg7.get,hg6.get,hg5.get,hg4.get,hg3.get,↓KP,EN,↓reduceIte,reduceCtorEq,Nat.reduceEqDiff,Nat.reduceAdd,Nat.reduceLeDiff,Nat.reduceMul]
  first|refine C_call ?_|refine C_calld ?_
  refine span_run 95 100 fun H11 hg11 => ?_
  have hg11n:=hg11.next;try simp only[AN]at hg11n
  simp(maxSteps:=9999999)(disch:=first|omega|(simp only[AN];omega))only[eqs,hg11.get,hg10.get,hg9.get,hg8.get,hg7.get,hg6.get,hg5.get,hg4.get,hg3.get,↓KP,EN,↓reduceIte,reduceCtorEq,Nat.reduceEqDiff,Nat.reduceAdd,Nat.reduceLeDiff,Nat.reduceMul]
  first|refine C_call ?_|refine C_calld ?_
  refine span_run 9968 10465 fun H12 hg12 => ?_
  have hg12n:=hg12.next;try simp only[AN]at hg12n
  simp(maxSteps:=9999999)(disch:=first|omega|(simp only[AN];omega))only[eqs,hg12.get,hg11.get,hg10.get,hg9.get,hg8.get,hg7.get,hg6.get,hg5.get,hg4.get,hg3.get,↓KP,EN,↓reduceIte,reduceCtorEq,Nat.reduceEqDiff,Nat.reduceAdd,Nat.reduceLeDiff,Nat.reduceMul]
  first|refine C_call ?_|refine C_calld ?_
  refine span_run 59 64 fun H13 hg13 => ?_
  have hg13n:=hg13.next;try simp only[AN]at hg13n
  simp(maxSteps:=9999999)(disch:=first|omega|(simp only[AN];omega))only[eqs,hg13.get,hg12.get,hg11.get,hg10.get,hg9.get,hg8.get,hg7.get,hg6.get,hg5.get,hg4.get,hg3.get,↓KP,EN,↓reduceIte,reduceCtorEq,Nat.reduceEqDiff,Nat.reduceAdd,Nat.reduceLeDiff,Nat.reduceMul]
  first|refine C_call ?_|refine C_calld ?_
  refine ratio_run 57 50 fun H14 hg14 => ?_
  have hg14n:=hg14.next;try simp only[AN]at hg14n
  simp(maxSteps:=9999999)(disch:=first|omega|(simp only[AN];omega))only[eqs,hg14.get,hg13.get,hg12.get,hg11.get,hg10.get,hg9.get,hg8.get,hg7.get,hg6.get,hg5.get,hg4.get,hg3.get,↓KP,EN,↓reduceIte,reduceCtorEq,Nat.reduceEqDiff,Nat.reduceAdd,Nat.reduceLeDiff,Nat.reduceMul]
  first|refine C_call ?_|refine C_calld ?_
  refine ratio_run 112 95 fun H15 hg15 => ?_
  have hg15n:=hg15.next;try simp only[AN]at hg15n
  simp(maxSteps:=9999999)(disch:=first|omega|(simp only[AN];omega))only[eqs,hg15.get,hg14.get,hg13.get,hg12.get,hg11.get,hg10.get,hg9.get,hg8.get,hg7.get,hg6.get,hg5.get,hg4.get,hg3.get,↓KP,EN,↓reduceIte,reduceCtorEq,Nat.reduceEqDiff,Nat.reduceAdd,Nat.reduceLeDiff,Nat.reduceMul]
  refine C_calld (Ints_run v8 _ [6] [6] (hv8.grow EInt.stays GW) (one_slice H15 6) (by simp) ?_)
  simp(maxSteps:=9999999)(disch:=first|omega|(simp only[AN];omega))only[hg15.get,hg14.get,hg13.get,hg12.get,hg11.get,hg10.get,hg9.get,hg8.get,hg7.get,hg6.get,hg5.get,hg4.get,hg3.get,↓KP,EN,↓reduceIte,reduceCtorEq,Nat.reduceEqDiff,Nat.reduceAdd,Nat.reduceLeDiff,Nat.reduceMul]
  exact k _ GW
end Go.Proofs.Ytgncpbkedhchfaa
namespace Go.Proofs.Ytgncpbkedhchfaa
open Go.AM Go.IntWalk
set_option maxRecDepth 100000
set_option maxHeartbeats 4000000
set_option linter.unusedSimpArgs false
variable {H : AH} {R : AV → AH → Prop}
def validE (h : House) : Bool := decide (errE h = 0)
def someE (h : House) : Bool := validE h && decide (0 < (truthsE h).length)
theorem valid_run (v1 v2 : AV) (h : House) (hh : IsHouse (Old H) H v1 v2 h) (hs : Sized h) (k : ∀ H', Grew H H' → R (.bool (validE h)) H') : CallQ prog (.func 35 [] []) [.agg [v1, v2]] H R := by
  refine CallQ_enter (fn:=c35) rfl (Nat.le_of_ble_eq_true rfl) ?_;simp(maxSteps:=9999999)(disch:=first|omega|(simp only[AN];omega))only[c35,envFrom,hh.1.isCell,hh.2.isCell,↓KP,EN,↓reduceIte,reduceCtorEq,Nat.reduceEqDiff,Nat.reduceAdd,Nat.reduceLeDiff,Nat.reduceMul]
  first|refine C_call ?_|refine C_calld ?_
  refine rCheck_run v1 v2 h (hh.grow GW) hs.name hs.ws hs.days fun H1 hg1 => ?_
  have hg1n:=hg1.next;try simp only[AN]at hg1n
  simp(maxSteps:=9999999)(disch:=first|omega|(simp only[AN];omega))only[hg1.get,↓KP,EN,↓reduceIte,reduceCtorEq,Nat.reduceEqDiff,Nat.reduceAdd,Nat.reduceLeDiff,Nat.reduceMul]
  exact k _ GW
def properE (p : Int × Int) : Bool := (decide (1 ≤ p.1) && decide (p.1 ≤ 300)) && (decide (1 ≤ p.2) && decide (p.2 ≤ 300))
theorem proper_run (p : Int × Int) (k : ∀ H', Grew H H' → R (.bool (properE p)) H') : CallQ prog (.func 38 [] []) [.agg [I p.1, I p.2]] H R := by
  refine CallQ_enter (fn:=c38) rfl (Nat.le_of_ble_eq_true rfl) ?_;simp(maxSteps:=9999999)(disch:=first|omega|(simp only[AN];omega))only[c38,envFrom,↓KP,EN,↓reduceIte,reduceCtorEq,Nat.reduceEqDiff,Nat.reduceAdd,Nat.reduceLeDiff,Nat.reduceMul]
  first|refine C_call ?_|refine C_calld ?_
  refine In_run p.1 1 300 ?_
  rw [properE] at k
  cases hc : (decide (1 ≤ p.1) && decide (p.1 ≤ 300)) with
  | false =>
    rw [hc, Bool.false_and] at k
    simp(maxSteps:=9999999)(disch:=first|omega|(simp only[AN];omega))only[↓KP,EN,↓reduceIte,reduceCtorEq,Nat.reduceEqDiff,Nat.reduceAdd,Nat.reduceLeDiff,Nat.reduceMul]
    exact k _ GW
  | true =>
    rw [hc, Bool.true_and] at k
    simp(maxSteps:=9999999)(disch:=first|omega|(simp only[AN];omega))only[↓KP,EN,↓reduceIte,reduceCtorEq,Nat.reduceEqDiff,Nat.reduceAdd,Nat.reduceLeDiff,Nat.reduceMul]
    first|refine C_call ?_|refine C_calld ?_
    refine In_run p.2 1 300 ?_
    simp(maxSteps:=9999999)(disch:=first|omega|(simp only[AN];omega))only[↓KP,EN,↓reduceIte,reduceCtorEq,Nat.reduceEqDiff,Nat.reduceAdd,Nat.reduceLeDiff,Nat.reduceMul]
    exact k _ GW
def betwE (q p r : Int × Int) : Bool := !decide (ltE q p) && !decide (ltE r q)
theorem betw_run (q p r : Int × Int) (hq : InR 90000 q) (hp : InR 90000 p) (hr : InR 90000 r) (k : ∀ H', Grew H H' → R (.bool (betwE q p r)) H') : CallQ prog (.func 39 [] []) [.agg [I q.1, I q.2], .agg [I p.1, I p.2], .agg [I r.1, I r.2]] H R := by
  refine CallQ_enter (fn:=c39) rfl (Nat.le_of_ble_eq_true rfl) ?_;simp(maxSteps:=9999999)(disch:=first|omega|(simp only[AN];omega))only[c39,envFrom,↓KP,EN,↓reduceIte,reduceCtorEq,Nat.reduceEqDiff,Nat.reduceAdd,Nat.reduceLeDiff,Nat.reduceMul]
  first|refine C_call ?_|refine C_calld ?_
  refine BelowI_run q p hq hp fun H1 hg1 => ?_
  have hg1n:=hg1.next;try simp only[AN]at hg1n
  rw [betwE] at k
  cases hc : decide (ltE q p) with
  | true =>
    rw [hc, Bool.not_true, Bool.false_and] at k
    simp(maxSteps:=9999999)(disch:=first|omega|(simp only[AN];omega))only[hg1.get,↓KP,EN,↓reduceIte,reduceCtorEq,Nat.reduceEqDiff,Nat.reduceAdd,Nat.reduceLeDiff,Nat.reduceMul]
    exact k _ GW
  | false =>
    rw [hc, Bool.not_false, Bool.true_and] at k
    simp(maxSteps:=9999999)(disch:=first|omega|(simp only[AN];omega))only[hg1.get,↓KP,EN,↓reduceIte,reduceCtorEq,Nat.reduceEqDiff,Nat.reduceAdd,Nat.reduceLeDiff,Nat.reduceMul]
    first|refine C_call ?_|refine C_calld ?_
    refine BelowI_run r q hr hq fun H2 hg2 => ?_
    have hg2n:=hg2.next;try simp only[AN]at hg2n
    simp(maxSteps:=9999999)(disch:=first|omega|(simp only[AN];omega))only[hg2.get,hg1.get,↓KP,EN,↓reduceIte,reduceCtorEq,Nat.reduceEqDiff,Nat.reduceAdd,Nat.reduceLeDiff,Nat.reduceMul]
    exact k _ GW
def withinE (a b : Int × Int) : Bool := decide (b.1 ≤ a.1) && decide (a.2 ≤ b.2)
def lessE : List Int → List Int → Bool
  | [], [] => false
  | [], _ :: _ => true
  | _ :: _, [] => false
  | a :: as, b :: bs => if a = b then lessE as bs else decide (a < b)
def fewerE (a b : List Int) : Bool := decide ((a.length : Int) < b.length) || (decide ((a.length : Int) = b.length) && lessE a b)
end Go.Proofs.Ytgncpbkedhchfaa
namespace Go.Proofs.Ytgncpbkedhchfaa
def leE (p q : Int × Int) : Prop := p.1 * q.2 ≤ q.1 * p.2
theorem not_ltE {p q : Int × Int} : ¬ ltE p q ↔ leE q p := Int.not_lt
theorem leE_trans {p q r : Int × Int} (hp : 0 < p.2) (hq : 0 < q.2) (hr : 0 < r.2) (h1 : leE p q) (h2 : leE q r) : leE p r := by
  unfold leE at *
  have a := Int.mul_le_mul_of_nonneg_right h1 (Int.le_of_lt hr)
  have b := Int.mul_le_mul_of_nonneg_right h2 (Int.le_of_lt hp)
  have c : (p.1 * r.2) * q.2 ≤ (r.1 * p.2) * q.2 := by grind
  exact Int.le_of_mul_le_mul_right c hq
theorem leE_refl (p : Int × Int) : leE p p := Int.le_refl _
theorem quotFold_spec : ∀ {l : List (Int × Int)} {s : (Int × Int) × (Int × Int)}, (∀ q ∈ l, 0 < q.2) → 0 < s.1.2 → 0 < s.2.2 →
    (∀ q ∈ l, leE (l.foldl quotStep s).1 q ∧ leE q (l.foldl quotStep s).2) ∧ leE (l.foldl quotStep s).1 s.1 ∧ leE s.2 (l.foldl quotStep s).2 ∧
    ((l.foldl quotStep s).1 = s.1 ∨ (l.foldl quotStep s).1 ∈ l) ∧ ((l.foldl quotStep s).2 = s.2 ∨ (l.foldl quotStep s).2 ∈ l)
  | [], s, _, _, _ => ⟨fun _ h => (List.not_mem_nil h).elim, leE_refl _, leE_refl _, .inl rfl, .inl rfl⟩
  | q :: l, s, hl, h1, h2 => by
    have hq := hl q (by simp)
    have hll := fun x hx => hl x (List.mem_cons_of_mem q hx)
    have g1 : 0 < (quotStep s q).1.2 := by show 0 < (if ltE q s.1 then q else s.1).2; split <;> assumption
    have g2 : 0 < (quotStep s q).2.2 := by show 0 < (if ltE s.2 q then q else s.2).2; split <;> assumption
    obtain ⟨i1, i2, i3, i4, i5⟩ := quotFold_spec (l := l) (s := quotStep s q) hll g1 g2
    have a1 : leE (quotStep s q).1 q ∧ leE (quotStep s q).1 s.1 ∧ ((quotStep s q).1 = s.1 ∨ (quotStep s q).1 = q) := by
      show leE (if ltE q s.1 then q else s.1) q ∧ leE (if ltE q s.1 then q else s.1) s.1 ∧ ((if ltE q s.1 then q else s.1) = s.1 ∨ (if ltE q s.1 then q else s.1) = q)
      split
      · rename_i hc; exact ⟨leE_refl _, Int.le_of_lt hc, .inr rfl⟩
      · rename_i hc; exact ⟨not_ltE.1 hc, leE_refl _, .inl rfl⟩
    have a2 : leE q (quotStep s q).2 ∧ leE s.2 (quotStep s q).2 ∧ ((quotStep s q).2 = s.2 ∨ (quotStep s q).2 = q) := by
      show leE q (if ltE s.2 q then q else s.2) ∧ leE s.2 (if ltE s.2 q then q else s.2) ∧ ((if ltE s.2 q then q else s.2) = s.2 ∨ (if ltE s.2 q then q else s.2) = q)
      split
      · rename_i hc; exact ⟨leE_refl _, Int.le_of_lt hc, .inr rfl⟩
      · rename_i hc; exact ⟨not_ltE.1 hc, leE_refl _, .inl rfl⟩
    have f1 : 0 < ((q :: l).foldl quotStep s).1.2 := by
      rcases i4 with h | h
      · rw [List.foldl_cons, h]; exact g1
      · exact hll _ h
    have f2 : 0 < ((q :: l).foldl quotStep s).2.2 := by
      rcases i5 with h | h
      · rw [List.foldl_cons, h]; exact g2
      · exact hll _ h
    refine ⟨fun x hx => ?_, leE_trans f1 g1 h1 i2 a1.2.1, leE_trans h2 g2 f2 a2.2.1 i3, ?_, ?_⟩
    · rcases List.mem_cons.1 hx with rfl | hx
      · exact ⟨leE_trans f1 g1 hq i2 a1.1, leE_trans hq g2 f2 a2.1 i3⟩
      · exact i1 x hx
    · rcases i4 with h | h
      · rcases a1.2.2 with h' | h'
        · exact .inl (h.trans h')
        · exact .inr (by rw [List.foldl_cons, h, h']; simp)
      · exact .inr (List.mem_cons_of_mem _ h)
    · rcases i5 with h | h
      · rcases a2.2.2 with h' | h'
        · exact .inl (h.trans h')
        · exact .inr (by rw [List.foldl_cons, h, h']; simp)
      · exact .inr (List.mem_cons_of_mem _ h)
theorem quotE_spec {l : List (Int × Int)} (h0 : l ≠ []) (hl : ∀ q ∈ l, 0 < q.2) : (∀ q ∈ l, leE (quotE l).1 q ∧ leE q (quotE l).2) ∧ (quotE l).1 ∈ l ∧ (quotE l).2 ∈ l := by
  cases l with
  | nil => exact absurd rfl h0
  | cons q l =>
    have hq := hl q (by simp)
    obtain ⟨i1, i2, i3, i4, i5⟩ := quotFold_spec (l := l) (s := (q, q)) (fun x hx => hl x (List.mem_cons_of_mem q hx)) hq hq
    refine ⟨fun x hx => ?_, ?_, ?_⟩
    · rcases List.mem_cons.1 hx with rfl | hx
      · exact ⟨i2, i3⟩
      · exact i1 x hx
    · rcases i4 with h | h
      · exact List.mem_cons.2 (.inl h)
      · exact List.mem_cons_of_mem _ h
    · rcases i5 with h | h
      · exact List.mem_cons.2 (.inl h)
      · exact List.mem_cons_of_mem _ h
end Go.Proofs.Ytgncpbkedhchfaa
namespace Go.Proofs.Ytgncpbkedhchfaa
open Go.AM Go.IntWalk
set_option maxRecDepth 100000
set_option maxHeartbeats 4000000
set_option linter.unusedSimpArgs false
variable {H : AH} {R : AV → AH → Prop}
theorem someE_true {h : House} (hs : someE h = true) : errE h = 0 ∧ Fine h ∧ truthsE h ≠ [] := by
  simp only [someE, validE, Bool.and_eq_true, decide_eq_true_eq] at hs
  exact ⟨hs.1, fine_of hs.1, fun h0 => by rw [h0] at hs; exact absurd hs.2 (by decide)⟩
theorem betweenE_ok {h : House} (hs : someE h = true) {a b : Nat} (ha : a < h.ws.length) (hb : b < h.ws.length) : betweenE h a b = (quotE (quotsOf (truthsE h) a b), 0) := by
  obtain ⟨h1, h2, h3⟩ := someE_true hs
  have e1 : indexE h a h.ws.length = 0 := by rw [indexE, if_pos h1, if_pos (by omega)]
  have e2 : indexE h b h.ws.length = 0 := by rw [indexE, if_pos h1, if_pos (by omega)]
  have e3 : pairErr h a b = 0 := by rw [pairErr, e1, e2]; rfl
  rw [betweenE, e3, if_neg (by decide), if_neg h3, Int.toNat_natCast, Int.toNat_natCast]
structure Quots (h : House) (a b : Nat) (P : (Int × Int) × (Int × Int)) : Prop where
  ok : betweenE h a b = (P, 0)
  i1 : InR 300 P.1
  i2 : InR 300 P.2
  all : ∀ fs ∈ truthsE h, leE P.1 (lowE (getI fs a) (getI fs b)) ∧ leE (lowE (getI fs a) (getI fs b)) P.2
  m1 : ∃ fs ∈ truthsE h, P.1 = lowE (getI fs a) (getI fs b)
  m2 : ∃ fs ∈ truthsE h, P.2 = lowE (getI fs a) (getI fs b)
theorem quots {h : House} (hs : someE h = true) {a b : Nat} (ha : a < h.ws.length) (hb : b < h.ws.length) : ∃ P, Quots h a b P := by
  obtain ⟨h1, h2, h3⟩ := someE_true hs
  have hin := quotsOf_in (truthsE_factors h2) ha hb
  have h0 : quotsOf (truthsE h) a b ≠ [] := by unfold quotsOf; simpa using h3
  obtain ⟨q1, q2⟩ := quotE_in hin h0
  obtain ⟨s1, s2, s3⟩ := quotE_spec h0 (fun q hq => by have := (hin q hq).2.2.1; omega)
  refine ⟨_, betweenE_ok hs ha hb, q1, q2, fun fs hfs => s1 _ (List.mem_map.2 ⟨fs, hfs, rfl⟩), ?_, ?_⟩
  · obtain ⟨fs, hfs, e⟩ := List.mem_map.1 s2
    exact ⟨fs, hfs, e.symm⟩
  · obtain ⟨fs, hfs, e⟩ := List.mem_map.1 s3
    exact ⟨fs, hfs, e.symm⟩
theorem InR.proper {p : Int × Int} (hp : InR 300 p) : properE p = true := by
  obtain ⟨h1, h2, h3, h4⟩ := hp
  simp [properE, h1, h2, h3, h4]
section
variable {h : House} {a b c : Nat} {P Q T V : (Int × Int) × (Int × Int)}
end
end Go.Proofs.Ytgncpbkedhchfaa
namespace Go.Proofs.Ytgncpbkedhchfaa
theorem hull_fold : ∀ {l : List (Int × Int)} {s : Int × Int}, (∀ x ∈ l, (hullFrom s l).1 ≤ x.1 ∧ x.2 ≤ (hullFrom s l).2) ∧ (hullFrom s l).1 ≤ s.1 ∧ s.2 ≤ (hullFrom s l).2 ∧
    ((hullFrom s l).1 = s.1 ∨ ∃ x ∈ l, (hullFrom s l).1 = x.1) ∧ ((hullFrom s l).2 = s.2 ∨ ∃ x ∈ l, (hullFrom s l).2 = x.2)
  | [], s => ⟨fun _ h => (List.not_mem_nil h).elim, Int.le_refl _, Int.le_refl _, .inl rfl, .inl rfl⟩
  | y :: l, s => by
    obtain ⟨h1, h2, h3, h4, h5⟩ := hull_fold (l := l) (s := join s y)
    have e : hullFrom s (y :: l) = hullFrom (join s y) l := rfl
    rw [e]
    generalize hullFrom (join s y) l = q at *
    have j1 : (join s y).1 = min y.1 s.1 := rfl
    have j2 : (join s y).2 = max y.2 s.2 := rfl
    rw [j1] at h2 h4
    rw [j2] at h3 h5
    have k1 : q.1 ≤ y.1 ∧ q.1 ≤ s.1 ∧ y.2 ≤ q.2 ∧ s.2 ≤ q.2 := by clear h4 h5; omega
    refine ⟨fun x hx => ?_, k1.2.1, k1.2.2.2, ?_, ?_⟩
    · rcases List.mem_cons.1 hx with rfl | hx
      · exact ⟨k1.1, k1.2.2.1⟩
      · exact h1 x hx
    · clear h5
      rcases h4 with h4 | ⟨x, hx, h4⟩
      · by_cases hm : y.1 ≤ s.1
        · exact .inr ⟨y, by simp, by omega⟩
        · exact .inl (by omega)
      · exact .inr ⟨x, by simp [hx], h4⟩
    · clear h4
      rcases h5 with h5 | ⟨x, hx, h5⟩
      · by_cases hm : s.2 ≤ y.2
        · exact .inr ⟨y, by simp, by omega⟩
        · exact .inl (by omega)
      · exact .inr ⟨x, by simp [hx], h5⟩
theorem hull_spec {l : List (Int × Int)} (h0 : l ≠ []) : (∀ x ∈ l, (hull l).1 ≤ x.1 ∧ x.2 ≤ (hull l).2) ∧ (∃ x ∈ l, (hull l).1 = x.1) ∧ (∃ x ∈ l, (hull l).2 = x.2) := by
  cases l with
  | nil => exact absurd rfl h0
  | cons y l =>
    obtain ⟨h1, h2, h3, h4, h5⟩ := hull_fold (l := l) (s := y)
    have e : hull (y :: l) = hullFrom y l := rfl
    rw [e]
    refine ⟨fun x hx => ?_, ?_, ?_⟩
    · rcases List.mem_cons.1 hx with rfl | hx
      · exact ⟨h2, h3⟩
      · exact h1 x hx
    · rcases h4 with h4 | ⟨x, hx, h4⟩
      · exact ⟨y, by simp, h4⟩
      · exact ⟨x, by simp [hx], h4⟩
    · rcases h5 with h5 | ⟨x, hx, h5⟩
      · exact ⟨y, by simp, h5⟩
      · exact ⟨x, by simp [hx], h5⟩
theorem hull_within {l m : List (Int × Int)} (h0 : m ≠ []) (h : ∀ x ∈ m, ∃ y ∈ l, y.1 ≤ x.1 ∧ x.2 ≤ y.2) : withinE (hull m) (hull l) = true := by
  obtain ⟨_, ⟨x1, hx1, e1⟩, ⟨x2, hx2, e2⟩⟩ := hull_spec h0
  obtain ⟨y1, hy1, a1, a2⟩ := h x1 hx1
  obtain ⟨y2, hy2, b1, b2⟩ := h x2 hx2
  have hl : l ≠ [] := fun e => by rw [e] at hy1; cases hy1
  obtain ⟨hb, _, _⟩ := hull_spec hl
  have c1 := hb y1 hy1
  have c2 := hb y2 hy2
  rw [withinE, decide_eq_true (by omega), decide_eq_true (by omega)]; rfl
section
variable {h g : House}
theorem factorE_ok (hs : someE h = true) {a : Nat} (ha : a < h.ws.length) : factorE h a = (hull (factorsOf h a), 0) := by
  obtain ⟨he, hf, ht⟩ := someE_true hs
  have e1 : indexE h a h.ws.length = 0 := by rw [indexE, if_pos he, if_pos (by omega)]
  rw [factorE, e1, if_neg (by decide), if_neg ht, Int.toNat_natCast]
theorem numberE_ok (hs : someE h = true) {d : Nat} (hd : d < h.days.length) : numberE h d = (hull (numbersOf h d), 0) := by
  obtain ⟨he, hf, ht⟩ := someE_true hs
  have e1 : indexE h d h.days.length = 0 := by rw [indexE, if_pos he, if_pos (by omega)]
  rw [numberE, e1, if_neg (by decide), if_neg ht, Int.toNat_natCast]
structure Less2 (h g : House) : Prop where
  sh : someE h = true
  sg : someE g = true
  ws : g.ws.length = h.ws.length
  days : g.days.length = h.days.length
  sub : ∀ fs ∈ truthsE g, fs ∈ truthsE h
  day : ∀ fs ∈ truthsE g, ∀ d, d < h.days.length → ∀ n, Sat g fs d n → Sat h fs d n
theorem Less2.factor (hl : Less2 h g) {a : Nat} (ha : a < h.ws.length) : withinE (factorE g a).1 (factorE h a).1 = true := by
  rw [factorE_ok hl.sh ha, factorE_ok hl.sg (by rw [hl.ws]; exact ha)]
  have hg := (someE_true hl.sg).2.2
  refine hull_within (by unfold factorsOf; simpa using hg) fun x hx => ?_
  obtain ⟨fs, hfs, rfl⟩ := List.mem_map.1 hx
  exact ⟨_, List.mem_map.2 ⟨fs, hl.sub fs hfs, rfl⟩, Int.le_refl _, Int.le_refl _⟩
theorem Less2.number (hl : Less2 h g) {d : Nat} (hd : d < h.days.length) : withinE (numberE g d).1 (numberE h d).1 = true := by
  have hd' : d < g.days.length := by rw [hl.days]; exact hd
  rw [numberE_ok hl.sh hd, numberE_ok hl.sg hd']
  obtain ⟨_, fh, _⟩ := someE_true hl.sh
  obtain ⟨_, fg, hg⟩ := someE_true hl.sg
  refine hull_within (by unfold numbersOf; simpa using hg) fun x hx => ?_
  obtain ⟨fs, hfs, rfl⟩ := List.mem_map.1 hx
  have hle := okE_day hfs hd'
  have lg := (truthsE_mem fg hfs).1
  have lh := (truthsE_mem fh (hl.sub fs hfs)).1
  refine ⟨_, List.mem_map.2 ⟨fs, hl.sub fs hfs, rfl⟩, ?_, ?_⟩
  · exact ((sat_iff fh hd lh).1 (hl.day fs hfs d hd _ ((sat_iff fg hd' lg).2 ⟨Int.le_refl _, hle⟩))).1
  · exact ((sat_iff fh hd lh).1 (hl.day fs hfs d hd _ ((sat_iff fg hd' lg).2 ⟨hle, Int.le_refl _⟩))).2
theorem Less2.between (hl : Less2 h g) {a b : Nat} {P Q : (Int × Int) × (Int × Int)} (hP : Quots h a b P) (hQ : Quots g a b Q) : ¬ ltE Q.1 P.1 ∧ ¬ ltE P.2 Q.2 := by
  rw [not_ltE, not_ltE]
  obtain ⟨fs, hfs, e⟩ := hQ.m1
  obtain ⟨gs, hgs, e'⟩ := hQ.m2
  rw [e, e']
  exact ⟨(hP.all fs (hl.sub fs hfs)).1, (hP.all gs (hl.sub gs hgs)).2⟩
end
end Go.Proofs.Ytgncpbkedhchfaa
namespace Go.Proofs.Ytgncpbkedhchfaa
theorem lessE_self : ∀ (l : List Int), lessE l l = false
  | [] => rfl
  | a :: as => by simp [lessE, lessE_self as]
theorem lessE_asymm : ∀ {a b : List Int}, lessE a b = true → lessE b a = false
  | [], [], h => by simp [lessE] at h
  | [], _ :: _, _ => rfl
  | _ :: _, [], h => by simp [lessE] at h
  | a :: as, b :: bs, h => by
    unfold lessE at h ⊢
    by_cases e : a = b
    · subst e
      simp only [if_true] at h ⊢
      exact lessE_asymm h
    · rw [if_neg e] at h
      rw [if_neg (by omega)]
      have := of_decide_eq_true h
      exact decide_eq_false (by omega)
theorem fewerE_self (l : List Int) : fewerE l l = false := by simp [fewerE, lessE_self]
theorem fewerE_asymm {a b : List Int} (h : fewerE a b = true) : fewerE b a = false := by
  unfold fewerE at h ⊢
  simp only [Bool.or_eq_true, Bool.and_eq_true, decide_eq_true_eq] at h
  rcases h with h | ⟨h1, h2⟩
  · rw [decide_eq_false (by omega), decide_eq_false (by omega)]; rfl
  · rw [decide_eq_false (by omega), lessE_asymm h2, Bool.and_false]; rfl
theorem combs_sorted : ∀ {l : List Int} {r : Nat}, l.Pairwise (· < ·) → (combs l r).Pairwise (fun a b => lessE a b = true)
  | _, 0, _ => by simp [combs]
  | [], r + 1, _ => by simp [combs]
  | x :: l, r + 1, h => by
    rw [List.pairwise_cons] at h
    simp only [combs]
    rw [List.pairwise_append]
    refine ⟨?_, combs_sorted h.2, fun a ha b hb => ?_⟩
    · rw [List.pairwise_map]
      exact (combs_sorted h.2).imp fun {a b} hab => by simpa [lessE] using hab
    · obtain ⟨a', ha', rfl⟩ := List.mem_map.1 ha
      obtain ⟨hb1, hb2⟩ := combs_mem hb
      cases b with
      | nil => simp at hb1
      | cons y b =>
        have := h.1 y (hb2 y (by simp))
        unfold lessE
        rw [if_neg (by omega)]
        exact decide_eq_true this
theorem combs_sub : ∀ {l : List Int} {r : Nat} {s : List Int}, s ∈ combs l r → s.Sublist l
  | _, 0, s, h => by simp only [combs, List.mem_singleton] at h; subst h; exact List.nil_sublist _
  | [], r + 1, s, h => by simp [combs] at h
  | x :: l, r + 1, s, h => by
    simp only [combs, List.mem_append, List.mem_map] at h
    rcases h with ⟨t, ht, rfl⟩ | h
    · exact (combs_sub ht).cons_cons x
    · exact (combs_sub h).cons x
theorem sub_combs : ∀ {l s : List Int}, s.Sublist l → s ∈ combs l s.length
  | _, _, .slnil => by simp [combs]
  | _, s, .cons x h => by
    cases s with
    | nil => simp [combs]
    | cons y s => simp only [List.length_cons, combs]; exact List.mem_append_right _ (sub_combs h)
  | _, _, .cons_cons x h => by
    simp only [List.length_cons, combs]
    exact List.mem_append_left _ (List.mem_map.2 ⟨_, sub_combs h, rfl⟩)
def seqE (l : List Int) : List (List Int) := (List.range (l.length + 1)).flatMap (combs l)
theorem seqE_sorted {l : List Int} (h : l.Pairwise (· < ·)) : (seqE l).Pairwise (fun a b => fewerE a b = true) := by
  unfold seqE
  rw [List.pairwise_flatMap]
  refine ⟨fun m _ => ?_, ?_⟩
  · refine List.Pairwise.imp_of_mem (fun {a b} ha hb hab => ?_) (combs_sorted h)
    have h1 := (combs_mem ha).1
    have h2 := (combs_mem hb).1
    rw [fewerE, hab, decide_eq_true (by omega : (a.length : Int) = b.length)]; simp
  · refine List.pairwise_lt_range.imp fun {m n} hmn a ha b hb => ?_
    have h1 := (combs_mem ha).1
    have h2 := (combs_mem hb).1
    rw [fewerE, decide_eq_true (by omega : (a.length : Int) < b.length)]; rfl
theorem mem_seqE {l s : List Int} (h : s.Sublist l) : s ∈ seqE l := by
  have := h.length_le
  exact List.mem_flatMap.2 ⟨s.length, List.mem_range.2 (by omega), sub_combs h⟩
theorem seqE_sub {l s : List Int} (h : s ∈ seqE l) : s.Sublist l := by
  obtain ⟨m, _, hm⟩ := List.mem_flatMap.1 h
  exact combs_sub hm
theorem find_first {α : Type} {r : α → α → Prop} {p : α → Bool} : ∀ {l : List α} {a b : α}, l.Pairwise r → l.find? p = some a → b ∈ l → p b = true → b = a ∨ r a b
  | [], _, _, _, h, _, _ => by simp at h
  | x :: l, a, b, hs, h, hb, hp => by
    rw [List.pairwise_cons] at hs
    rw [List.find?_cons] at h
    cases hx : p x with
    | true =>
      simp only [hx, Option.some.injEq] at h
      subst h
      rcases List.mem_cons.1 hb with rfl | hb
      · exact .inl rfl
      · exact .inr (hs.1 b hb)
    | false =>
      simp only [hx] at h
      rcases List.mem_cons.1 hb with rfl | hb
      · rw [hx] at hp; cases hp
      · exact find_first hs.2 h hb hp
theorem cntRow_sorted (h : House) (d : Nat) : ∀ m, (cntRow h d m).Pairwise (· < ·) ∧ ∀ x ∈ cntRow h d m, (d : Int) * h.ws.length ≤ x ∧ x < (d : Int) * h.ws.length + m
  | 0 => by simp [cntRow]
  | m + 1 => by
    obtain ⟨h1, h2⟩ := cntRow_sorted h d m
    rw [cntRow_succ]
    refine ⟨List.pairwise_append.2 ⟨h1, by split <;> simp, fun a ha b hb => ?_⟩, fun x hx => ?_⟩
    · have := h2 a ha
      split at hb
      · simp only [List.mem_singleton] at hb; omega
      · simp at hb
    · rcases List.mem_append.1 hx with hx | hx
      · have := h2 x hx; omega
      · split at hx
        · simp only [List.mem_singleton] at hx; omega
        · simp at hx
theorem countsTo_sorted (h : House) : ∀ n, (countsTo h n).Pairwise (· < ·) ∧ ∀ x ∈ countsTo h n, 0 ≤ x ∧ x < (n : Int) * h.ws.length
  | 0 => by simp [countsTo]
  | n + 1 => by
    obtain ⟨h1, h2⟩ := countsTo_sorted h n
    obtain ⟨h3, h4⟩ := cntRow_sorted h n h.ws.length
    rw [countsTo_succ]
    have e : ((n + 1 : Nat) : Int) * h.ws.length = (n : Int) * h.ws.length + h.ws.length := by
      rw [Int.natCast_add, Int.add_mul]; simp
    have e0 : 0 ≤ (n : Int) * h.ws.length := Int.mul_nonneg (by omega) (by omega)
    refine ⟨List.pairwise_append.2 ⟨h1, h3, fun a ha b hb => ?_⟩, fun x hx => ?_⟩
    · have := h2 a ha; have := h4 b hb; omega
    · rw [e]
      rcases List.mem_append.1 hx with hx | hx
      · have := h2 x hx; omega
      · have := h4 x hx; omega
theorem countsE_sorted (h : House) : (countsE h).Pairwise (· < ·) := (countsTo_sorted h _).1
theorem mem_counts {h : House} {d i : Nat} (hd : d < h.days.length) (hi : i < h.ws.length) (hne : getI (dayOf h d) i ≠ -1) : (d : Int) * h.ws.length + i ∈ countsE h := by
  refine List.mem_flatMap.2 ⟨d, List.mem_range.2 hd, List.mem_filterMap.2 ⟨i, List.mem_range.2 hi, ?_⟩⟩
  rw [if_pos (by simpa [dayOf] using hne)]
theorem mask_day {h : House} (hf : Fine h) {p : Nat → Bool} {d i : Nat} (hd : d < h.days.length) (hi : i < h.ws.length) : getI (dayOf (maskE h p) d) i = if p (d * h.ws.length + i) = true then -1 else getI (dayOf h d) i := by
  have hl := (hf.day hd).1
  rw [dayOf_eq (by rw [maskE_length]; exact hd), maskE_day hd, dayOf_eq hd]
  rw [dayOf_eq hd] at hl
  rw [getI_eq (by rw [maskRow_length]; omega)]
  simp only [maskRow, List.getElem_map, List.getElem_range]
  by_cases hp : p (d * h.ws.length + i) = true
  · rw [if_pos ⟨by omega, hp⟩, if_pos hp]
  · rw [if_neg (fun hc => hp hc.2), if_neg hp]
theorem but_day {h : House} (hf : Fine h) {l : List Int} {d i : Nat} (hd : d < h.days.length) (hi : i < h.ws.length) : getI (dayOf (butE h l) d) i = if (d : Int) * h.ws.length + i ∈ l then -1 else getI (dayOf h d) i := by
  rw [butE, mask_day hf hd hi]
  by_cases hp : (d : Int) * h.ws.length + i ∈ l
  · rw [if_pos (by simpa using hp), if_pos hp]
  · rw [if_neg (by simpa using hp), if_neg hp]
theorem all_some {h : House} (hf : Fine h) : ∃ fs, fs ∈ allE h := by
  refine ⟨h.ws.map (·.lo), mem_all.2 ⟨by simp, fun i hi => ?_⟩⟩
  have := hf.w hi
  rw [getI_eq (by simpa using hi)]
  simp only [List.getElem_map]
  omega
theorem full_truth {h : House} (hf : Fine h) : hasTruth h (countsE h) = true := by
  obtain ⟨fs, hfs⟩ := all_some hf
  have hm : Fine (butE h (countsE h)) := hf.mask _
  refine decide_eq_true (List.length_pos_of_mem ((mem_truths hm (fs := fs)).2 ⟨hfs, fun d hd => ⟨0, by omega, fun i hi hne => ?_⟩⟩))
  have hd' : d < h.days.length := by rw [butE, maskE_length] at hd; exact hd
  have hi' : i < h.ws.length := hi
  rw [but_day hf hd' hi'] at hne
  split at hne
  · exact absurd rfl hne
  · rename_i hn
    exact absurd (mem_counts hd' hi' hne) hn
theorem wrong_first {h : House} (hf : Fine h) : (wrongList h).Sublist (countsE h) ∧ hasTruth h (wrongList h) = true ∧ ∀ o : List Int, o.Sublist (countsE h) → hasTruth h o = true → fewerE o (wrongList h) = false := by
  have e : wrongList h = ((seqE (countsE h)).find? (hasTruth h)).getD (countsE h) := (pWrong_eq h).symm
  cases hq : (seqE (countsE h)).find? (hasTruth h) with
  | none =>
    have := List.find?_eq_none.1 hq _ (mem_seqE (List.Sublist.refl _))
    exact absurd (full_truth hf) this
  | some s =>
    rw [hq, Option.getD_some] at e
    rw [e]
    refine ⟨seqE_sub (List.mem_of_find?_eq_some hq), List.find?_some hq, fun o ho hto => ?_⟩
    rcases find_first (seqE_sorted (countsE_sorted h)) hq (mem_seqE ho) hto with rfl | hr
    · exact fewerE_self _
    · exact fewerE_asymm hr
end Go.Proofs.Ytgncpbkedhchfaa
namespace Go.Proofs.Ytgncpbkedhchfaa
def RowOk (ws : List Watcher) (fs : List Int) (n : Int) (row : List Int) : Prop := row.length = ws.length ∧ ∀ i (hi : i < ws.length), (-1 ≤ getI row i ∧ getI row i ≤ 120) ∧ Cnt ws[i] (getI row i) (getI fs i) n
structure ToldOk (h z : House) (fs ns : List Int) : Prop where
  ws : z.ws = h.ws
  days : z.days.length = h.days.length
  flen : fs.length = h.ws.length
  nlen : ns.length = h.days.length
  fac : ∀ i (hi : i < h.ws.length), h.ws[i].lo ≤ getI fs i ∧ getI fs i ≤ h.ws[i].hi
  num : ∀ d, d < h.days.length → 0 ≤ getI ns d ∧ getI ns d ≤ 39999
  row : ∀ d, d < h.days.length → RowOk h.ws fs (getI ns d) (dayOf z d)
section
variable {h z : House} {fs ns : List Int}
theorem ToldOk.err (ht : ToldOk h z fs ns) (he : errE h = 0) : errE z = 0 := by
  have hf := fine_of he
  refine errE_days he ht.ws (by rw [ht.days]; exact hf.days) fun day hday => ?_
  obtain ⟨d, hd, rfl⟩ := List.getElem_of_mem hday
  obtain ⟨h1, h2⟩ := ht.row d (by rw [← ht.days]; exact hd)
  rw [dayOf_eq hd] at h1 h2
  refine ⟨h1, fun c hc => ?_⟩
  obtain ⟨i, hi, rfl⟩ := List.getElem_of_mem hc
  have := (h2 i (by omega)).1
  rwa [getI_eq hi] at this
theorem ToldOk.sat (ht : ToldOk h z fs ns) {d : Nat} (hd : d < h.days.length) : Sat z fs d (getI ns d) := by
  refine ⟨ht.num d hd, fun i hi => ?_⟩
  have hi' : i < h.ws.length := by rw [← ht.ws]; exact hi
  have := (ht.row d hd).2 i hi'
  have e : z.ws[i] = h.ws[i] := by simp only [ht.ws]
  rw [e]; exact this.2
theorem ToldOk.truth (ht : ToldOk h z fs ns) (he : errE h = 0) : fs ∈ truthsE z := by
  refine (mem_truths (fine_of (ht.err he))).2 ⟨mem_all.2 ⟨by rw [ht.ws]; exact ht.flen, fun i hi => ?_⟩, fun d hd => ⟨_, ht.sat (by rw [← ht.days]; exact hd)⟩⟩
  have hi' : i < h.ws.length := by rw [← ht.ws]; exact hi
  have e : z.ws[i] = h.ws[i] := by simp only [ht.ws]
  rw [e]; exact ht.fac i hi'
theorem ToldOk.some (ht : ToldOk h z fs ns) (he : errE h = 0) : someE z = true := by
  rw [someE, validE, decide_eq_true (ht.err he), Bool.true_and]
  exact decide_eq_true (List.length_pos_of_mem (ht.truth he))
theorem ToldOk.wrong (ht : ToldOk h z fs ns) (he : errE h = 0) : wrongE z = ([], 0) := by
  have hz := ht.err he
  have hf := fine_of hz
  have htr := (mem_truths hf).1 (ht.truth he)
  obtain ⟨a1, a2, a3⟩ := wrong_first hf
  have h0 : hasTruth z [] = true := by
    have hm : Fine (butE z []) := hf.mask _
    refine decide_eq_true (List.length_pos_of_mem ((mem_truths hm (fs := fs)).2 ⟨htr.1, fun d hd => ?_⟩))
    have hd' : d < z.days.length := by rw [butE, maskE_length] at hd; exact hd
    obtain ⟨n, hn⟩ := htr.2 d hd'
    refine ⟨n, hn.1, fun i hi => ?_⟩
    have hi' : i < z.ws.length := hi
    rw [but_day hf hd' hi', if_neg (List.not_mem_nil)]
    exact hn.2 i hi'
  have := a3 [] (List.nil_sublist _) h0
  simp only [fewerE, Bool.or_eq_false_iff, decide_eq_false_iff_not, List.length_nil] at this
  have e : wrongList z = [] := List.length_eq_zero_iff.1 (by omega)
  rw [wrongE, if_neg (by omega), e]
theorem ToldOk.number (ht : ToldOk h z fs ns) (he : errE h = 0) {d : Nat} (hd : d < h.days.length) : (numberE z d).2 = 0 ∧ (numberE z d).1.1 ≤ getI ns d ∧ getI ns d ≤ (numberE z d).1.2 := by
  have hs := ht.some he
  have hf := fine_of (ht.err he)
  have hd' : d < z.days.length := by rw [ht.days]; exact hd
  rw [numberE_ok hs hd']
  have hm : numbersE z d fs ∈ numbersOf z d := List.mem_map.2 ⟨fs, ht.truth he, rfl⟩
  obtain ⟨h1, _, _⟩ := hull_spec (List.ne_nil_of_mem hm)
  have := h1 _ hm
  have h2 := (sat_iff hf hd' (by rw [ht.ws]; exact ht.flen)).1 (ht.sat hd)
  refine ⟨rfl, ?_, ?_⟩ <;> simp only <;> omega
theorem ToldOk.factor (ht : ToldOk h z fs ns) (he : errE h = 0) {a : Nat} (ha : a < h.ws.length) : (factorE z a).2 = 0 ∧ (factorE z a).1.1 ≤ getI fs a ∧ getI fs a ≤ (factorE z a).1.2 := by
  have hs := ht.some he
  rw [factorE_ok hs (by rw [ht.ws]; exact ha)]
  have hm : (getI fs a, getI fs a) ∈ factorsOf z a := List.mem_map.2 ⟨fs, ht.truth he, rfl⟩
  obtain ⟨h1, _, _⟩ := hull_spec (List.ne_nil_of_mem hm)
  have := h1 _ hm
  refine ⟨rfl, ?_, ?_⟩ <;> simp only at this ⊢ <;> omega
theorem ToldOk.between (ht : ToldOk h z fs ns) (he : errE h = 0) {a b : Nat} {P : (Int × Int) × (Int × Int)} (hP : Quots z a b P) : betwE (lowE (getI fs a) (getI fs b)) P.1 P.2 = true := by
  obtain ⟨h1, h2⟩ := hP.all fs (ht.truth he)
  rw [betwE, decide_eq_false (not_ltE.2 h1), decide_eq_false (not_ltE.2 h2)]; rfl
end
end Go.Proofs.Ytgncpbkedhchfaa
namespace Go.Proofs.Ytgncpbkedhchfaa
def wideE (h : House) (i : Nat) (o : Int) : House := { h with ws := match h.ws[i]? with
  | some w => h.ws.set i { w with off := o }
  | none => h.ws }
section
variable {h : House} {i : Nat} {o : Int}
theorem wideE_ws (hi : i < h.ws.length) : (wideE h i o).ws = h.ws.set i { h.ws[i] with off := o } := by
  simp only [wideE, List.getElem?_eq_getElem hi]
theorem wideE_len (hi : i < h.ws.length) : (wideE h i o).ws.length = h.ws.length := by rw [wideE_ws hi, List.length_set]
theorem wideE_at (hi : i < h.ws.length) {j : Nat} (hj : j < h.ws.length) : ((wideE h i o).ws[j]'(by rw [wideE_len hi]; exact hj)) = if i = j then { h.ws[i] with off := o } else h.ws[j] := by
  simp only [wideE_ws hi, List.getElem_set]
theorem wideE_name (hi : i < h.ws.length) : (wideE h i o).ws.map (·.name) = h.ws.map (·.name) := by
  refine List.ext_getElem (by simp [wideE_len hi]) fun j h1 h2 => ?_
  simp only [List.length_map] at h1 h2
  simp only [List.getElem_map]
  rw [wideE_at hi (by rw [wideE_len hi] at h1; exact h1)]
  split
  · rename_i e; subst e; rfl
  · rfl
theorem wideE_at2 (hi : i < h.ws.length) {j : Nat} (hj : j < h.ws.length) (hj' : j < (wideE h i o).ws.length) (ho : h.ws[i].off ≤ o) : (wideE h i o).ws[j].lo = h.ws[j].lo ∧ (wideE h i o).ws[j].hi = h.ws[j].hi ∧ (wideE h i o).ws[j].name = h.ws[j].name ∧ h.ws[j].off ≤ (wideE h i o).ws[j].off ∧ ((wideE h i o).ws[j].off = o ∨ (wideE h i o).ws[j].off = h.ws[j].off) := by
  rw [wideE_at hi hj]
  split
  · rename_i e; subst e; exact ⟨rfl, rfl, rfl, ho, .inl rfl⟩
  · exact ⟨rfl, rfl, rfl, Int.le_refl _, .inr rfl⟩
theorem freshE_zero {h : House} (he : errE h = 0) {j : Nat} (hj : j < h.ws.length) : freshE h.ws[j].name ((h.ws.take j).map (·.name)) = 0 ∧ watcherE h.ws[j] = 0 := by
  have := firstErr_none' (errE_ws he).2 j hj
  rw [Nat.zero_add, wE] at this
  split at this
  · rename_i h0; exact ⟨h0, this⟩
  · rename_i h0; exact absurd this h0
theorem wideE_err (he : errE h = 0) (hi : i < h.ws.length) (ho : h.ws[i].off ≤ o) (ho9 : o ≤ 9) : errE (wideE h i o) = 0 := by
  have hf := fine_of he
  have hw3 := hf.ws
  have e1 : firstErr (wE (wideE h i o)) 0 (wideE h i o).ws = none := firstErr_none fun j hj => by
    have hj' : j < h.ws.length := by rw [wideE_len hi] at hj; exact hj
    obtain ⟨a1, a2⟩ := freshE_zero he hj'
    obtain ⟨b1, b2, b3, b4, b5⟩ := wideE_at2 hi hj' hj ho
    have e2 : ((wideE h i o).ws.take j).map (·.name) = (h.ws.take j).map (·.name) := by
      rw [List.map_take, wideE_name hi, List.map_take]
    rw [Nat.zero_add, wE, b3, e2, if_pos a1]
    have hb := hf.w hj'
    have hbi := hf.w hi
    unfold watcherE at a2 ⊢
    rw [b1, b2]
    by_cases hc : endsE h.ws[j].lo h.ws[j].hi 1 300 = 7 ∨ ¬ (0 ≤ h.ws[j].off ∧ h.ws[j].off ≤ 9)
    · rw [if_pos hc] at a2; cases a2
    · rw [if_neg hc] at a2
      rw [if_neg (by
        intro hc2
        rcases hc2 with hc2 | hc2
        · exact hc (.inl hc2)
        · omega)]
      exact a2
  have e3 : firstErr (dE (wideE h i o)) 0 (wideE h i o).days = none := firstErr_none fun j hj => by
    have hj' : j < h.days.length := hj
    have := (hf.len _ (List.getElem_mem hj'))
    have hc := hf.count _ (List.getElem_mem hj')
    simp only [dE, wideE_len hi]
    show (if h.days[j].length ≠ h.ws.length then (3 : Int) else if (h.days[j].all fun n => decide (-1 ≤ n) && decide (n ≤ 120)) = true then 0 else 7) = 0
    rw [if_neg (by omega), if_pos]
    rw [List.all_eq_true]
    intro x hx
    have := hc x hx
    simp; omega
  have hd : (wideE h i o).days.length = h.days.length := rfl
  have hd4 := hf.days
  rw [errE, checkE, wideE_len hi, if_neg (by omega), e1]
  simp only
  rw [if_neg (by omega), e3]
theorem cnt_wider {w w' : Watcher} {c f n : Int} (hf : 0 ≤ f) (ho : w.off ≤ w'.off) (h : Cnt w c f n) : Cnt w' c f n := fun hc => by
  obtain ⟨h1, h2⟩ := h hc
  have a := Int.mul_le_mul_of_nonneg_left (show max 0 (c - w'.off) ≤ max 0 (c - w.off) by omega) hf
  have b := Int.mul_le_mul_of_nonneg_left (show c + w.off ≤ c + w'.off by omega) hf
  omega
theorem wideE_all (hi : i < h.ws.length) (ho : h.ws[i].off ≤ o) {fs : List Int} : fs ∈ allE (wideE h i o) ↔ fs ∈ allE h := by
  rw [mem_all, mem_all]
  constructor
  · rintro ⟨h0, h1⟩
    refine ⟨by rw [h0, wideE_len hi], fun j hj => ?_⟩
    have hj' : j < (wideE h i o).ws.length := by rw [wideE_len hi]; exact hj
    have := h1 j hj'
    obtain ⟨b1, b2, _⟩ := wideE_at2 hi hj hj' ho
    rwa [b1, b2] at this
  · rintro ⟨h0, h1⟩
    refine ⟨by rw [h0, wideE_len hi], fun j hj => ?_⟩
    have hj' : j < h.ws.length := by rw [wideE_len hi] at hj; exact hj
    have := h1 j hj'
    obtain ⟨b1, b2, _⟩ := wideE_at2 hi hj' hj ho
    rwa [b1, b2]
theorem wideE_sat (he : errE h = 0) (hi : i < h.ws.length) (ho : h.ws[i].off ≤ o) {g : House} (hg : g.ws = h.ws) {g' : House} (hg' : g'.ws = (wideE h i o).ws) (hd : g'.days = g.days) {fs : List Int} (hfs : fs ∈ allE h) {d : Nat} {n : Int} (hs : Sat g fs d n) : Sat g' fs d n := by
  have hf := fine_of he
  refine ⟨hs.1, fun j hj => ?_⟩
  have hj' : j < h.ws.length := by rw [hg', wideE_len hi] at hj; exact hj
  have e1 : dayOf g' d = dayOf g d := by unfold dayOf; rw [hd]
  have hb := hf.w hj'
  have hff := (mem_all.1 hfs).2 j hj'
  have h2 := hs.2 j (by rw [hg]; exact hj')
  rw [e1]
  simp only [hg, hg'] at h2 ⊢
  exact cnt_wider (by omega) (wideE_at2 hi hj' (by rw [wideE_len hi]; exact hj') ho).2.2.2.1 h2
theorem wideE_less (hs : someE h = true) (hi : i < h.ws.length) (ho : h.ws[i].off ≤ o) (ho9 : o ≤ 9) : Less2 (wideE h i o) h := by
  obtain ⟨he, hf, ht⟩ := someE_true hs
  have hew := wideE_err he hi ho ho9
  have hfw := fine_of hew
  have hsub : ∀ fs ∈ truthsE h, fs ∈ truthsE (wideE h i o) := fun fs hfs => by
    obtain ⟨h1, h2⟩ := (mem_truths hf).1 hfs
    refine (mem_truths hfw).2 ⟨(wideE_all hi ho).2 h1, fun d hd => ?_⟩
    obtain ⟨n, hn⟩ := h2 d hd
    exact ⟨n, wideE_sat he hi ho rfl rfl rfl h1 hn⟩
  have hsw : someE (wideE h i o) = true := by
    rw [someE, validE, decide_eq_true hew, Bool.true_and]
    cases hq : truthsE h with
    | nil => exact absurd hq ht
    | cons f l => exact decide_eq_true (List.length_pos_of_mem (hsub f (by rw [hq]; simp)))
  exact ⟨hsw, hs, (wideE_len hi).symm, rfl, hsub, fun fs hfs d hd n hn => wideE_sat he hi ho rfl rfl rfl ((mem_truths hf).1 hfs).1 hn⟩
theorem hasTruth_iff {h : House} (hf : Fine h) {l : List Int} : hasTruth h l = true ↔ ∃ fs, fs ∈ allE h ∧ ∀ d, d < h.days.length → ∃ n, Sat (butE h l) fs d n := by
  have hm : Fine (butE h l) := hf.mask _
  rw [hasTruth, decide_eq_true_eq]
  constructor
  · intro hp
    obtain ⟨fs, hfs⟩ := List.exists_mem_of_length_pos hp
    obtain ⟨h1, h2⟩ := (mem_truths hm).1 hfs
    exact ⟨fs, h1, fun d hd => h2 d (by rw [butE, maskE_length]; exact hd)⟩
  · rintro ⟨fs, h1, h2⟩
    exact List.length_pos_of_mem ((mem_truths hm (fs := fs)).2 ⟨h1, fun d hd => h2 d (by rw [butE, maskE_length] at hd; exact hd)⟩)
theorem wideE_counts (hi : i < h.ws.length) : countsE (wideE h i o) = countsE h := by
  simp only [countsE, countsTo, cntRow, wideE_len hi]; rfl
theorem wideE_wrong (he : errE h = 0) (hi : i < h.ws.length) (ho : h.ws[i].off ≤ o) (ho9 : o ≤ 9) : (wrongList (wideE h i o)).length ≤ (wrongList h).length := by
  have hf := fine_of he
  have hew := wideE_err he hi ho ho9
  have hfw := fine_of hew
  obtain ⟨a1, a2, a3⟩ := wrong_first hf
  obtain ⟨b1, b2, b3⟩ := wrong_first hfw
  have hw : hasTruth (wideE h i o) (wrongList h) = true := by
    obtain ⟨fs, h1, h2⟩ := (hasTruth_iff hf).1 a2
    refine (hasTruth_iff hfw).2 ⟨fs, (wideE_all hi ho).2 h1, fun d hd => ?_⟩
    obtain ⟨n, hn⟩ := h2 d hd
    have ed : (butE (wideE h i o) (wrongList h)).days = (butE h (wrongList h)).days := by
      simp only [butE, maskE, wideE_len hi]; rfl
    exact ⟨n, wideE_sat he hi ho (g := butE h (wrongList h)) rfl (g' := butE (wideE h i o) (wrongList h)) rfl ed h1 hn⟩
  have := b3 (wrongList h) (by rw [wideE_counts hi]; exact a1) hw
  simp only [fewerE, Bool.or_eq_false_iff, decide_eq_false_iff_not] at this
  omega
end
section
variable {h : House}
end
end Go.Proofs.Ytgncpbkedhchfaa
namespace Go.AM
def JoinQ (P : Env → AH → Prop) : AExit → Env → AH → Prop := fun x e H => x = .normal ∧ P e H
theorem C_join {prog : Nat → Option AFunc} {x : Option AV} {a b : ACode} {e : Env} {H : AH} {ks : List Kont} {Q : AExit → Env → AH → Prop} (P : Env → AH → Prop) (h1 : CondK prog x a b e H [] (JoinQ P)) (h2 : ∀ e' H', P e' H' → EndK prog .normal e' H' ks Q) : CondK prog x a b e H ks Q := by
  have key : ∀ {c : ACode}, WpK prog c e H [] (JoinQ P) → WpK prog c e H ks Q := fun {c} h => Wp.mono h fun x e' H' hx => by
    obtain ⟨rfl, hp⟩ := hx
    exact h2 e' H' hp
  unfold CondK at h1 ⊢
  split at h1
  · exact key h1
  · exact key h1
  · exact h1.elim
theorem K_joined {prog : Nat → Option AFunc} {P : Env → AH → Prop} {e : Env} {H : AH} (h : P e H) : EndK prog .normal e H [] (JoinQ P) := ⟨rfl, h⟩
end Go.AM
namespace Go.Proofs.Ytgncpbkedhchfaa
open Go.AM Go.IntWalk
set_option maxRecDepth 100000
set_option maxHeartbeats 4000000
set_option linter.unusedSimpArgs false
variable {H : AH} {R : AV → AH → Prop}
structure Wid (h g : House) : Prop where
  err : errE g = 0
  days : g.days = h.days
  len : g.ws.length = h.ws.length
  sized : Sized h → Sized g
  wrong : (wrongList g).length ≤ (wrongList h).length
  less : someE h = true → Less2 g h
theorem Wid.same {h : House} (he : errE h = 0) : Wid h h := ⟨he, rfl, rfl, id, Nat.le_refl _, fun hs => ⟨hs, hs, rfl, rfl, fun _ h => h, fun _ _ _ _ _ h => h⟩⟩
theorem Wid.wide {h : House} (he : errE h = 0) {i : Nat} {o : Int} (hi : i < h.ws.length) (ho : h.ws[i].off ≤ o) (ho9 : o ≤ 9) : Wid h (wideE h i o) := by
  refine ⟨wideE_err he hi ho ho9, rfl, wideE_len hi, fun hs => ⟨fun w hw => ?_, by rw [wideE_len hi]; exact hs.ws, hs.days⟩, wideE_wrong he hi ho ho9, fun hs => wideE_less hs hi ho ho9⟩
  obtain ⟨j, hj, rfl⟩ := List.getElem_of_mem hw
  have hj' : j < h.ws.length := by rw [wideE_len hi] at hj; exact hj
  rw [(wideE_at2 hi hj' hj ho).2.2.1]
  exact hs.name _ (List.getElem_mem hj')
end Go.Proofs.Ytgncpbkedhchfaa
namespace Go.Proofs.Ytgncpbkedhchfaa
open Go.AM Go.IntWalk
set_option maxRecDepth 100000
set_option maxHeartbeats 4000000
set_option linter.unusedSimpArgs false
variable {H : AH} {R : AV → AH → Prop}
def EK (kd : IntKind) : Elem Int := fun _ _ cs n => cs = [.int kd n]
theorem EK.stays {kd : IntKind} : Stays (EK kd) := fun _ _ _ _ _ _ _ h => h
theorem rdK {kd : IntKind} {v : AV} {l : List Int} (h : IsSl 1 (EK kd) (Old H) H v l) {n : Int} {k : Nat} (hn : n = k) (hk : k < l.length) : ∃ b i ro vs, b < H.next ∧
    ((∀ S, opIdxSl 1 v (.int .i64 n) S = some (.ptr b i, S)) ∧ H.get b = some (.cells ro vs) ∧ vs[i]? = some (.int kd l[k])) := by
  obtain ⟨b, i, ro, vs, cs, h1, h2, rfl, ⟨h4, h5, _, _⟩, h6⟩ := h.rd hn hk
  exact ⟨b, i, ro, vs, h1, h4, h5, by simpa using h6 0 (by omega)⟩
theorem tdivN {a b : Int} (ha : 0 ≤ a) (hb : 0 < b) : 0 ≤ Int.tdiv a b ∧ Int.tdiv a b ≤ a := by
  rw [Int.tdiv_eq_ediv_of_nonneg ha]
  exact ⟨Int.ediv_nonneg ha (by omega), Int.ediv_le_self _ ha⟩
theorem tmodN {a b : Int} (ha : 0 ≤ a) (hb : 0 < b) : 0 ≤ Int.tmod a b ∧ Int.tmod a b < b := by
  rw [Int.tmod_eq_emod_of_nonneg ha]
  exact ⟨Int.emod_nonneg _ (by omega), Int.emod_lt_of_pos _ hb⟩
theorem Turn_run (v : AV) (l : List Int) (n : Int) (hv : IsSl 1 (EK .u8) (Old H) H v l) (hl : l.length ≤ 9223372036854775807) (hr : ∀ x ∈ l, 0 ≤ x ∧ x ≤ 255) (hn : 0 ≤ n ∧ n ≤ 1000) (k : ∀ t, 0 ≤ t → t ≤ 255 → R (I t) H) : CallQ prog (.func 84 [] []) [v, I n] H R := by
  by_cases h0 : (l.length : Int) = 0
  · refine CallQ_enter (fn:=c84) rfl (Nat.le_of_ble_eq_true rfl) ?_;simp(maxSteps:=9999999)(disch:=first|omega|(simp only[AN];omega))only[c84,envFrom,hv.len,eq_true h0,↓KP,EN,↓reduceIte,reduceCtorEq,Nat.reduceEqDiff,Nat.reduceAdd,Nat.reduceLeDiff,Nat.reduceMul]
    exact k 0 (by omega) (by omega)
  · obtain ⟨m1, m2⟩ := tmodN (a := n) (b := l.length) hn.1 (by omega)
    obtain ⟨b, i, ro, vs, h1, q⟩ := rdK hv (n := Int.tmod n l.length) (k := (Int.tmod n l.length).toNat) (by omega) (by omega)
    have hx := hr _ (List.getElem_mem (l := l) (n := (Int.tmod n l.length).toNat) (by omega))
    generalize l[(Int.tmod n l.length).toNat] = u at *
    have e1 : IntKind.i64.wrap u = u := i64_in _ (by omega)
    refine CallQ_enter (fn:=c84) rfl (Nat.le_of_ble_eq_true rfl) ?_;simp(maxSteps:=9999999)(disch:=first|omega|(simp only[AN];omega))only[c84,envFrom,hv.len,h0,q,e1,↓KP,EN,↓reduceIte,reduceCtorEq,Nat.reduceEqDiff,Nat.reduceAdd,Nat.reduceLeDiff,Nat.reduceMul]
    exact k u hx.1 hx.2
def OffB (v : AV) (b : Nat) : Prop := ∀ i n y, v ≠ .slice b i n y
theorem append_fresh {H H' : AH} {sz bytes n : Nat} {s x v' : AV} (h : appendA H sz bytes s x = some (v', H')) (hn : lenA x = some (n + 1)) : ∃ m, v' = .slice H.next 0 m sz := by
  unfold appendA at h
  simp only [hn] at h
  split at h
  · cases h
  · split at h
    · simp only [Nat.add_eq_zero_iff, Nat.one_ne_zero, and_false, if_false] at h
      split at h
      · simp only [Option.some.injEq, Prod.mk.injEq] at h
        exact ⟨_, h.1.symm⟩
      · cases h
    · simp only [Nat.add_eq_zero_iff, Nat.one_ne_zero, and_false, if_false] at h
      split at h
      · split at h
        · split at h
          · simp only [Option.some.injEq, Prod.mk.injEq] at h
            exact ⟨_, h.1.symm⟩
          · cases h
        · cases h
      · cases h
    · cases h
theorem back3 {Hk : AH} {F : Nat → Prop} {v6 vrow : AV} {l : List (List Int)} {row : List Int} (hF : ∀ k, F k → k < Hk.next) (hm : IsSl 1 (ESl 1 EInt) F Hk v6 l) (hr : IsInts F Hk vrow row) (hl : l.length < 1000) :
    ∃ va S1 vb S2, appendA (Hk.alloc (.cells false [])) 1 24 (.slice Hk.next 0 0 1) v6 = some (va, S1) ∧ appendA (S1.alloc (.cells false [vrow])) 1 24 va (.slice S1.next 0 1 1) = some (vb, S2) ∧ IsSl 1 (ESl 1 EInt) (fun k => k < S2.next ∧ (F k ∨ Hk.next ≤ k)) S2 vb (l ++ [row]) ∧ Hk.next ≤ S2.next ∧ Hk.next ≤ S1.next ∧ (∀ b, b < Hk.next → S1.get b = Hk.get b) ∧ (∀ b, b < Hk.next → S2.get b = Hk.get b) ∧ vb.cells? = some [vb] ∧ vb.isCell = true := by
  obtain ⟨va, S1, a1, a2, a3, a4⟩ := copy_mine (H := Hk) (P := F) (N := Hk.next) (bytes := 24) (F := F) (ESl.stays EInt.stays) hm hF (fun cs a h => ESl.stays EInt.stays _ _ _ _ _ _ (fun b hb => ⟨⟨hF b hb, .inl hb⟩, rfl⟩) h) (Nat.le_refl _) ESl.isCell (by omega)
  have hr1 : IsInts F S1 vrow row := hr.move EInt.stays fun b hb => ⟨hb, a4 b (hF b hb)⟩
  obtain ⟨vb, S2, b1, b2, b3, b4⟩ := a2.push (bytes := 24) (cs := [vrow]) (a := row) (F := F) (ESl.stays EInt.stays) (by omega) rfl (fun k hk => ⟨by have := hF k hk; omega, fun i n y e => by have := (a2.spine e).1; have := hF k hk; omega, .inl hk⟩) ⟨_, rfl, hr1⟩ (by simp [hr.isCell]) (by omega)
  exact ⟨va, S1, vb, S2, a1, b1, b2.slF (ESl.stays EInt.stays), by omega, by omega, a4, fun b hb => by rw [b4 b hb, a4 b hb], b2.cells?, b2.isCell⟩
theorem span_cells {vs : List AV} {i : Nat} {a b c d : AV} (h : (vs.drop i).take 4 = [a, b, c, d]) : (vs.drop (i + 1)).take 2 = [b, c] := by
  have : (((vs.drop i).take 4).drop 1).take 2 = [b, c] := by rw [h]; rfl
  rw [List.drop_take, List.drop_drop, List.take_take] at this
  exact this
theorem push2 {Hk : AH} {N : Nat} {v : AV} {l : List Int} {a : Int} (hm : Mine 1 EInt (fun _ => False) N Hk v l) (hN : N ≤ Hk.next) (hl : l.length < 1000) :
    ∃ v' H', appendA (Hk.alloc (.cells false [I a])) 1 8 v (.slice Hk.next 0 1 1) = some (v', H') ∧ Mine 1 EInt (fun _ => False) N H' v' (l ++ [a]) ∧ Hk.next < H'.next ∧ (∀ k, k < Hk.next → OffB v k → H'.get k = Hk.get k) ∧ (∀ k, k < Hk.next → OffB v' k) := by
  have h' := hm.move (H' := Hk.alloc (.cells false [I a])) EInt.stays (fun k hk _ => get_alloc_old hk) (Nat.le_succ _)
  have hsrc : srcCells (Hk.alloc (.cells false [I a])) 1 [a].length (.slice Hk.next 0 1 1) = some [I a] := by
    simp [srcCells, AH.read, get_alloc_new, readN]
  obtain ⟨v', H', q1, q2, q3, q4⟩ := h'.append (bytes := 8) (x := .slice Hk.next 0 1 1) (l2 := [a]) EInt.stays (by simp; omega) rfl hsrc (Rows.single rfl rfl) rfl (by simp only [List.length_singleton, roomA]; omega)
  obtain ⟨m, hfr⟩ := append_fresh q1 (n := 0) rfl
  have nS : (Hk.alloc (.cells false [I a])).next = Hk.next + 1 := rfl
  exact ⟨v', H', q1, q2, by omega, fun k hk ho => by rw [q4 k (by omega) ho, get_alloc_old hk], fun k hk i n y e => by rw [hfr] at e; simp only [AV.slice.injEq] at e; omega⟩
theorem Told_run (v1 v2 p1 p2 p3 : AV) (h : House) (l1 l2 l3 : List Int) (hh : IsHouse (Old H) H v1 v2 h) (hf : Fine h) (hp1 : IsSl 1 (EK .u8) (Old H) H p1 l1) (hp2 : IsSl 1 (EK .u16) (Old H) H p2 l2) (hp3 : IsSl 1 (EK .u8) (Old H) H p3 l3)
    (z1 : l1.length ≤ 9223372036854775807) (z2 : l2.length ≤ 9223372036854775807) (z3 : l3.length ≤ 9223372036854775807) (r1 : ∀ x ∈ l1, 0 ≤ x ∧ x ≤ 255) (r2 : ∀ x ∈ l2, 0 ≤ x ∧ x ≤ 65535) (r3 : ∀ x ∈ l3, 0 ≤ x ∧ x ≤ 255)
    (k : ∀ H' vd vf vn z fs ns, Grew H H' → IsHouse (Old H') H' v1 vd z → IsInts (Old H') H' vf fs → IsInts (Old H') H' vn ns → ToldOk h z fs ns → R (.tuple [.agg [v1, vd], vf, vn]) H') : CallQ prog (.func 36 [] []) [.agg [v1, v2], .agg [p1, p2, p3]] H R := by
  have hw3 := hf.ws
  have hd4 := hf.days
  refine CallQ_enter (fn:=c36) rfl (Nat.le_of_ble_eq_true rfl) ?_;simp(maxSteps:=9999999)(disch:=first|omega|(simp only[AN];omega))only[c36,envFrom,hh.1.isCell,hh.2.isCell,hp1.isCell,hp2.isCell,hp3.isCell,↓KP,EN,↓reduceIte,reduceCtorEq,Nat.reduceEqDiff,Nat.reduceAdd,Nat.reduceLeDiff,Nat.reduceMul]
  refine K_loop (fun mz ez H1 => ∃ (i : Nat) (v7 : AV) (fs : List Int) (tail : Env), ez = (0, .agg [v1, v2]) :: (1, .agg [p1, p2, p3]) :: (2, .ptr H.next 0) :: (3, .ptr (H.next + 1) 0) :: (4, .ptr (H.next + 2) 0) :: (5, .nilslice) :: (6, .nilslice) :: (7, v7) :: (8, .nilslice) :: (9, I i) :: tail ∧ (Grew H H1) ∧ (H.next + 3 ≤ H1.next) ∧ (H1.get H.next = some (.cells false [v1, v2])) ∧ (H1.get (H.next + 1) = some (.cells false [p1, p2, p3])) ∧ (H1.get (H.next + 2) = some (.cells false [.nilslice, .nilslice])) ∧ (Mine 1 EInt (fun _ => False) (H.next + 3) H1 v7 fs) ∧ (i ≤ h.ws.length) ∧ (fs.length = i) ∧ (∀ j (hj : j < h.ws.length), j < i → h.ws[j].lo ≤ getI fs j ∧ getI fs j ≤ h.ws[j].hi) ∧ mz = h.ws.length - i) _ ⟨0, .nilslice, [], _, rfl, ?_, (by simp(maxSteps:=9999999)(disch:=first|omega|(simp only[AN];omega))only[↓KP,EN,↓reduceIte,reduceCtorEq,Nat.reduceEqDiff,Nat.reduceAdd,Nat.reduceLeDiff,Nat.reduceMul]; omega), ?_, ?_, ?_, (by exact Mine.nil), ?_, (by rfl), (by exact fun j _ hj0 => absurd hj0 (by omega)), rfl⟩ ?_
  iterate 5 (focus (first|(with_reducible rfl)|omega|(with_reducible(repeat first|exact Grew.refl _|assumption|apply Grew.alloc|refine Grew.set ?_ _ (by first|omega|(simp only[AN];omega)));done)|(simp(maxSteps:=9999999)(disch:=first|omega|(simp only[AN];omega))only[↓KP,EN,↓reduceIte,reduceCtorEq,Nat.reduceEqDiff,Nat.reduceAdd,Nat.reduceLeDiff,Nat.reduceMul]<;>first|omega|rfl)|(simp;done)|rfl))
  rintro mz ez H1 ⟨i, v7, fs, tail, rfl, hG, hlt, b2, b3, b4, hm, hi, hfl, hfac, hmz⟩; subst mz; have hGn := hG.next
  simp(maxSteps:=9999999)(disch:=first|omega|(simp only[AN];omega))only[b2,hh.1.len,↓KP,EN,↓reduceIte,reduceCtorEq,Nat.reduceEqDiff,Nat.reduceAdd,Nat.reduceLeDiff,Nat.reduceMul]
  refine C_decide (fun hc => ?_) (fun hc => ?_)
  · have hi' : i < h.ws.length := by omega
    have hwi := hf.w hi'
    obtain ⟨b5, i5, ro5, vs5, lt5, r⟩ := rdW hh.1 (k := i) rfl hi'
    have e1 : IntKind.i64.wrap ((i : Int) + 1) = ((i + 1 : Nat) : Int) := i64_in _ (by omega)
    have rs := span_cells r.2.2.2.1
    have rl : i5 + 1 + 2 ≤ vs5.length := by have := r.2.2.1; omega
    simp(maxSteps:=9999999)(disch:=first|omega|(simp only[AN];omega))only[b2,b3,hG.get,r,rs,rl,↓KP,EN,↓reduceIte,reduceCtorEq,Nat.reduceEqDiff,Nat.reduceAdd,Nat.reduceLeDiff,Nat.reduceMul]
    refine K_draw ?_
    have w1 : IntKind.i64.wrap (h.ws[i].hi - h.ws[i].lo) = h.ws[i].hi - h.ws[i].lo := i64_in _ (by omega)
    have w2 : IntKind.i64.wrap (h.ws[i].hi - h.ws[i].lo + 1) = h.ws[i].hi - h.ws[i].lo + 1 := i64_in _ (by omega)
    have w0 : ¬ h.ws[i].hi - h.ws[i].lo + 1 = 0 := by omega
    simp(maxSteps:=9999999)(disch:=first|omega|(simp only[AN];omega))only[b2,b3,hG.get,w1,w2,↓KP,EN,↓reduceIte,reduceCtorEq,Nat.reduceEqDiff,Nat.reduceAdd,Nat.reduceLeDiff,Nat.reduceMul]
    refine C_calld ?_
    refine Turn_run p1 l1 i (hp1.grow EK.stays GW) z1 r1 (by omega) fun t t0 t1 => ?_
    obtain ⟨m1, m2⟩ := tmodN (a := t) (b := h.ws[i].hi - h.ws[i].lo + 1) t0 (by omega)
    have w3 : IntKind.i64.wrap (h.ws[i].lo + Int.tmod t (h.ws[i].hi - h.ws[i].lo + 1)) = h.ws[i].lo + Int.tmod t (h.ws[i].hi - h.ws[i].lo + 1) := i64_in _ (by omega)
    have hmJ : Mine 1 EInt (fun _ => False) (H.next + 3) ((H1.alloc (.cells false [.int .i64 0, .int .i64 0])).set H1.next (.cells false [I h.ws[i].lo, I h.ws[i].hi])) v7 fs := hm.grow EInt.stays GW
    have nJ : ((H1.alloc (.cells false [.int .i64 0, .int .i64 0])).set H1.next (.cells false [I h.ws[i].lo, I h.ws[i].hi])).next = H1.next + 1 := rfl
    have kJ : ∀ b, b < H1.next → ((H1.alloc (.cells false [.int .i64 0, .int .i64 0])).set H1.next (.cells false [I h.ws[i].lo, I h.ws[i].hi])).get b = H1.get b := fun b hb => by simp(maxSteps:=9999999)(disch:=first|omega|(simp only[AN];omega))only[↓KP,EN,↓reduceIte,reduceCtorEq,Nat.reduceEqDiff,Nat.reduceAdd,Nat.reduceLeDiff,Nat.reduceMul]
    have sJ : ((H1.alloc (.cells false [.int .i64 0, .int .i64 0])).set H1.next (.cells false [I h.ws[i].lo, I h.ws[i].hi])).get H1.next = some (.cells false [I h.ws[i].lo, I h.ws[i].hi]) := by simp(maxSteps:=9999999)(disch:=first|omega|(simp only[AN];omega))only[↓KP,EN,↓reduceIte,reduceCtorEq,Nat.reduceEqDiff,Nat.reduceAdd,Nat.reduceLeDiff,Nat.reduceMul]
    generalize (H1.alloc (.cells false [.int .i64 0, .int .i64 0])).set H1.next (.cells false [I h.ws[i].lo, I h.ws[i].hi]) = J at *
    obtain ⟨vb, H5, q1, q2, q3, q4⟩ := hmJ.push (bytes := 8) (cs := [I (h.ws[i].lo + Int.tmod t (h.ws[i].hi - h.ws[i].lo + 1))]) (a := h.ws[i].lo + Int.tmod t (h.ws[i].hi - h.ws[i].lo + 1)) (F := fun _ => False) EInt.stays (by omega) rfl (fun _ h => h.elim) rfl rfl (by omega)
    have hfac2 : ∀ j (hj : j < h.ws.length), j < i + 1 → h.ws[j].lo ≤ getI (fs ++ [h.ws[i].lo + Int.tmod t (h.ws[i].hi - h.ws[i].lo + 1)]) j ∧ getI (fs ++ [h.ws[i].lo + Int.tmod t (h.ws[i].hi - h.ws[i].lo + 1)]) j ≤ h.ws[j].hi := fun j hj hj1 => by
      rw [getI_append, hfl]
      by_cases e : j < i
      · rw [if_pos e]; exact hfac j hj e
      · have e2 : j = i := by omega
        subst e2
        rw [if_neg e, if_pos rfl]; omega
    simp(maxSteps:=9999999)(disch:=first|omega|(simp only[AN];omega))only[sJ,kJ,b2,b3,w0,w1,w2,w3,q1,e1,↓KP,EN,↓reduceIte,reduceCtorEq,Nat.reduceEqDiff,Nat.reduceAdd,Nat.reduceLeDiff,Nat.reduceMul]
    refine ⟨_, ?_, i + 1, vb, fs ++ [h.ws[i].lo + Int.tmod t (h.ws[i].hi - h.ws[i].lo + 1)], _, rfl, (by exact ⟨by omega, fun b hb => by rw [q4 b (by omega), kJ b (by omega), hG.get b hb]⟩), ?_, (by rw [q4 _ (by omega), kJ _ (by omega), b2]), (by rw [q4 _ (by omega), kJ _ (by omega), b3]), (by rw [q4 _ (by omega), kJ _ (by omega), b4]), (by exact q2), ?_, (by simp [hfl]), (by exact hfac2), rfl⟩ <;> (first|omega|(with_reducible assumption)|(with_reducible(repeat first|exact Grew.refl _|assumption|apply Grew.alloc|refine Grew.set ?_ _ (by first|omega|(simp only[AN];omega)));done)|(simp(maxSteps:=9999999)(disch:=first|omega|(simp only[AN];omega))only[↓KP,EN,↓reduceIte,reduceCtorEq,Nat.reduceEqDiff,Nat.reduceAdd,Nat.reduceLeDiff,Nat.reduceMul]<;>first|omega|rfl))
  · have hie : i = h.ws.length := by omega
    subst hie
    have hB : Grew H H1 := hG
    have hvf := hm.sl EInt.stays
    have hfac' : ∀ j (hj : j < h.ws.length), h.ws[j].lo ≤ getI fs j ∧ getI fs j ≤ h.ws[j].hi := fun j hj => hfac j hj hj
    simp(maxSteps:=9999999)(disch:=first|omega|(simp only[AN];omega))only[b2,hh.1.isCell,↓KP,EN,↓reduceIte,reduceCtorEq,Nat.reduceEqDiff,Nat.reduceAdd,Nat.reduceLeDiff,Nat.reduceMul]
    have n1 : H.next + 3 ≤ H1.next := hlt
    refine K_loop (fun mz ez H2 => ∃ (d : Nat) (v8 vd : AV) (ns : List Int) (zd : List (List Int)) (tail : Env), ez = (0, .agg [v1, v2]) :: (1, .agg [p1, p2, p3]) :: (2, .ptr H.next 0) :: (3, .ptr (H.next + 1) 0) :: (4, .ptr (H.next + 2) 0) :: (5, .nilslice) :: (6, .nilslice) :: (7, v7) :: (8, v8) :: (9, I h.ws.length) :: tail ∧ (tail.get 11 = some v2) ∧ (tail.get 12 = some (I d)) ∧ (H1.next ≤ H2.next) ∧ (∀ c, c < H1.next → c ≠ H.next → H2.get c = H1.get c) ∧ (H2.get H.next = some (.cells false [v1, vd])) ∧ (Mine 1 EInt (fun _ => False) H1.next H2 v8 ns) ∧ (IsSl 1 (ESl 1 EInt) (fun c => c < H2.next ∧ OffB v8 c ∧ H1.next ≤ c) H2 vd zd) ∧ (d ≤ h.days.length) ∧ (ns.length = d) ∧ (zd.length = d) ∧ (∀ e, e < d → 0 ≤ getI ns e ∧ getI ns e ≤ 39999) ∧ (∀ e, e < d → RowOk h.ws fs (getI ns e) (zd.getD e [])) ∧ mz = h.days.length - d) _ ⟨0, .nilslice, .nilslice, [], [], _, rfl, ?_, ?_, (by exact Nat.le_refl _), (by exact fun c _ hc => get_set_other hc), ?_, (by exact Mine.nil), (by exact .inl ⟨rfl, rfl⟩), ?_, (by rfl), (by rfl), (by exact fun e he => absurd he (by omega)), (by exact fun e he => absurd he (by omega)), rfl⟩ ?_
    iterate 4 (focus (first|(with_reducible rfl)|omega|(with_reducible(repeat first|exact Grew.refl _|assumption|apply Grew.alloc|refine Grew.set ?_ _ (by first|omega|(simp only[AN];omega)));done)|(simp(maxSteps:=9999999)(disch:=first|omega|(simp only[AN];omega))only[↓KP,EN,↓reduceIte,reduceCtorEq,Nat.reduceEqDiff,Nat.reduceAdd,Nat.reduceLeDiff,Nat.reduceMul]<;>first|omega|rfl)|(simp;done)|rfl))
    rintro mz ez H2 ⟨d, v8, vd, ns, zd, tail, rfl, h11, h12, hn, hk, b2', hm8, hvd, hd, hnl, hzl, hnum, hrow, hmz⟩; subst mz
    have b3' : H2.get (H.next + 1) = some (.cells false [p1, p2, p3]) := by rw [hk _ (by omega) (by omega), b3]
    have kH : ∀ c, c < H.next → H2.get c = H.get c := fun c hc => by rw [hk _ (by omega) (by omega), hB.get c hc]
    simp(maxSteps:=9999999)(disch:=first|omega|(simp only[AN];omega))only[h11,h12,hh.2.len,↓KP,EN,↓reduceIte,reduceCtorEq,Nat.reduceEqDiff,Nat.reduceAdd,Nat.reduceLeDiff,Nat.reduceMul]
    refine C_decide (fun hc => ?_) (fun hc => ?_)
    · have hd' : d < h.days.length := by omega
      obtain ⟨p_b, p_i, p_ro, p_vs, vrow, p_lt, hvrow, p⟩ := hh.2.rdSl rfl hd'
      simp(maxSteps:=9999999)(disch:=first|omega|(simp only[AN];omega))only[h11,h12,b3',hp2.len,↓KP,EN,↓reduceIte,reduceCtorEq,Nat.reduceEqDiff,Nat.reduceAdd,Nat.reduceLeDiff,Nat.reduceMul]
      refine C_join (fun e' H' => ∃ (n : Int) (t2 : Env), e' = (0, .agg [v1, v2]) :: (1, .agg [p1, p2, p3]) :: (2, .ptr H.next 0) :: (3, .ptr (H.next + 1) 0) :: (4, .ptr (H.next + 2) 0) :: (5, .nilslice) :: (6, .nilslice) :: (7, v7) :: (8, v8) :: (9, I h.ws.length) :: t2 ∧ H2 = H' ∧ Env.get t2 11 = some v2 ∧ Env.get t2 12 = some (I d) ∧ Env.get t2 13 = some (I n) ∧ 0 ≤ n ∧ n ≤ 39999) ?_ ?_
      · refine C_decide (fun hc0 => ?_) (fun hc0 => ?_)
        · obtain ⟨m1, m2⟩ := tmodN (a := (d : Int)) (b := l2.length) (by omega) (by omega)
          obtain ⟨ub, ui, uro, uvs, ult, u⟩ := rdK hp2 (n := Int.tmod (d : Int) l2.length) (k := (Int.tmod (d : Int) l2.length).toNat) (by omega) (by omega)
          have hx := r2 _ (List.getElem_mem (l := l2) (n := (Int.tmod (d : Int) l2.length).toNat) (by omega))
          generalize l2[(Int.tmod (d : Int) l2.length).toNat] = q at *
          have e1 : IntKind.i64.wrap q = q := i64_in _ (by omega)
          have e0 : ¬ (l2.length : Int) = 0 := by omega
          have e40 : ¬ (40000 : Int) = 0 := by decide
          obtain ⟨m3, m4⟩ := tmodN (a := q) (b := 40000) (by omega) (by omega)
          refine K_draw ?_
          simp(maxSteps:=9999999)(disch:=first|omega|(simp only[AN];omega))only[h11,h12,b3',hp2.len,kH,u,e0,e1,e40,↓KP,EN,↓reduceIte,reduceCtorEq,Nat.reduceEqDiff,Nat.reduceAdd,Nat.reduceLeDiff,Nat.reduceMul]
          exact K_joined ⟨_, _, rfl, rfl, by simp(maxSteps:=9999999)(disch:=first|omega|(simp only[AN];omega))only[h11,↓KP,EN,↓reduceIte,reduceCtorEq,Nat.reduceEqDiff,Nat.reduceAdd,Nat.reduceLeDiff,Nat.reduceMul], by simp(maxSteps:=9999999)(disch:=first|omega|(simp only[AN];omega))only[h12,↓KP,EN,↓reduceIte,reduceCtorEq,Nat.reduceEqDiff,Nat.reduceAdd,Nat.reduceLeDiff,Nat.reduceMul], by simp(maxSteps:=9999999)(disch:=first|omega|(simp only[AN];omega))only[↓KP,EN,↓reduceIte,reduceCtorEq,Nat.reduceEqDiff,Nat.reduceAdd,Nat.reduceLeDiff,Nat.reduceMul], m3, by omega⟩
        · simp(maxSteps:=9999999)(disch:=first|omega|(simp only[AN];omega))only[↓KP,EN,↓reduceIte,reduceCtorEq,Nat.reduceEqDiff,Nat.reduceAdd,Nat.reduceLeDiff,Nat.reduceMul]
          exact K_joined ⟨0, _, rfl, rfl, by simp(maxSteps:=9999999)(disch:=first|omega|(simp only[AN];omega))only[h11,↓KP,EN,↓reduceIte,reduceCtorEq,Nat.reduceEqDiff,Nat.reduceAdd,Nat.reduceLeDiff,Nat.reduceMul], by simp(maxSteps:=9999999)(disch:=first|omega|(simp only[AN];omega))only[h12,↓KP,EN,↓reduceIte,reduceCtorEq,Nat.reduceEqDiff,Nat.reduceAdd,Nat.reduceLeDiff,Nat.reduceMul], by simp(maxSteps:=9999999)(disch:=first|omega|(simp only[AN];omega))only[↓KP,EN,↓reduceIte,reduceCtorEq,Nat.reduceEqDiff,Nat.reduceAdd,Nat.reduceLeDiff,Nat.reduceMul], by omega, by omega⟩
      · rintro e' H' ⟨n, t2, rfl, rfl, g11, g12, g13, hn0, hn1⟩
        obtain ⟨vn, H3, q1, q2, q3, q4, q5⟩ := push2 (a := n) hm8 hn (by omega)
        have kH3 : ∀ c, c < H.next → H3.get c = H.get c := fun c hc => by rw [q4 c (by omega) (fun i n y e => by have := (hm8.spine e).1; omega), kH c hc]
        obtain ⟨v14, H4, w1, w2, w3, w4⟩ := copy_mine (H := H3) (P := fun _ => False) (N := H3.next) (bytes := 8) EInt.stays (hvrow.move EInt.stays (F' := Old H) fun b hb => ⟨hb, kH3 b hb⟩) (fun c hc => by have : c < H.next := hc; omega) (fun _ _ h => h) (Nat.le_refl _) EInt.isCell (by have := hf.len _ (List.getElem_mem hd'); omega)
        simp(maxSteps:=9999999)(disch:=first|omega|(simp only[AN];omega))only[g11,g12,g13,q1,kH3,p,w1,↓KP,EN,↓reduceIte,reduceCtorEq,Nat.reduceEqDiff,Nat.reduceAdd,Nat.reduceLeDiff,Nat.reduceMul]
        have hlr := hf.len _ (List.getElem_mem hd')
        have hcr := hf.count _ (List.getElem_mem hd')
        refine K_loop (fun mz ez H5 => ∃ (i : Nat) (own : List Int) (tail : Env), ez = (0, .agg [v1, v2]) :: (1, .agg [p1, p2, p3]) :: (2, .ptr H.next 0) :: (3, .ptr (H.next + 1) 0) :: (4, .ptr (H.next + 2) 0) :: (5, .nilslice) :: (6, .nilslice) :: (7, v7) :: (8, vn) :: (9, I h.ws.length) :: tail ∧ (tail.get 11 = some v2) ∧ (tail.get 12 = some (I d)) ∧ (tail.get 13 = some (I n)) ∧ (tail.get 14 = some v14) ∧ (tail.get 15 = some (I i)) ∧ (H4.next ≤ H5.next) ∧ (∀ c, c < H3.next → H5.get c = H3.get c) ∧ (Mine 1 EInt (fun _ => False) H3.next H5 v14 own) ∧ (own.length = h.ws.length) ∧ (∀ j, j < h.ws.length → -1 ≤ getI own j ∧ getI own j ≤ 120) ∧ (∀ j (hj : j < h.ws.length), j < i → Cnt h.ws[j] (getI own j) (getI fs j) n) ∧ (i ≤ h.ws.length) ∧ mz = h.ws.length - i) _ ⟨0, _, _, rfl, (by simp(maxSteps:=9999999)(disch:=first|omega|(simp only[AN];omega))only[g11,↓KP,EN,↓reduceIte,reduceCtorEq,Nat.reduceEqDiff,Nat.reduceAdd,Nat.reduceLeDiff,Nat.reduceMul]), (by simp(maxSteps:=9999999)(disch:=first|omega|(simp only[AN];omega))only[g12,↓KP,EN,↓reduceIte,reduceCtorEq,Nat.reduceEqDiff,Nat.reduceAdd,Nat.reduceLeDiff,Nat.reduceMul]), (by simp(maxSteps:=9999999)(disch:=first|omega|(simp only[AN];omega))only[g13,↓KP,EN,↓reduceIte,reduceCtorEq,Nat.reduceEqDiff,Nat.reduceAdd,Nat.reduceLeDiff,Nat.reduceMul]), ?_, ?_, (by exact Nat.le_refl _), (by exact w4), (by exact w2), (by exact hlr), (by exact fun j hj => by rw [getI_eq (by omega)]; exact hcr _ (List.getElem_mem _)), (by exact fun j _ hj => absurd hj (by omega)), ?_, rfl⟩ ?_
        iterate 3 (focus (first|(with_reducible rfl)|omega|(with_reducible(repeat first|exact Grew.refl _|assumption|apply Grew.alloc|refine Grew.set ?_ _ (by first|omega|(simp only[AN];omega)));done)|(simp(maxSteps:=9999999)(disch:=first|omega|(simp only[AN];omega))only[↓KP,EN,↓reduceIte,reduceCtorEq,Nat.reduceEqDiff,Nat.reduceAdd,Nat.reduceLeDiff,Nat.reduceMul]<;>first|omega|rfl)|(simp;done)|rfl))
        rintro mz ez H5 ⟨i, own, tail, rfl, f11, f12, f13, f14, f15, kn, kk, hown, hol, hrng, hcnt, hi, hmz⟩; subst mz
        simp(maxSteps:=9999999)(disch:=first|omega|(simp only[AN];omega))only[f14,f15,hown.len,↓KP,EN,↓reduceIte,reduceCtorEq,Nat.reduceEqDiff,Nat.reduceAdd,Nat.reduceLeDiff,Nat.reduceMul]
        refine C_decide (fun hc1 => ?_) (fun hc1 => ?_)
        · have hi' : i < h.ws.length := by omega
          have e1 : IntKind.i64.wrap ((i : Int) + 1) = ((i + 1 : Nat) : Int) := i64_in _ (by omega)
          obtain ⟨o_b, o_i, o_ro, o_vs, o_lt, o⟩ := (hown.sl EInt.stays).rdInt (k := i) rfl (by omega)
          have hoi : own[i]'(by omega) = getI own i := (getI_eq (by omega)).symm
          rw [hoi] at o
          have hstep : ∀ own' : List Int, (∀ j, j ≠ i → getI own' j = getI own j) → Cnt h.ws[i] (getI own' i) (getI fs i) n → ∀ j (hj : j < h.ws.length), j < i + 1 → Cnt h.ws[j] (getI own' j) (getI fs j) n := fun own' h1 h2 j hj hj1 => by
            by_cases e : j = i
            · subst e; exact h2
            · rw [h1 j e]; exact hcnt j hj (by omega)
          by_cases hnone : getI own i = -1
          · simp(maxSteps:=9999999)(disch:=first|omega|(simp only[AN];omega))only[f14,f15,o,eq_true hnone,e1,↓KP,EN,↓reduceIte,reduceCtorEq,Nat.reduceEqDiff,Nat.reduceAdd,Nat.reduceLeDiff,Nat.reduceMul]
            refine ⟨_, ?_, i + 1, own, _, rfl, ?_, ?_, ?_, ?_, ?_, ?_, ?_, ?_, ?_, ?_, (by exact hstep own (fun _ _ => rfl) (fun hne => absurd hnone hne)), ?_, rfl⟩ <;> (first|omega|(with_reducible assumption)|(with_reducible(repeat first|exact Grew.refl _|assumption|apply Grew.alloc|refine Grew.set ?_ _ (by first|omega|(simp only[AN];omega)));done)|(simp(maxSteps:=9999999)(disch:=first|omega|(simp only[AN];omega))only[f11,f12,f13,f14,f15,↓KP,EN,↓reduceIte,reduceCtorEq,Nat.reduceEqDiff,Nat.reduceAdd,Nat.reduceLeDiff,Nat.reduceMul]<;>first|omega|rfl))
          · have hv8o : ∀ c, c < H1.next → OffB v8 c := fun c hc i n y e => by have := (hm8.spine e).1; omega
            have kH5 : ∀ c, c < H1.next → c ≠ H.next → H5.get c = H1.get c := fun c hc hne => by rw [kk c (by omega), q4 c (by omega) (hv8o c hc), hk c hc hne]
            have kH0 : ∀ c, c < H.next → H5.get c = H.get c := fun c hc => by rw [kH5 c (by omega) (by omega), hB.get c hc]
            have bb2 : H5.get H.next = some (.cells false [v1, vd]) := by rw [kk _ (by omega), q4 _ (by omega) (hv8o _ (by omega)), b2']
            have bb3 : H5.get (H.next + 1) = some (.cells false [p1, p2, p3]) := by rw [kH5 _ (by omega) (by omega), b3]
            obtain ⟨b5, i5, ro5, vs5, lt5, r⟩ := rdW hh.1 (k := i) rfl hi'
            have hvf5 : IsInts (Old H5) H5 v7 fs := (hm.slF EInt.stays).move EInt.stays fun c hc => ⟨by have := hc.1; show c < H5.next; omega, kH5 c hc.1 (by have := hc.2.elim False.elim id; omega)⟩
            obtain ⟨y_b, y_i, y_ro, y_vs, y_lt, y⟩ := hvf5.rdInt (k := i) rfl (by omega)
            have hyi : fs[i]'(by omega) = getI fs i := (getI_eq (by omega)).symm
            rw [hyi] at y
            have hlen14 : ∀ S, opLen false v14 S = some (I h.ws.length, S) := fun S => by rw [hown.len S, hol]
            have hwi := hf.w hi'
            have hfi := hfac' i hi'
            obtain ⟨d1, d2⟩ := tdivN (a := n) (b := getI fs i) hn0 (by omega)
            have hmul : 0 ≤ (d : Int) * h.ws.length ∧ (d : Int) * h.ws.length ≤ 4 * 3 := ⟨Int.mul_nonneg (by omega) (by omega), Int.mul_le_mul (by omega) (by omega) (by omega) (by omega)⟩
            have x1 : IntKind.i64.wrap ((d : Int) * h.ws.length) = (d : Int) * h.ws.length := i64_in _ (by omega)
            have x2 : IntKind.i64.wrap ((d : Int) * h.ws.length + i) = (d : Int) * h.ws.length + i := i64_in _ (by omega)
            have x3 : IntKind.i64.wrap (2 * h.ws[i].off) = 2 * h.ws[i].off := i64_in _ (by omega)
            have x4 : IntKind.i64.wrap (2 * h.ws[i].off + 1) = 2 * h.ws[i].off + 1 := i64_in _ (by omega)
            have x5 : IntKind.i64.wrap (Int.tdiv n (getI fs i)) = Int.tdiv n (getI fs i) := i64_in _ (by omega)
            have x0 : ¬ getI fs i = 0 := by omega
            simp(maxSteps:=9999999)(disch:=first|omega|(simp only[AN];omega))only[f14,f15,o,hnone,bb2,kH0,r,Watcher.cells,↓KP,EN,↓reduceIte,reduceCtorEq,Nat.reduceEqDiff,Nat.reduceAdd,Nat.reduceLeDiff,Nat.reduceMul]
            refine K_draw ?_
            simp(maxSteps:=9999999)(disch:=first|omega|(simp only[AN];omega))only[f11,f12,f13,f14,f15,y,bb3,hlen14,x0,x1,x2,x3,x4,x5,↓KP,EN,↓reduceIte,reduceCtorEq,Nat.reduceEqDiff,Nat.reduceAdd,Nat.reduceLeDiff,Nat.reduceMul]
            refine C_calld ?_
            refine Turn_run p3 l3 ((d : Int) * h.ws.length + i) (hp3.move EK.stays fun c hc => ⟨by have : c < H.next := hc; show c < _; simp only [AN]; omega, by have : c < H.next := hc; simp(maxSteps:=9999999)(disch:=first|omega|(simp only[AN];omega))only[kH0,↓KP,EN,↓reduceIte,reduceCtorEq,Nat.reduceEqDiff,Nat.reduceAdd,Nat.reduceLeDiff,Nat.reduceMul]⟩) z3 r3 (by omega) fun t t0 t1 => ?_
            obtain ⟨m1, m2⟩ := tmodN (a := t) (b := 2 * h.ws[i].off + 1) t0 (by omega)
            have y0 : ¬ 2 * h.ws[i].off + 1 = 0 := by omega
            have y1 : IntKind.i64.wrap (Int.tdiv n (getI fs i) + Int.tmod t (2 * h.ws[i].off + 1)) = Int.tdiv n (getI fs i) + Int.tmod t (2 * h.ws[i].off + 1) := i64_in _ (by omega)
            have y2 : IntKind.i64.wrap (Int.tdiv n (getI fs i) + Int.tmod t (2 * h.ws[i].off + 1) - h.ws[i].off) = Int.tdiv n (getI fs i) + Int.tmod t (2 * h.ws[i].off + 1) - h.ws[i].off := i64_in _ (by omega)
            have nJ : ((H5.alloc (.cells false [.str (bs []), .int .i64 0, .int .i64 0, .int .i64 0])).set H5.next (.cells false [.str h.ws[i].name, I h.ws[i].lo, I h.ws[i].hi, I h.ws[i].off])).next = H5.next + 1 := rfl
            have kJ : ∀ c, c < H5.next → ((H5.alloc (.cells false [.str (bs []), .int .i64 0, .int .i64 0, .int .i64 0])).set H5.next (.cells false [.str h.ws[i].name, I h.ws[i].lo, I h.ws[i].hi, I h.ws[i].off])).get c = H5.get c := fun c hc => by simp(maxSteps:=9999999)(disch:=first|omega|(simp only[AN];omega))only[↓KP,EN,↓reduceIte,reduceCtorEq,Nat.reduceEqDiff,Nat.reduceAdd,Nat.reduceLeDiff,Nat.reduceMul]
            have sJ : ((H5.alloc (.cells false [.str (bs []), .int .i64 0, .int .i64 0, .int .i64 0])).set H5.next (.cells false [.str h.ws[i].name, I h.ws[i].lo, I h.ws[i].hi, I h.ws[i].off])).get H5.next = some (.cells false [.str h.ws[i].name, I h.ws[i].lo, I h.ws[i].hi, I h.ws[i].off]) := by simp(maxSteps:=9999999)(disch:=first|omega|(simp only[AN];omega))only[↓KP,EN,↓reduceIte,reduceCtorEq,Nat.reduceEqDiff,Nat.reduceAdd,Nat.reduceLeDiff,Nat.reduceMul]
            simp(maxSteps:=9999999)(disch:=first|omega|(simp only[AN];omega))only[f11,f12,f13,f14,f15,y,bb3,hlen14,x0,x1,x2,x3,x4,x5,y0,y1,y2,↓KP,EN,↓reduceIte,reduceCtorEq,Nat.reduceEqDiff,Nat.reduceAdd,Nat.reduceLeDiff,Nat.reduceMul]
            generalize (H5.alloc (.cells false [.str (bs []), .int .i64 0, .int .i64 0, .int .i64 0])).set H5.next (.cells false [.str h.ws[i].name, I h.ws[i].lo, I h.ws[i].hi, I h.ws[i].off]) = J at *
            generalize Int.tdiv n (getI fs i) + Int.tmod t (2 * h.ws[i].off + 1) - h.ws[i].off = c at *
            have hownJ : Mine 1 EInt (fun _ => False) H3.next J v14 own := hown.move EInt.stays (fun e he _ => kJ e he) (by omega)
            obtain ⟨pb, pi, pvs, pvs', u1, u2, u, hm2⟩ := hownJ.poke (cs := [I (-1)]) (a := -1) (F := fun _ => False) EInt.stays (n := (i : Int)) (k := i) rfl (by omega) rfl (fun _ h => h.elim) rfl
            simp(maxSteps:=9999999)(disch:=first|omega|(simp only[AN];omega))only[f11,f12,f13,f14,f15,u,↓KP,EN,↓reduceIte,reduceCtorEq,Nat.reduceEqDiff,Nat.reduceAdd,Nat.reduceLeDiff,Nat.reduceMul]
            have hq := (u.1 H).symm.trans (o.1 H)
            simp only [Option.some.injEq, Prod.mk.injEq, AV.ptr.injEq, and_true] at hq
            have hpb : pb < H5.next := by rw [hq.1]; exact o_lt
            have nK : (J.set pb (.cells false pvs')).next = H5.next + 1 := nJ
            have kK : ∀ c, c < H3.next → (J.set pb (.cells false pvs')).get c = H5.get c := fun c hc => by rw [get_set_other (by omega), kJ c (by omega)]
            have sK : (J.set pb (.cells false pvs')).get H5.next = some (.cells false [.str h.ws[i].name, I h.ws[i].lo, I h.ws[i].hi, I h.ws[i].off]) := by rw [get_set_other (by omega), sJ]
            generalize J.set pb (.cells false pvs') = K at *
            have hol1 : (own.set i (-1)).length = h.ws.length := by rw [List.length_set, hol]
            have g1 : ∀ j, getI (own.set i (-1)) j = if j = i then -1 else getI own j := fun j => getI_set (by omega) j
            have hrng1 : ∀ j, j < h.ws.length → -1 ≤ getI (own.set i (-1)) j ∧ getI (own.set i (-1)) j ≤ 120 := fun j hj => by
              rw [g1]; split
              · omega
              · exact hrng j hj
            have hcnt1 := hstep (own.set i (-1)) (fun j hj => by rw [g1, if_neg hj]) (by rw [g1, if_pos rfl]; exact fun hne => absurd rfl hne)
            have hvfK : IsInts (fun c => c < H1.next ∧ (False ∨ H.next + 3 ≤ c)) K v7 fs := (hm.slF EInt.stays).move EInt.stays fun e he => ⟨he, by rw [kK _ (by have := he.1; omega), kH5 e he.1 (by have := he.2.elim False.elim id; omega)]⟩
            generalize own.set i (-1) = own1 at *
            obtain ⟨yk_b, yk_i, yk_ro, yk_vs, yk_lt, yk⟩ := (hvfK.move EInt.stays (F' := Old K) fun e he => ⟨by have := he.1; show e < K.next; omega, rfl⟩).rdInt (k := i) rfl (by omega)
            rw [hyi] at yk
            refine K_draw ?_
            simp(maxSteps:=9999999)(disch:=first|omega|(simp only[AN];omega))only[f11,f12,f13,f14,f15,↓KP,EN,↓reduceIte,reduceCtorEq,Nat.reduceEqDiff,Nat.reduceAdd,Nat.reduceLeDiff,Nat.reduceMul]
            refine C_calld ?_
            refine In_run c 0 120 ?_
            cases hin : (decide (0 ≤ c) && decide (c ≤ 120)) with
            | false =>
              simp(maxSteps:=9999999)(disch:=first|omega|(simp only[AN];omega))only[f11,f12,f13,f14,f15,e1,↓KP,EN,↓reduceIte,reduceCtorEq,Nat.reduceEqDiff,Nat.reduceAdd,Nat.reduceLeDiff,Nat.reduceMul]
              refine ⟨_, ?_, i + 1, own1, _, rfl, ?_, ?_, ?_, ?_, ?_, ?_, (by exact fun e he => by rw [kK e he, kk e he]), (by exact hm2), ?_, ?_, (by exact hcnt1), ?_, rfl⟩ <;> (first|omega|(with_reducible assumption)|(with_reducible(repeat first|exact Grew.refl _|assumption|apply Grew.alloc|refine Grew.set ?_ _ (by first|omega|(simp only[AN];omega)));done)|(simp(maxSteps:=9999999)(disch:=first|omega|(simp only[AN];omega))only[f11,f12,f13,f14,f15,↓KP,EN,↓reduceIte,reduceCtorEq,Nat.reduceEqDiff,Nat.reduceAdd,Nat.reduceLeDiff,Nat.reduceMul]<;>first|omega|rfl))
            | true =>
              have hcr2 : 0 ≤ c ∧ c ≤ 120 := by simpa using hin
              simp(maxSteps:=9999999)(disch:=first|omega|(simp only[AN];omega))only[f11,f12,f13,f14,f15,sK,yk,↓KP,EN,↓reduceIte,reduceCtorEq,Nat.reduceEqDiff,Nat.reduceAdd,Nat.reduceLeDiff,Nat.reduceMul]
              have hce : AV.agg [.str h.ws[i].name, I h.ws[i].lo, I h.ws[i].hi, I h.ws[i].off] = .agg h.ws[i].cells := rfl
              rw [hce]
              refine C_calld ?_
              refine Of_run h.ws[i] (getI fs i) c (by omega) (by omega) (by omega) fun H7 hg7 => ?_
              have hg7n:=hg7.next;try simp only[AN]at hg7n
              simp(maxSteps:=9999999)(disch:=first|omega|(simp only[AN];omega))only[f11,f12,f13,f14,f15,sK,yk,hg7.get,↓KP,EN,↓reduceIte,reduceCtorEq,Nat.reduceEqDiff,Nat.reduceAdd,Nat.reduceLeDiff,Nat.reduceMul]
              refine C_calld ?_
              refine Inside_run n (getI fs i * max 0 (c - h.ws[i].off)) (getI fs i * (c + h.ws[i].off)) fun H8 hg8 => ?_
              have hg8n:=hg8.next;try simp only[AN]at hg8n
              have hm8' := (hm2.grow EInt.stays hg7).grow EInt.stays hg8
              cases hin2 : (decide (getI fs i * max 0 (c - h.ws[i].off) ≤ n) && decide (n ≤ getI fs i * (c + h.ws[i].off))) with
              | false =>
                simp(maxSteps:=9999999)(disch:=first|omega|(simp only[AN];omega))only[f11,f12,f13,f14,f15,sK,yk,hg8.get,hg7.get,e1,↓KP,EN,↓reduceIte,reduceCtorEq,Nat.reduceEqDiff,Nat.reduceAdd,Nat.reduceLeDiff,Nat.reduceMul]
                refine ⟨_, ?_, i + 1, own1, _, rfl, ?_, ?_, ?_, ?_, ?_, ?_, (by exact fun e he => by rw [hg8.get e (by omega), hg7.get e (by omega), kK e he, kk e he]), (by exact hm8'), ?_, ?_, (by exact hcnt1), ?_, rfl⟩ <;> (first|omega|(with_reducible assumption)|(with_reducible(repeat first|exact Grew.refl _|assumption|apply Grew.alloc|refine Grew.set ?_ _ (by first|omega|(simp only[AN];omega)));done)|(simp(maxSteps:=9999999)(disch:=first|omega|(simp only[AN];omega))only[f11,f12,f13,f14,f15,↓KP,EN,↓reduceIte,reduceCtorEq,Nat.reduceEqDiff,Nat.reduceAdd,Nat.reduceLeDiff,Nat.reduceMul]<;>first|omega|rfl))
              | true =>
                obtain ⟨pb2, pi2, pvs2, pvs2', u3, u4, u5, hm3⟩ := hm8'.poke (cs := [I c]) (a := c) (F := fun _ => False) EInt.stays (n := (i : Int)) (k := i) rfl (by omega) rfl (fun _ h => h.elim) rfl
                have g2 : ∀ j, getI (own1.set i c) j = if j = i then c else getI own1 j := fun j => getI_set (by omega) j
                have hin3 : getI fs i * max 0 (c - h.ws[i].off) ≤ n ∧ n ≤ getI fs i * (c + h.ws[i].off) := by simpa using hin2
                have hcnt2 := hstep (own1.set i c) (fun j hj => by rw [g2, if_neg hj, g1, if_neg hj]) (by rw [g2, if_pos rfl]; exact fun _ => hin3)
                have hrng2 : ∀ j, j < h.ws.length → -1 ≤ getI (own1.set i c) j ∧ getI (own1.set i c) j ≤ 120 := fun j hj => by
                  rw [g2]; split
                  · omega
                  · exact hrng1 j hj
                simp(maxSteps:=9999999)(disch:=first|omega|(simp only[AN];omega))only[f11,f12,f13,f14,f15,sK,yk,hg8.get,hg7.get,e1,u5,↓KP,EN,↓reduceIte,reduceCtorEq,Nat.reduceEqDiff,Nat.reduceAdd,Nat.reduceLeDiff,Nat.reduceMul]
                refine ⟨_, ?_, i + 1, own1.set i c, _, rfl, ?_, ?_, ?_, ?_, ?_, (by show H4.next ≤ H8.next; omega), (by exact fun e he => by rw [get_set_other (by omega), hg8.get e (by omega), hg7.get e (by omega), kK e he, kk e he]), (by exact hm3), (by rw [List.length_set]; exact hol1), (by exact hrng2), (by exact hcnt2), ?_, rfl⟩ <;> (first|omega|(with_reducible assumption)|(with_reducible(repeat first|exact Grew.refl _|assumption|apply Grew.alloc|refine Grew.set ?_ _ (by first|omega|(simp only[AN];omega)));done)|(simp(maxSteps:=9999999)(disch:=first|omega|(simp only[AN];omega))only[f11,f12,f13,f14,f15,↓KP,EN,↓reduceIte,reduceCtorEq,Nat.reduceEqDiff,Nat.reduceAdd,Nat.reduceLeDiff,Nat.reduceMul]<;>first|omega|rfl))
        · have hie : i = h.ws.length := by omega
          subst hie
          have hrowok : RowOk h.ws fs n own := ⟨hol, fun j hj => ⟨hrng j hj, hcnt j hj hj⟩⟩
          have hv8o : ∀ c, c < H1.next → OffB v8 c := fun c hc i n y e => by have := (hm8.spine e).1; omega
          have k5 : ∀ c, c < H2.next → OffB v8 c → H5.get c = H2.get c := fun c hc ho => by rw [kk c (by omega), q4 c hc ho]
          have bb2 : H5.get H.next = some (.cells false [v1, vd]) := by rw [k5 _ (by omega) (hv8o _ (by omega)), b2']
          have hvd5 : IsSl 1 (ESl 1 EInt) (fun c => c < H5.next ∧ OffB vn c ∧ H1.next ≤ c) H5 vd zd := hvd.move (ESl.stays EInt.stays) fun c hc => ⟨⟨by omega, q5 c hc.1, hc.2.2⟩, k5 c hc.1 hc.2.1⟩
          have hown5 : IsInts (fun c => c < H5.next ∧ OffB vn c ∧ H1.next ≤ c) H5 v14 own := (hown.slF EInt.stays).move EInt.stays fun c hc => by
            have h3 : H3.next ≤ c := hc.2.elim False.elim id
            exact ⟨⟨hc.1, fun i n y e => by have := (q2.spine e).2; omega, by omega⟩, rfl⟩
          obtain ⟨va, S1, vb, S2, s1, s2, s3, s4, s5, s6, s7, s8, s9⟩ := back3 (fun c hc => hc.1) hvd5 hown5 (by omega)
          have e1 : IntKind.i64.wrap ((d : Int) + 1) = ((d + 1 : Nat) : Int) := i64_in _ (by omega)
          have hoc := hown.cells?
          have kF : ∀ c, c < H5.next → c ≠ H.next → (S2.set H.next (.cells false [v1, vb])).get c = H5.get c := fun c hc hne => by rw [get_set_other hne, s7 c hc]
          have hnum2 : ∀ e, e < d + 1 → 0 ≤ getI (ns ++ [n]) e ∧ getI (ns ++ [n]) e ≤ 39999 := fun e he => by
            rw [getI_append, hnl]
            by_cases e2 : e < d
            · rw [if_pos e2]; exact hnum e e2
            · rw [if_neg e2, if_pos (by omega)]; omega
          have hrow2 : ∀ e, e < d + 1 → RowOk h.ws fs (getI (ns ++ [n]) e) ((zd ++ [own]).getD e []) := fun e he => by
            rw [getI_append, hnl]
            by_cases e2 : e < d
            · rw [if_pos e2, List.getD_eq_getElem?_getD, List.getElem?_append_left (by omega), ← List.getD_eq_getElem?_getD]; exact hrow e e2
            · have e3 : e = d := by omega
              subst e3
              rw [if_neg e2, if_pos rfl, List.getD_eq_getElem?_getD, List.getElem?_append_right (by omega), hzl]
              simpa using hrowok
          simp(maxSteps:=9999999)(disch:=first|omega|(simp only[AN];omega))only[f11,f12,f13,f14,f15,bb2,hoc,s1,s2,s6,s7,s8,s9,e1,↓KP,EN,↓reduceIte,reduceCtorEq,Nat.reduceEqDiff,Nat.reduceAdd,Nat.reduceLeDiff,Nat.reduceMul]
          refine ⟨_, ?_, d + 1, vn, vb, ns ++ [n], zd ++ [own], _, rfl, ?_, ?_, (by show H1.next ≤ S2.next; omega), (by exact fun c hc hne => by rw [kF c (by omega) hne, k5 c (by omega) (hv8o c hc), hk c hc hne]), (by exact get_set_same _ _ _), (by exact q2.move EInt.stays (fun c hc hc' => by rw [kF c (by omega) (by have := hc'.elim False.elim id; omega), kk c hc]) (by show H3.next ≤ S2.next; omega)), (by exact s3.move (ESl.stays EInt.stays) (fun c hc => ⟨⟨hc.1, by rcases hc.2 with q | q; exact q.2.1; exact fun i n y e => by (have := (q2.spine e).2; omega), by rcases hc.2 with q | q; exact q.2.2; omega⟩, get_set_other (by rcases hc.2 with q | q; have := q.2.2; omega; omega)⟩)), ?_, (by simp [hnl]), (by simp [hzl]), (by exact hnum2), (by exact hrow2), rfl⟩ <;> (first|omega|(with_reducible assumption)|(with_reducible(repeat first|exact Grew.refl _|assumption|apply Grew.alloc|refine Grew.set ?_ _ (by first|omega|(simp only[AN];omega)));done)|(simp(maxSteps:=9999999)(disch:=first|omega|(simp only[AN];omega))only[f11,f12,↓KP,EN,↓reduceIte,reduceCtorEq,Nat.reduceEqDiff,Nat.reduceAdd,Nat.reduceLeDiff,Nat.reduceMul]<;>first|omega|rfl))
    · have hdD : d = h.days.length := by omega
      subst hdD
      have b4' : H2.get (H.next + 2) = some (.cells false [.nilslice, .nilslice]) := by rw [hk _ (by omega) (by omega), b4]
      have c1 := hh.1.isCell
      have c2 := hvd.isCell
      have kE : ∀ c, c < H.next → (H2.set (H.next + 2) (.cells false [v1, vd])).get c = H.get c := fun c hc => by rw [get_set_other (by omega), kH c hc]
      simp(maxSteps:=9999999)(disch:=first|omega|(simp only[AN];omega))only[b2',b4',c1,c2,↓KP,EN,↓reduceIte,reduceCtorEq,Nat.reduceEqDiff,Nat.reduceAdd,Nat.reduceLeDiff,Nat.reduceMul]
      refine k _ vd v7 v8 { h with days := zd } fs ns ⟨by show H.next ≤ H2.next; omega, kE⟩ ⟨hh.1.move EWatcher.stays fun c hc => ⟨by have : c < H.next := hc; show c < H2.next; omega, kE c hc⟩, hvd.move (ESl.stays EInt.stays) fun c hc => ⟨hc.1, get_set_other (by have := hc.2.2; omega)⟩⟩ ?_ ?_ ⟨rfl, hzl, hfl, hnl, hfac', hnum, hrow⟩
      · exact (hm.slF EInt.stays).move EInt.stays fun c hc => by
          have h3 : H.next + 3 ≤ c := hc.2.elim False.elim id
          exact ⟨by have := hc.1; show c < H2.next; omega, by rw [get_set_other (by omega), hk c hc.1 (by omega)]⟩
      · exact (hm8.slF EInt.stays).move EInt.stays fun c hc => by
          have h3 : H1.next ≤ c := hc.2.elim False.elim id
          exact ⟨hc.1, get_set_other (by omega)⟩
end Go.Proofs.Ytgncpbkedhchfaa
namespace Go.Proofs.Ytgncpbkedhchfaa
open Go.AM Go.IntWalk
set_option maxRecDepth 100000
set_option maxHeartbeats 4000000
set_option linter.unusedSimpArgs false
variable {H : AH} {R : AV → AH → Prop}
theorem True_run (v1 v2 p1 p2 p3 : AV) (h : House) (l1 l2 l3 : List Int) (hh : IsHouse (Old H) H v1 v2 h) (hs : Sized h) (hp1 : IsSl 1 (EK .u8) (Old H) H p1 l1) (hp2 : IsSl 1 (EK .u16) (Old H) H p2 l2) (hp3 : IsSl 1 (EK .u8) (Old H) H p3 l3)
    (z1 : l1.length ≤ 9223372036854775807) (z2 : l2.length ≤ 9223372036854775807) (z3 : l3.length ≤ 9223372036854775807) (r1 : ∀ x ∈ l1, 0 ≤ x ∧ x ≤ 255) (r2 : ∀ x ∈ l2, 0 ≤ x ∧ x ≤ 65535) (r3 : ∀ x ∈ l3, 0 ≤ x ∧ x ≤ 255)
    (k : ∀ H', Grew H H' → R (.bool true) H') : CallQ prog (.func 8 [] []) [.agg [v1, v2], .agg [p1, p2, p3]] H R := by
  refine CallQ_enter (fn:=c8) rfl (Nat.le_of_ble_eq_true rfl) ?_;simp(maxSteps:=9999999)(disch:=first|omega|(simp only[AN];omega))only[c8,envFrom,hh.1.isCell,hh.2.isCell,hp1.isCell,hp2.isCell,hp3.isCell,↓KP,EN,↓reduceIte,reduceCtorEq,Nat.reduceEqDiff,Nat.reduceAdd,Nat.reduceLeDiff,Nat.reduceMul]
  first|refine C_call ?_|refine C_calld ?_
  refine valid_run v1 v2 h (hh.grow GW) hs fun H1 hg1 => ?_
  have hg1n:=hg1.next;try simp only[AN]at hg1n
  cases hv : validE h with
  | false =>
    have he : errE h ≠ 0 := of_decide_eq_false hv
    have n1 : (wrongE h).2 ≠ 0 := by rw [wrongE, if_pos he]; exact he
    simp(maxSteps:=9999999)(disch:=first|omega|(simp only[AN];omega))only[hg1.get,↓KP,EN,↓reduceIte,reduceCtorEq,Nat.reduceEqDiff,Nat.reduceAdd,Nat.reduceLeDiff,Nat.reduceMul]
    first|refine C_call ?_|refine C_calld ?_
    refine Wrong_run v1 v2 h (hh.grow GW) fun H2 va hg2 hva => ?_
    have hg2n := hg2.next; try simp only [AN] at hg2n
    simp(maxSteps:=9999999)(disch:=first|omega|(simp only[AN];omega))only[hg2.get,hg1.get,n1,↓KP,EN,↓reduceIte,reduceCtorEq,Nat.reduceEqDiff,Nat.reduceAdd,Nat.reduceLeDiff,Nat.reduceMul]
    first|refine C_call ?_|refine C_calld ?_
    refine Awake_run fun H3 hg3 => ?_
    have hg3n:=hg3.next;try simp only[AN]at hg3n
    simp(maxSteps:=9999999)(disch:=first|omega|(simp only[AN];omega))only[↓KP,EN,↓reduceIte,reduceCtorEq,Nat.reduceEqDiff,Nat.reduceAdd,Nat.reduceLeDiff,Nat.reduceMul]
    exact k _ GW
  | true =>
    have he : errE h = 0 := of_decide_eq_true hv
    have hf := fine_of he
    have hw3 := hf.ws
    have hd4 := hf.days
    have hgA : Grew H H1 := GW
    simp(maxSteps:=9999999)(disch:=first|omega|(simp only[AN];omega))only[hg1.get,↓KP,EN,↓reduceIte,reduceCtorEq,Nat.reduceEqDiff,Nat.reduceAdd,Nat.reduceLeDiff,Nat.reduceMul]
    first|refine C_call ?_|refine C_calld ?_
    refine Told_run v1 v2 p1 p2 p3 h l1 l2 l3 (hh.grow hgA) hf (hp1.grow EK.stays hgA) (hp2.grow EK.stays hgA) (hp3.grow EK.stays hgA) z1 z2 z3 r1 r2 r3 fun H2 vd vf vn z fs ns hg2 hz hvf hvn ht => ?_
    have hg2n := hg2.next; try simp only [AN] at hg2n
    have hsz : Sized z := ⟨fun w hw => hs.name w (by rw [← ht.ws]; exact hw), by rw [ht.ws]; exact hs.ws, by rw [ht.days]; exact hs.days⟩
    have hwr := ht.wrong he
    have hfl := ht.flen
    have hnl := ht.nlen
    simp(maxSteps:=9999999)(disch:=first|omega|(simp only[AN];omega))only[hz.1.isCell,hz.2.isCell,↓KP,EN,↓reduceIte,reduceCtorEq,Nat.reduceEqDiff,Nat.reduceAdd,Nat.reduceLeDiff,Nat.reduceMul]
    first|refine C_call ?_|refine C_calld ?_
    refine Wrong_run v1 vd z (hz.grow GW) fun H3 va hg3 hva => ?_
    have hg3n := hg3.next; try simp only [AN] at hg3n
    rw [hwr] at hva ⊢
    have hva0 : ∀ S, opLen false va S = some (.int .i64 0, S) := fun S => hva.len S
    have hbox : H3.get H2.next = some (.cells false [v1, vd]) := by simp(maxSteps:=9999999)(disch:=first|omega|(simp only[AN];omega))only[hg3.get,↓KP,EN,↓reduceIte,reduceCtorEq,Nat.reduceEqDiff,Nat.reduceAdd,Nat.reduceLeDiff,Nat.reduceMul]
    have hgB : Grew H2 H3 := GW
    have hgC : Grew H H3 := hgA.trans (hg2.trans hgB)
    have hz3 := hz.grow hgB
    have hf3 := hvf.grow EInt.stays hgB
    have hn3 := hvn.grow EInt.stays hgB
    have nn : H2.next < H3.next := by omega
    have z00 : ¬ (0 : Int) < 0 := by decide
    simp(maxSteps:=9999999)(disch:=first|omega|(simp only[AN];omega))only[hva0,z00,↓KP,EN,↓reduceIte,reduceCtorEq,Nat.reduceEqDiff,Nat.reduceAdd,Nat.reduceLeDiff,Nat.reduceMul]
    clear hg3 hg2 hg1 hgA hz hvf hvn
    refine K_loop (fun mz ez H4 => ∃ (d : Nat) (tail : Env), ez = (0, .agg [v1, v2]) :: (1, .agg [p1, p2, p3]) :: (2, .ptr H.next 0) :: (3, .ptr (H.next + 1) 0) :: (4, .bool false) :: tail ∧ (tail.get 7 = some (.ptr H2.next 0)) ∧ (tail.get 8 = some vf) ∧ (tail.get 9 = some vn) ∧ (tail.get 12 = some (I d)) ∧ (Grew H3 H4) ∧ (d ≤ h.days.length) ∧ mz = h.days.length - d) _ ⟨0, _, rfl, ?_, ?_, ?_, ?_, ?_, ?_, rfl⟩ ?_
    iterate 6 (focus (first|(with_reducible rfl)|omega|(with_reducible(repeat first|exact Grew.refl _|assumption|apply Grew.alloc|refine Grew.set ?_ _ (by first|omega|(simp only[AN];omega)));done)|(simp(maxSteps:=9999999)(disch:=first|omega|(simp only[AN];omega))only[↓KP,EN,↓reduceIte,reduceCtorEq,Nat.reduceEqDiff,Nat.reduceAdd,Nat.reduceLeDiff,Nat.reduceMul]<;>first|omega|rfl)|(simp;done)|rfl))
    rintro mz ez H4 ⟨d, tail, rfl, f7, f8, f9, f12, hG, hd, hmz⟩; subst mz; have hGn := hG.next
    simp(maxSteps:=9999999)(disch:=first|omega|(simp only[AN];omega))only[f9,f12,hn3.len,↓KP,EN,↓reduceIte,reduceCtorEq,Nat.reduceEqDiff,Nat.reduceAdd,Nat.reduceLeDiff,Nat.reduceMul]
    refine C_decide (fun hc => ?_) (fun hc => ?_)
    · have hd' : d < h.days.length := by omega
      have e1 : IntKind.i64.wrap ((d : Int) + 1) = ((d + 1 : Nat) : Int) := i64_in _ (by omega)
      obtain ⟨a1, a2, a3⟩ := ht.number he hd'
      obtain ⟨y_b, y_i, y_ro, y_vs, y_lt, y⟩ := hn3.rdInt (k := d) rfl (by omega)
      have hyi : ns[d]'(by omega) = getI ns d := (getI_eq (by omega)).symm
      rw [hyi] at y
      simp(maxSteps:=9999999)(disch:=first|omega|(simp only[AN];omega))only[f7,f9,f12,hG.get,hbox,↓KP,EN,↓reduceIte,reduceCtorEq,Nat.reduceEqDiff,Nat.reduceAdd,Nat.reduceLeDiff,Nat.reduceMul]
      first|refine C_call ?_|refine C_calld ?_
      refine Number_run v1 vd z d (hz3.grow GW) hsz fun H5 hg5 => ?_
      have hg5n:=hg5.next;try simp only[AN]at hg5n
      rw [a1]
      simp(maxSteps:=9999999)(disch:=first|omega|(simp only[AN];omega))only[f7,f9,f12,hg5.get,hG.get,hbox,↓KP,EN,↓reduceIte,reduceCtorEq,Nat.reduceEqDiff,Nat.reduceAdd,Nat.reduceLeDiff,Nat.reduceMul]
      refine K_draw ?_
      simp(maxSteps:=9999999)(disch:=first|omega|(simp only[AN];omega))only[f7,f9,f12,hg5.get,hG.get,hbox,y,↓KP,EN,↓reduceIte,reduceCtorEq,Nat.reduceEqDiff,Nat.reduceAdd,Nat.reduceLeDiff,Nat.reduceMul]
      refine C_calld ?_
      refine Inside_run (getI ns d) (numberE z d).1.1 (numberE z d).1.2 fun H6 hg6 => ?_
      have hg6n:=hg6.next;try simp only[AN]at hg6n
      rw [decide_eq_true a2, decide_eq_true a3]
      simp(maxSteps:=9999999)(disch:=first|omega|(simp only[AN];omega))only[f7,f8,f9,f12,hg6.get,hg5.get,hG.get,hbox,y,e1,↓KP,EN,↓reduceIte,reduceCtorEq,Nat.reduceEqDiff,Nat.reduceAdd,Nat.reduceLeDiff,Nat.reduceMul]
      refine ⟨_, ?_, d + 1, _, rfl, ?_, ?_, ?_, ?_, ?_, ?_, rfl⟩ <;> (first|omega|(with_reducible assumption)|(with_reducible(repeat first|exact Grew.refl _|assumption|apply Grew.alloc|refine Grew.set ?_ _ (by first|omega|(simp only[AN];omega))|refine Grew.trans ?_ hg6|refine Grew.trans ?_ hg5|refine Grew.trans ?_ hG);done)|(simp(maxSteps:=9999999)(disch:=first|omega|(simp only[AN];omega))only[f7,f8,f9,f12,hg6.get,hg5.get,hG.get,↓KP,EN,↓reduceIte,reduceCtorEq,Nat.reduceEqDiff,Nat.reduceAdd,Nat.reduceLeDiff,Nat.reduceMul]<;>first|omega|rfl))
    · simp(maxSteps:=9999999)(disch:=first|omega|(simp only[AN];omega))only[↓KP,EN,↓reduceIte,reduceCtorEq,Nat.reduceEqDiff,Nat.reduceAdd,Nat.reduceLeDiff,Nat.reduceMul]
      refine K_loop (fun mz ez H5 => ∃ (a : Nat) (tail : Env), ez = (0, .agg [v1, v2]) :: (1, .agg [p1, p2, p3]) :: (2, .ptr H.next 0) :: (3, .ptr (H.next + 1) 0) :: (4, .bool false) :: tail ∧ (tail.get 7 = some (.ptr H2.next 0)) ∧ (tail.get 8 = some vf) ∧ (tail.get 15 = some (I a)) ∧ (Grew H3 H5) ∧ (a ≤ h.ws.length) ∧ mz = h.ws.length - a) _ ⟨0, _, rfl, (by simp(maxSteps:=9999999)(disch:=first|omega|(simp only[AN];omega))only[f7,↓KP,EN,↓reduceIte,reduceCtorEq,Nat.reduceEqDiff,Nat.reduceAdd,Nat.reduceLeDiff,Nat.reduceMul]), (by simp(maxSteps:=9999999)(disch:=first|omega|(simp only[AN];omega))only[f8,↓KP,EN,↓reduceIte,reduceCtorEq,Nat.reduceEqDiff,Nat.reduceAdd,Nat.reduceLeDiff,Nat.reduceMul]), ?_, ?_, ?_, rfl⟩ ?_
      iterate 3 (focus (first|(with_reducible rfl)|omega|(with_reducible(repeat first|exact Grew.refl _|assumption|apply Grew.alloc|refine Grew.set ?_ _ (by first|omega|(simp only[AN];omega)));done)|(simp(maxSteps:=9999999)(disch:=first|omega|(simp only[AN];omega))only[↓KP,EN,↓reduceIte,reduceCtorEq,Nat.reduceEqDiff,Nat.reduceAdd,Nat.reduceLeDiff,Nat.reduceMul]<;>first|omega|rfl)|(simp;done)|rfl))
      rintro mz ez H5 ⟨a, tail, rfl, g7, g8, g15, hG2, ha, hmz⟩; subst mz; have hG2n := hG2.next
      simp(maxSteps:=9999999)(disch:=first|omega|(simp only[AN];omega))only[g8,g15,hf3.len,↓KP,EN,↓reduceIte,reduceCtorEq,Nat.reduceEqDiff,Nat.reduceAdd,Nat.reduceLeDiff,Nat.reduceMul]
      refine C_decide (fun hc1 => ?_) (fun hc1 => ?_)
      · have ha' : a < h.ws.length := by omega
        have e1 : IntKind.i64.wrap ((a : Int) + 1) = ((a + 1 : Nat) : Int) := i64_in _ (by omega)
        obtain ⟨a1, a2, a3⟩ := ht.factor he ha'
        obtain ⟨y_b, y_i, y_ro, y_vs, y_lt, y⟩ := hf3.rdInt (k := a) rfl (by omega)
        have hyi : fs[a]'(by omega) = getI fs a := (getI_eq (by omega)).symm
        rw [hyi] at y
        have hfa := ht.fac a ha'
        have hwa := hf.w ha'
        simp(maxSteps:=9999999)(disch:=first|omega|(simp only[AN];omega))only[g7,g8,g15,hG2.get,hbox,↓KP,EN,↓reduceIte,reduceCtorEq,Nat.reduceEqDiff,Nat.reduceAdd,Nat.reduceLeDiff,Nat.reduceMul]
        first|refine C_call ?_|refine C_calld ?_
        refine Factor_run v1 vd z a (hz3.grow GW) hsz fun H6 hg6 => ?_
        have hg6n:=hg6.next;try simp only[AN]at hg6n
        rw [a1]
        simp(maxSteps:=9999999)(disch:=first|omega|(simp only[AN];omega))only[g7,g8,g15,hg6.get,hG2.get,hbox,↓KP,EN,↓reduceIte,reduceCtorEq,Nat.reduceEqDiff,Nat.reduceAdd,Nat.reduceLeDiff,Nat.reduceMul]
        refine K_draw ?_
        simp(maxSteps:=9999999)(disch:=first|omega|(simp only[AN];omega))only[g7,g8,g15,hg6.get,hG2.get,hbox,y,↓KP,EN,↓reduceIte,reduceCtorEq,Nat.reduceEqDiff,Nat.reduceAdd,Nat.reduceLeDiff,Nat.reduceMul]
        refine C_calld ?_
        refine Inside_run (getI fs a) (factorE z a).1.1 (factorE z a).1.2 fun H7 hg7 => ?_
        have hg7n:=hg7.next;try simp only[AN]at hg7n
        rw [decide_eq_true a2, decide_eq_true a3]
        simp(maxSteps:=9999999)(disch:=first|omega|(simp only[AN];omega))only[g7,g8,g15,hg7.get,hg6.get,hG2.get,hbox,y,↓KP,EN,↓reduceIte,reduceCtorEq,Nat.reduceEqDiff,Nat.reduceAdd,Nat.reduceLeDiff,Nat.reduceMul]
        have hG7 : Grew H3 H7 := GW
        refine K_loop (fun mz ez H8 => ∃ (b : Nat) (tail : Env), ez = (0, .agg [v1, v2]) :: (1, .agg [p1, p2, p3]) :: (2, .ptr H.next 0) :: (3, .ptr (H.next + 1) 0) :: (4, .bool false) :: tail ∧ (tail.get 7 = some (.ptr H2.next 0)) ∧ (tail.get 8 = some vf) ∧ (tail.get 15 = some (I a)) ∧ (tail.get 18 = some (I b)) ∧ (Grew H3 H8) ∧ (b ≤ h.ws.length) ∧ mz = h.ws.length - b) _ ⟨0, _, rfl, (by simp(maxSteps:=9999999)(disch:=first|omega|(simp only[AN];omega))only[g7,↓KP,EN,↓reduceIte,reduceCtorEq,Nat.reduceEqDiff,Nat.reduceAdd,Nat.reduceLeDiff,Nat.reduceMul]), (by simp(maxSteps:=9999999)(disch:=first|omega|(simp only[AN];omega))only[g8,↓KP,EN,↓reduceIte,reduceCtorEq,Nat.reduceEqDiff,Nat.reduceAdd,Nat.reduceLeDiff,Nat.reduceMul]), (by simp(maxSteps:=9999999)(disch:=first|omega|(simp only[AN];omega))only[g15,↓KP,EN,↓reduceIte,reduceCtorEq,Nat.reduceEqDiff,Nat.reduceAdd,Nat.reduceLeDiff,Nat.reduceMul]), ?_, ?_, ?_, rfl⟩ ?_
        iterate 3 (focus (first|(with_reducible rfl)|omega|(with_reducible(repeat first|exact Grew.refl _|assumption|apply Grew.alloc|refine Grew.set ?_ _ (by first|omega|(simp only[AN];omega)));done)|(simp(maxSteps:=9999999)(disch:=first|omega|(simp only[AN];omega))only[↓KP,EN,↓reduceIte,reduceCtorEq,Nat.reduceEqDiff,Nat.reduceAdd,Nat.reduceLeDiff,Nat.reduceMul]<;>first|omega|rfl)|(simp;done)|rfl))
        rintro mz ez H8 ⟨b, tail, rfl, i7, i8, i15, i18, hG3, hb, hmz⟩; subst mz; have hG3n := hG3.next
        simp(maxSteps:=9999999)(disch:=first|omega|(simp only[AN];omega))only[i8,i18,hf3.len,↓KP,EN,↓reduceIte,reduceCtorEq,Nat.reduceEqDiff,Nat.reduceAdd,Nat.reduceLeDiff,Nat.reduceMul]
        refine C_decide (fun hc2 => ?_) (fun hc2 => ?_)
        · have hb' : b < h.ws.length := by omega
          have e2 : IntKind.i64.wrap ((b : Int) + 1) = ((b + 1 : Nat) : Int) := i64_in _ (by omega)
          obtain ⟨P, hP⟩ := quots (ht.some he) (a := a) (b := b) (by rw [ht.ws]; exact ha') (by rw [ht.ws]; exact hb')
          have hbt := ht.between he hP
          obtain ⟨x_b, x_i, x_ro, x_vs, x_lt, x⟩ := hf3.rdInt (k := b) rfl (by omega)
          have hxi : fs[b]'(by omega) = getI fs b := (getI_eq (by omega)).symm
          rw [hxi] at x
          have hfb := ht.fac b hb'
          have hwb := hf.w hb'
          simp(maxSteps:=9999999)(disch:=first|omega|(simp only[AN];omega))only[i7,i8,i15,i18,hG3.get,hbox,↓KP,EN,↓reduceIte,reduceCtorEq,Nat.reduceEqDiff,Nat.reduceAdd,Nat.reduceLeDiff,Nat.reduceMul]
          first|refine C_call ?_|refine C_calld ?_
          refine pBetween_run v1 vd z a b (hz3.grow GW) hsz fun H9 hg9 => ?_
          have hg9n:=hg9.next;try simp only[AN]at hg9n
          rw [hP.ok]
          simp(maxSteps:=9999999)(disch:=first|omega|(simp only[AN];omega))only[i7,i8,i15,i18,hg9.get,hG3.get,hbox,↓KP,EN,↓reduceIte,reduceCtorEq,Nat.reduceEqDiff,Nat.reduceAdd,Nat.reduceLeDiff,Nat.reduceMul]
          refine K_draw ?_
          simp(maxSteps:=9999999)(disch:=first|omega|(simp only[AN];omega))only[i7,i8,i15,i18,hg9.get,hG3.get,hbox,y,x,↓KP,EN,↓reduceIte,reduceCtorEq,Nat.reduceEqDiff,Nat.reduceAdd,Nat.reduceLeDiff,Nat.reduceMul]
          refine C_calld ?_
          refine proper_run P.1 fun H10 hg10 => ?_
          have hg10n:=hg10.next;try simp only[AN]at hg10n
          rw [hP.i1.proper]
          simp(maxSteps:=9999999)(disch:=first|omega|(simp only[AN];omega))only[i7,i8,i15,i18,hg10.get,hg9.get,hG3.get,hbox,y,x,↓KP,EN,↓reduceIte,reduceCtorEq,Nat.reduceEqDiff,Nat.reduceAdd,Nat.reduceLeDiff,Nat.reduceMul]
          refine C_calld ?_
          refine proper_run P.2 fun H11 hg11 => ?_
          have hg11n:=hg11.next;try simp only[AN]at hg11n
          rw [hP.i2.proper]
          simp(maxSteps:=9999999)(disch:=first|omega|(simp only[AN];omega))only[i7,i8,i15,i18,hg11.get,hg10.get,hg9.get,hG3.get,hbox,y,x,↓KP,EN,↓reduceIte,reduceCtorEq,Nat.reduceEqDiff,Nat.reduceAdd,Nat.reduceLeDiff,Nat.reduceMul]
          refine C_calld ?_
          refine LowI_run (getI fs a) (getI fs b) (by omega) (by omega) fun H12 hg12 => ?_
          have hg12n:=hg12.next;try simp only[AN]at hg12n
          simp(maxSteps:=9999999)(disch:=first|omega|(simp only[AN];omega))only[i7,i8,i15,i18,hg12.get,hg11.get,hg10.get,hg9.get,hG3.get,hbox,y,x,↓KP,EN,↓reduceIte,reduceCtorEq,Nat.reduceEqDiff,Nat.reduceAdd,Nat.reduceLeDiff,Nat.reduceMul]
          refine C_calld ?_
          refine betw_run (lowE (getI fs a) (getI fs b)) P.1 P.2 (lowE_in (by omega) (by omega)) (hP.i1.le (by omega)) (hP.i2.le (by omega)) fun H13 hg13 => ?_
          have hg13n:=hg13.next;try simp only[AN]at hg13n
          rw [hbt]
          simp(maxSteps:=9999999)(disch:=first|omega|(simp only[AN];omega))only[i7,i8,i15,i18,hg13.get,hg12.get,hg11.get,hg10.get,hg9.get,hG3.get,hbox,y,x,e2,↓KP,EN,↓reduceIte,reduceCtorEq,Nat.reduceEqDiff,Nat.reduceAdd,Nat.reduceLeDiff,Nat.reduceMul]
          refine ⟨_, ?_, b + 1, _, rfl, ?_, ?_, ?_, ?_, ?_, ?_, rfl⟩ <;> (first|omega|(with_reducible assumption)|(with_reducible(repeat first|exact Grew.refl _|assumption|apply Grew.alloc|refine Grew.set ?_ _ (by first|omega|(simp only[AN];omega))|refine Grew.trans ?_ hg13|refine Grew.trans ?_ hg12|refine Grew.trans ?_ hg11|refine Grew.trans ?_ hg10|refine Grew.trans ?_ hg9|refine Grew.trans ?_ hG3);done)|(simp(maxSteps:=9999999)(disch:=first|omega|(simp only[AN];omega))only[i7,i8,i15,i18,hg13.get,hg12.get,hg11.get,hg10.get,hg9.get,hG3.get,↓KP,EN,↓reduceIte,reduceCtorEq,Nat.reduceEqDiff,Nat.reduceAdd,Nat.reduceLeDiff,Nat.reduceMul]<;>first|omega|rfl))
        · simp(maxSteps:=9999999)(disch:=first|omega|(simp only[AN];omega))only[i7,i8,i15,i18,e1,↓KP,EN,↓reduceIte,reduceCtorEq,Nat.reduceEqDiff,Nat.reduceAdd,Nat.reduceLeDiff,Nat.reduceMul]
          refine ⟨_, ?_, a + 1, _, rfl, ?_, ?_, ?_, ?_, ?_, rfl⟩ <;> (first|omega|(with_reducible assumption)|(with_reducible(repeat first|exact Grew.refl _|assumption|apply Grew.alloc|refine Grew.set ?_ _ (by first|omega|(simp only[AN];omega))|refine Grew.trans ?_ hG3);done)|(simp(maxSteps:=9999999)(disch:=first|omega|(simp only[AN];omega))only[i7,i8,i15,hG3.get,↓KP,EN,↓reduceIte,reduceCtorEq,Nat.reduceEqDiff,Nat.reduceAdd,Nat.reduceLeDiff,Nat.reduceMul]<;>first|omega|rfl))
      · simp(maxSteps:=9999999)(disch:=first|omega|(simp only[AN];omega))only[↓KP,EN,↓reduceIte,reduceCtorEq,Nat.reduceEqDiff,Nat.reduceAdd,Nat.reduceLeDiff,Nat.reduceMul]
        first|refine C_call ?_|refine C_calld ?_
        refine Awake_run fun H6 hg6 => ?_
        have hg6n:=hg6.next;try simp only[AN]at hg6n
        simp(maxSteps:=9999999)(disch:=first|omega|(simp only[AN];omega))only[↓KP,EN,↓reduceIte,reduceCtorEq,Nat.reduceEqDiff,Nat.reduceAdd,Nat.reduceLeDiff,Nat.reduceMul]
        exact k _ (hgC.trans (hG2.trans hg6))
end Go.Proofs.Ytgncpbkedhchfaa
