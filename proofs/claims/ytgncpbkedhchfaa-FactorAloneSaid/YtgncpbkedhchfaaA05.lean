/- The row FactorAlone: a day on which one observer counted, or none, says nothing of factors, for every house, observer and count. -/
import Derived.OrdersIn
import Derived.Test.YtgncpbkedhchfaaA02
import Derived.Test.YtgncpbkedhchfaaA04
set_option linter.unusedVariables false
set_option linter.unusedSimpArgs false
namespace Go.Proofs.Ytgncpbkedhchfaa
open Go.AM Go.IntWalk
set_option maxRecDepth 100000
set_option maxHeartbeats 4000000
set_option linter.unusedSimpArgs false
variable {H : AH} {R : AV → AH → Prop}
theorem plow_run (a b : Int) (ha : 1 ≤ a ∧ a ≤ 1000000000) (hb : 1 ≤ b ∧ b ≤ 1000000000) (h : ∀ H', Grew H H' → R (.agg [I (lowE a b).1, I (lowE a b).2]) H') : CallQ prog (.func 77 [] []) [I a, I b] H R := by
  obtain ⟨x, rfl⟩ : ∃ x : Nat, a = x := ⟨a.toNat, by omega⟩
  obtain ⟨y, rfl⟩ : ∃ y : Nat, b = y := ⟨b.toNat, by omega⟩
  have hg : 0 < Nat.gcd x y := Nat.gcd_pos_of_pos_left _ (by omega)
  refine CallQ_enter (fn:=c77) rfl (Nat.le_of_ble_eq_true rfl) ?_;simp(maxSteps:=9999999)(disch:=first|omega|(simp only[AN];omega))only[c77,envFrom,↓KP,EK,↓reduceIte,reduceCtorEq,Nat.reduceEqDiff,Nat.reduceAdd,Nat.reduceLeDiff,Nat.reduceMul]
  refine K_loop (fun mz ez H1 => ∃ (u : Nat) (v : Nat) (tail : Env), ez = (0, I x) :: (1, I y) :: (4, .ptr H.next 0) :: (5, I u) :: (6, I v) :: tail ∧ (Grew H H1) ∧ (H1.get H.next = some (.cells false [I 0, I 0])) ∧ (H.next < H1.next) ∧ (Nat.gcd u v = Nat.gcd x y) ∧ mz = v) _ ⟨x, y, _, rfl, ?_, ?_, ?_, ?_, rfl⟩ ?_
  iterate 4 (focus (first|(with_reducible rfl)|omega|(with_reducible(repeat first|exact Grew.refl _|assumption|apply Grew.alloc|refine Grew.set ?_ _ (by first|omega|(simp only[AN];omega)));done)|(simp(maxSteps:=9999999)(disch:=first|omega|(simp only[AN];omega))only[↓KP,EK,↓reduceIte,reduceCtorEq,Nat.reduceEqDiff,Nat.reduceAdd,Nat.reduceLeDiff,Nat.reduceMul]<;>first|omega|rfl)|(simp;done)|rfl))
  rintro mz ez H1 ⟨u, v, tail, rfl, hG, h4, hlt, huv, hmz⟩; subst mz; have hGn := hG.next
  by_cases hv0 : (v : Int) = 0
  · have hv : v = 0 := by omega
    subst hv
    rw [Nat.gcd_zero_right] at huv
    subst huv
    have e3 : ¬ ((Nat.gcd x y : Nat) : Int) = 0 := by omega
    have q : ∀ z : Nat, z ≤ 1000000000 → IntKind.i64.wrap ((z : Int).tdiv (Nat.gcd x y : Nat)) = ((z / Nat.gcd x y : Nat) : Int) := fun z hz => by
      have h1 : (z : Int).tdiv (Nat.gcd x y : Nat) = ((z / Nat.gcd x y : Nat) : Int) := rfl
      have h2 := Nat.div_le_self z (Nat.gcd x y)
      rw [h1]
      generalize z / Nat.gcd x y = w at h2
      exact i64_in _ (by omega)
    have q1 := q x (by omega)
    have q2 := q y (by omega)
    simp(maxSteps:=9999999)(disch:=first|omega|(simp only[AN];omega))only[hv0,↓KP,EK,↓reduceIte,reduceCtorEq,Nat.reduceEqDiff,Nat.reduceAdd,Nat.reduceLeDiff,Nat.reduceMul]
    refine K_draw ?_;simp(maxSteps:=9999999)(disch:=first|omega|(simp only[AN];omega))only[e3,q1,q2,h4,↓KP,EK,↓reduceIte,reduceCtorEq,Nat.reduceEqDiff,Nat.reduceAdd,Nat.reduceLeDiff,Nat.reduceMul]
    refine h _ ?_
    exact GW
  · have e1 : (u : Int).tmod (v : Int) = ((u % v : Nat) : Int) := rfl
    simp(maxSteps:=9999999)(disch:=first|omega|(simp only[AN];omega))only[hv0,↓KP,EK,↓reduceIte,reduceCtorEq,Nat.reduceEqDiff,Nat.reduceAdd,Nat.reduceLeDiff,Nat.reduceMul]
    refine K_draw ?_;simp(maxSteps:=9999999)(disch:=first|omega|(simp only[AN];omega))only[hv0,e1,↓KP,EK,↓reduceIte,reduceCtorEq,Nat.reduceEqDiff,Nat.reduceAdd,Nat.reduceLeDiff,Nat.reduceMul]
    exact ⟨_, Nat.mod_lt _ (by omega), v, u % v, _, rfl, hG, h4, hlt, by rw [← huv, Nat.gcd_comm u v, Nat.gcd_rec v u, Nat.gcd_comm], rfl⟩
theorem less_run (p q : Int × Int) (hp : InR 90000 p) (hq : InR 90000 q) (h : ∀ H', Grew H H' → R (.bool (decide (ltE p q))) H') : CallQ prog (.func 78 [] []) [.agg [I p.1, I p.2], .agg [I q.1, I q.2]] H R := by
  unfold InR at hp hq
  have h1 := mul_in (a := p.1) (b := q.2) (m := 90000) (n := 90000) (by omega) (by omega)
  have h2 := mul_in (a := q.1) (b := p.2) (m := 90000) (n := 90000) (by omega) (by omega)
  have e1 : IntKind.i64.wrap (p.1 * q.2) = p.1 * q.2 := i64_in _ (by omega)
  have e2 : IntKind.i64.wrap (q.1 * p.2) = q.1 * p.2 := i64_in _ (by omega)
  refine CallQ_enter (fn:=c78) rfl (Nat.le_of_ble_eq_true rfl) ?_;simp(maxSteps:=9999999)(disch:=first|omega|(simp only[AN];omega))only[c78,envFrom,e1,e2,↓KP,EK,↓reduceIte,reduceCtorEq,Nat.reduceEqDiff,Nat.reduceAdd,Nat.reduceLeDiff,Nat.reduceMul]
  refine h _ ?_
  exact GW
theorem quotE_snoc {l : List (Int × Int)} {q : Int × Int} (h : l ≠ []) : quotE (l ++ [q]) = quotStep (quotE l) q := by
  cases l with
  | nil => exact absurd rfl h
  | cons a l => simp [quotE, List.foldl_append]
theorem between_run {N p m : Nat} {v1 v2 : AV} {h : House} {but : Nat} (a b : Nat) (hfine : Fine h) (hbut : but < 4096) (hr : Held N p m v1 v2 h but H) (ha : a < h.ws.length) (hb : b < h.ws.length)
    (k : ∀ H', GrewBut m H H' → Held N p m v1 v2 h but H' → R (.tuple [.agg [I (quotE (quotsOf (truthsE (lookE h but)) a b)).1.1, I (quotE (quotsOf (truthsE (lookE h but)) a b)).1.2], .agg [I (quotE (quotsOf (truthsE (lookE h but)) a b)).2.1, I (quotE (quotsOf (truthsE (lookE h but)) a b)).2.2]]) H') : CallQ prog (.func 75 [] []) [.ptr p 0, I a, I b] H R := by
  refine CallQ_enter (fn:=c75) rfl (Nat.le_of_ble_eq_true rfl) ?_;simp(maxSteps:=9999999)(disch:=first|omega|(simp only[AN];omega))only[c75,envFrom,↓KP,EK,↓reduceIte,reduceCtorEq,Nat.reduceEqDiff,Nat.reduceAdd,Nat.reduceLeDiff,Nat.reduceMul]
  first|refine C_call ?_|refine C_calld ?_
  refine truths_run p ?_
  simp(maxSteps:=9999999)(disch:=first|omega|(simp only[AN];omega))only[↓KP,EK,↓reduceIte,reduceCtorEq,Nat.reduceEqDiff,Nat.reduceAdd,Nat.reduceLeDiff,Nat.reduceMul]
  have hr1 := (hr.up (((((Grew.refl H).alloc (.cells false [I a])).alloc (.cells false [I b])).alloc (.cells false [I 0, I 0])).alloc (.cells false [I 0, I 0]))).ready
  have hNle := hr.look.nle
  have hw3 := hfine.ws
  have base : ∀ x, x < H.next → ((((((H.alloc (.cells false [I a])).alloc (.cells false [I b])).alloc (.cells false [I 0, I 0])).alloc (.cells false [I 0, I 0]))).alloc (.cells false [.ptr p 0])).get x = H.get x := fun x h1 => by simp(maxSteps:=9999999)(disch:=first|omega|(simp only[AN];omega))only[↓KP,EK,↓reduceIte,reduceCtorEq,Nat.reduceEqDiff,Nat.reduceAdd,Nat.reduceLeDiff,Nat.reduceMul]
  have b0 : ((((((H.alloc (.cells false [I a])).alloc (.cells false [I b])).alloc (.cells false [I 0, I 0])).alloc (.cells false [I 0, I 0]))).alloc (.cells false [.ptr p 0])).get H.next = some (.cells false [I a]) := by simp(maxSteps:=9999999)(disch:=first|omega|(simp only[AN];omega))only[↓KP,EK,↓reduceIte,reduceCtorEq,Nat.reduceEqDiff,Nat.reduceAdd,Nat.reduceLeDiff,Nat.reduceMul]
  have b1 : ((((((H.alloc (.cells false [I a])).alloc (.cells false [I b])).alloc (.cells false [I 0, I 0])).alloc (.cells false [I 0, I 0]))).alloc (.cells false [.ptr p 0])).get (H.next + 1) = some (.cells false [I b]) := by simp(maxSteps:=9999999)(disch:=first|omega|(simp only[AN];omega))only[↓KP,EK,↓reduceIte,reduceCtorEq,Nat.reduceEqDiff,Nat.reduceAdd,Nat.reduceLeDiff,Nat.reduceMul]
  have b2 : ((((((H.alloc (.cells false [I a])).alloc (.cells false [I b])).alloc (.cells false [I 0, I 0])).alloc (.cells false [I 0, I 0]))).alloc (.cells false [.ptr p 0])).get (H.next + 2) = some (.cells false [I 0, I 0]) := by simp(maxSteps:=9999999)(disch:=first|omega|(simp only[AN];omega))only[↓KP,EK,↓reduceIte,reduceCtorEq,Nat.reduceEqDiff,Nat.reduceAdd,Nat.reduceLeDiff,Nat.reduceMul]
  have b3 : ((((((H.alloc (.cells false [I a])).alloc (.cells false [I b])).alloc (.cells false [I 0, I 0])).alloc (.cells false [I 0, I 0]))).alloc (.cells false [.ptr p 0])).get (H.next + 3) = some (.cells false [I 0, I 0]) := by simp(maxSteps:=9999999)(disch:=first|omega|(simp only[AN];omega))only[↓KP,EK,↓reduceIte,reduceCtorEq,Nat.reduceEqDiff,Nat.reduceAdd,Nat.reduceLeDiff,Nat.reduceMul]
  have hBn : ((((((H.alloc (.cells false [I a])).alloc (.cells false [I b])).alloc (.cells false [I 0, I 0])).alloc (.cells false [I 0, I 0]))).alloc (.cells false [.ptr p 0])).next = H.next + 5 := rfl
  have hbh : (((((H.alloc (.cells false [I a])).alloc (.cells false [I b])).alloc (.cells false [I 0, I 0])).alloc (.cells false [I 0, I 0]))).next = H.next + 4 := rfl
  rw [hbh] at hr1
  have hfac : Factors h.ws.length (truthsE (lookE h but)) := truthsE_factors (hfine.mask _)
  generalize (((((H.alloc (.cells false [I a])).alloc (.cells false [I b])).alloc (.cells false [I 0, I 0])).alloc (.cells false [I 0, I 0]))).alloc (.cells false [.ptr p 0]) = B at hr1 base b0 b1 b2 b3 hBn
  refine K_iter (L := yields h but) (K := Kh N (H.next + 4)) (Inv := Ready N p m (H.next + 4) v1 v2 h but B) rfl (truths_iter hfine hbut) hr1 (fun a ha => ?_)
    (fun done H2 => (∃ ds rs, truthsE (lookE h but) = ds ++ rs ∧ done = ds.map (argT (lookE h but)) ∧ H2.get (H.next + 2) = some (.cells false [I (quotE (quotsOf ds a b)).1.1, I (quotE (quotsOf ds a b)).1.2]) ∧ H2.get (H.next + 3) = some (.cells false [I (quotE (quotsOf ds a b)).2.1, I (quotE (quotsOf ds a b)).2.2])) ∧
      H2.get H.next = some (.cells false [I a]) ∧ H2.get (H.next + 1) = some (.cells false [I b]) ∧ ∀ x, N ≤ x → x < H.next → H2.get x = H.get x)
    (fun _ _ => False) ?_ ?_ ?_ ?_ ?_ ?_
  · obtain ⟨fs, _, rfl⟩ := List.mem_map.1 ha; rfl
  · rintro done H1 H2 hn hs ⟨⟨ds, rs, h1, h2, h3, h4⟩, h5, h6, h7⟩
    refine ⟨⟨ds, rs, h1, h2, by rw [hs _ (by simp only [Kh]; omega) (by omega)]; exact h3, by rw [hs _ (by simp only [Kh]; omega) (by omega)]; exact h4⟩, by rw [hs _ (by simp only [Kh]; omega) (by omega)]; exact h5, by rw [hs _ (by simp only [Kh]; omega) (by omega)]; exact h6, fun x h8 h9 => by rw [hs _ (by simp only [Kh]; omega) (by omega)]; exact h7 x h8 h9⟩
  · intro x H1 H2 hn hs h; exact h
  · exact ⟨⟨[], _, rfl, rfl, b2, b3⟩, b0, b1, fun x _ hx => base x hx⟩
  · rintro done q rest H1 hL hlt hi1 ⟨⟨ds, rs, h1, rfl, h3, h4⟩, h5, h6, h7⟩ hlo
    rw [yields, h1, List.map_append, List.append_cancel_left_eq] at hL
    cases rs with
    | nil => cases hL
    | cons fs rs =>
      simp only [List.map_cons, List.cons.injEq] at hL
      obtain ⟨rfl, rfl⟩ := hL
      have hfs := hfac fs (by rw [h1]; simp)
      have hds : Factors h.ws.length ds := fun x hx => hfac x (by rw [h1]; simp [hx])
      have hga := three_get (getI fs 0) (getI fs 1) (getI fs 2) (n := a) (by omega)
      have hga' : [getI fs 0, getI fs 1, getI fs 2][a]'(by simp; omega) = getI fs a := by
        rcases (show a = 0 ∨ a = 1 ∨ a = 2 by omega) with rfl | rfl | rfl <;> rfl
      have hgb := three_get (getI fs 0) (getI fs 1) (getI fs 2) (n := b) (by omega)
      have hgb' : [getI fs 0, getI fs 1, getI fs 2][b]'(by simp; omega) = getI fs b := by
        rcases (show b = 0 ∨ b = 1 ∨ b = 2 by omega) with rfl | rfl | rfl <;> rfl
      rw [hga'] at hga
      rw [hgb'] at hgb
      have hix : ∀ (n : Nat) (hn : n < 3) S x, opIdxArr 3 1 (.ptr x 0) (I n) S = some (.ptr x n, S) := fun n hn S x => by
        simp [opIdxArr, natOf, hn]
      have hixa := hix a (by omega)
      have hixb := hix b (by omega)
      have fa := hfs.2 _ (List.getElem_mem (l := fs) (n := a) (by omega))
      have fb := hfs.2 _ (List.getElem_mem (l := fs) (n := b) (by omega))
      rw [← getI_eq] at fa fb
      have hz := lowE_in (m := 300) fa fb
      have hsn : quotsOf (ds ++ [fs]) a b = quotsOf ds a b ++ [lowE (getI fs a) (getI fs b)] := by simp [quotsOf]
      simp(maxSteps:=9999999)(disch:=first|omega|(simp only[AN];omega))only[K8,hlo,argT,pad3,List.map_cons,List.map_nil,↓KP,EK,↓reduceIte,reduceCtorEq,Nat.reduceEqDiff,Nat.reduceAdd,Nat.reduceLeDiff,Nat.reduceMul]
      refine K_draw ?_;simp(maxSteps:=9999999)(disch:=first|omega|(simp only[AN];omega))only[h5,h6,hixa,hixb,hga,hgb,↓KP,EK,↓reduceIte,reduceCtorEq,Nat.reduceEqDiff,Nat.reduceAdd,Nat.reduceLeDiff,Nat.reduceMul]
      first|refine C_call ?_|refine C_calld ?_
      refine plow_run _ _ ⟨fa.1, by omega⟩ ⟨fb.1, by omega⟩ fun H3 hg3 => ?_
      have hg3n:=hg3.next;try simp only[AN]at hg3n
      have hdone : ds.map (argT (lookE h but)) ++ [argT (lookE h but) fs] = (ds ++ [fs]).map (argT (lookE h but)) := by rw [List.map_append]; rfl
      have hlo3 : ∀ (S : AH), (∀ x, x < H1.next → x ≠ B.next → x ≠ H.next + 2 → x ≠ H.next + 3 → S.get x = H1.get x) → H1.next ≤ S.next → Kept (Kh N (H.next + 4)) B.next H1 S ∧ S.get H.next = some (.cells false [I a]) ∧ S.get (H.next + 1) = some (.cells false [I b]) ∧ ∀ x, N ≤ x → x < H.next → S.get x = H.get x := fun S hS hn => by
        refine ⟨⟨hn, fun x hx hc => hS x hx ?_ ?_ ?_⟩, by rw [hS _ (by omega) (by omega) (by omega) (by omega)]; exact h5, by rw [hS _ (by omega) (by omega) (by omega) (by omega)]; exact h6, fun x h8 h9 => by rw [hS _ (by omega) (by omega) (by omega) (by omega)]; exact h7 x h8 h9⟩ <;> (simp only [Kh] at hc; omega)
      have fin2 : ∀ (S : AH) (q : (Int × Int) × (Int × Int)) (D : List (List AV)), D = (ds ++ [fs]).map (argT (lookE h but)) → quotE (quotsOf (ds ++ [fs]) a b) = q → (∀ x, x < H1.next → x ≠ B.next → x ≠ H.next + 2 → x ≠ H.next + 3 → S.get x = H1.get x) → H1.next ≤ S.next → S.get (H.next + 2) = some (.cells false [I q.1.1, I q.1.2]) → S.get (H.next + 3) = some (.cells false [I q.2.1, I q.2.2]) →
          Kept (Kh N (H.next + 4)) B.next H1 S ∧ (∃ ds' rs', truthsE (lookE h but) = ds' ++ rs' ∧ D = ds'.map (argT (lookE h but)) ∧ S.get (H.next + 2) = some (.cells false [I (quotE (quotsOf ds' a b)).1.1, I (quotE (quotsOf ds' a b)).1.2]) ∧ S.get (H.next + 3) = some (.cells false [I (quotE (quotsOf ds' a b)).2.1, I (quotE (quotsOf ds' a b)).2.2])) ∧
          S.get H.next = some (.cells false [I a]) ∧ S.get (H.next + 1) = some (.cells false [I b]) ∧ ∀ x, N ≤ x → x < H.next → S.get x = H.get x := fun S q D hD hq hS hn g2 g3 => by
        have := hlo3 S hS hn
        refine ⟨this.1, ⟨ds ++ [fs], rs, by rw [h1]; simp, hD, ?_, ?_⟩, this.2⟩
        · rw [hq]; exact g2
        · rw [hq]; exact g3
      by_cases hd0 : ds = []
      · subst hd0
        have q0 : quotE (quotsOf [] a b) = ((0, 0), (0, 0)) := rfl
        rw [q0] at h3 h4
        simp(maxSteps:=9999999)(disch:=first|omega|(simp only[AN];omega))only[hg3.get,h3,h4,h5,h6,hixa,hixb,hga,hgb,K8,↓KP,EK,↓reduceIte,reduceCtorEq,Nat.reduceEqDiff,Nat.reduceAdd,Nat.reduceLeDiff,Nat.reduceMul]
        refine K_bod ⟨?_, fin2 _ (lowE (getI fs a) (getI fs b), lowE (getI fs a) (getI fs b)) _ rfl (by rw [hsn]; rfl) ?_ ?_ ?_ ?_⟩
        · simp(maxSteps:=9999999)(disch:=first|omega|(simp only[AN];omega))only[hg3.get,↓KP,EK,↓reduceIte,reduceCtorEq,Nat.reduceEqDiff,Nat.reduceAdd,Nat.reduceLeDiff,Nat.reduceMul]
        · intro x x1 x2 x3 x4; simp(maxSteps:=9999999)(disch:=first|omega|(simp only[AN];omega))only[hg3.get,↓KP,EK,↓reduceIte,reduceCtorEq,Nat.reduceEqDiff,Nat.reduceAdd,Nat.reduceLeDiff,Nat.reduceMul]
        · simp(maxSteps:=9999999)(disch:=first|omega|(simp only[AN];omega))only[↓KP,EK,↓reduceIte,reduceCtorEq,Nat.reduceEqDiff,Nat.reduceAdd,Nat.reduceLeDiff,Nat.reduceMul]; omega
        · simp(maxSteps:=9999999)(disch:=first|omega|(simp only[AN];omega))only[↓KP,EK,↓reduceIte,reduceCtorEq,Nat.reduceEqDiff,Nat.reduceAdd,Nat.reduceLeDiff,Nat.reduceMul]
        · simp(maxSteps:=9999999)(disch:=first|omega|(simp only[AN];omega))only[↓KP,EK,↓reduceIte,reduceCtorEq,Nat.reduceEqDiff,Nat.reduceAdd,Nat.reduceLeDiff,Nat.reduceMul]
      · have hin := quotE_in (quotsOf_in hds ha hb) (by simpa [quotsOf] using hd0)
        have hq := quotE_snoc (l := quotsOf ds a b) (q := lowE (getI fs a) (getI fs b)) (by simpa [quotsOf] using hd0)
        rw [← hsn] at hq
        generalize lowE (getI fs a) (getI fs b) = z at hz hsn hq
        generalize hX : quotE (quotsOf ds a b) = X at h3 h4 hin hq
        obtain ⟨x, y⟩ := X
        simp only at hin h3 h4
        have n1 : ¬ x.2 = 0 := by have := hin.1; unfold InR at this; omega
        have n2 : ¬ y.2 = 0 := by have := hin.2; unfold InR at this; omega
        simp(maxSteps:=9999999)(disch:=first|omega|(simp only[AN];omega))only[hg3.get,h3,h4,h5,h6,hixa,hixb,hga,hgb,n1,↓KP,EK,↓reduceIte,reduceCtorEq,Nat.reduceEqDiff,Nat.reduceAdd,Nat.reduceLeDiff,Nat.reduceMul]
        first|refine C_call ?_|refine C_calld ?_
        refine less_run z x (hz.le (by omega)) (hin.1.le (by omega)) fun H4 hg4 => ?_
        have hg4n:=hg4.next;try simp only[AN]at hg4n
        simp(maxSteps:=9999999)(disch:=first|omega|(simp only[AN];omega))only[↓KP,EK,↓reduceIte,reduceCtorEq,Nat.reduceEqDiff,Nat.reduceAdd,Nat.reduceLeDiff,Nat.reduceMul]
        refine C_decide (fun hl1 => ?_) (fun hl1 => ?_)
        · simp(maxSteps:=9999999)(disch:=first|omega|(simp only[AN];omega))only[hg4.get,hg3.get,h3,h4,n2,↓KP,EK,↓reduceIte,reduceCtorEq,Nat.reduceEqDiff,Nat.reduceAdd,Nat.reduceLeDiff,Nat.reduceMul]
          first|refine C_call ?_|refine C_calld ?_
          refine less_run y z (hin.2.le (by omega)) (hz.le (by omega)) fun H5 hg5 => ?_
          have hg5n:=hg5.next;try simp only[AN]at hg5n
          simp(maxSteps:=9999999)(disch:=first|omega|(simp only[AN];omega))only[↓KP,EK,↓reduceIte,reduceCtorEq,Nat.reduceEqDiff,Nat.reduceAdd,Nat.reduceLeDiff,Nat.reduceMul]
          refine C_decide (fun hl2 => ?_) (fun hl2 => ?_)
          · simp(maxSteps:=9999999)(disch:=first|omega|(simp only[AN];omega))only[hg5.get,hg4.get,hg3.get,h3,h4,n2,K8,↓KP,EK,↓reduceIte,reduceCtorEq,Nat.reduceEqDiff,Nat.reduceAdd,Nat.reduceLeDiff,Nat.reduceMul]
            refine K_bod ⟨?_, fin2 _ (z, z) _ hdone (by rw [hq, quotStep]; simp only [hl1, hl2, if_true, if_false]) ?_ ?_ ?_ ?_⟩
            · simp(maxSteps:=9999999)(disch:=first|omega|(simp only[AN];omega))only[hg5.get,hg4.get,hg3.get,↓KP,EK,↓reduceIte,reduceCtorEq,Nat.reduceEqDiff,Nat.reduceAdd,Nat.reduceLeDiff,Nat.reduceMul]
            · intro x x1 x2 x3 x4; simp(maxSteps:=9999999)(disch:=first|omega|(simp only[AN];omega))only[hg5.get,hg4.get,hg3.get,↓KP,EK,↓reduceIte,reduceCtorEq,Nat.reduceEqDiff,Nat.reduceAdd,Nat.reduceLeDiff,Nat.reduceMul]
            · first | omega | (simp(maxSteps:=9999999)(disch:=first|omega|(simp only[AN];omega))only[↓KP,EK,↓reduceIte,reduceCtorEq,Nat.reduceEqDiff,Nat.reduceAdd,Nat.reduceLeDiff,Nat.reduceMul]; omega)
            · simp(maxSteps:=9999999)(disch:=first|omega|(simp only[AN];omega))only[hg5.get,hg4.get,hg3.get,h3,↓KP,EK,↓reduceIte,reduceCtorEq,Nat.reduceEqDiff,Nat.reduceAdd,Nat.reduceLeDiff,Nat.reduceMul]
            · simp(maxSteps:=9999999)(disch:=first|omega|(simp only[AN];omega))only[hg5.get,hg4.get,hg3.get,h4,↓KP,EK,↓reduceIte,reduceCtorEq,Nat.reduceEqDiff,Nat.reduceAdd,Nat.reduceLeDiff,Nat.reduceMul]
          · simp(maxSteps:=9999999)(disch:=first|omega|(simp only[AN];omega))only[hg5.get,hg4.get,hg3.get,h3,h4,n2,K8,↓KP,EK,↓reduceIte,reduceCtorEq,Nat.reduceEqDiff,Nat.reduceAdd,Nat.reduceLeDiff,Nat.reduceMul]
            refine K_bod ⟨?_, fin2 _ (z, y) _ hdone (by rw [hq, quotStep]; simp only [hl1, hl2, if_true, if_false]) ?_ ?_ ?_ ?_⟩
            · simp(maxSteps:=9999999)(disch:=first|omega|(simp only[AN];omega))only[hg5.get,hg4.get,hg3.get,↓KP,EK,↓reduceIte,reduceCtorEq,Nat.reduceEqDiff,Nat.reduceAdd,Nat.reduceLeDiff,Nat.reduceMul]
            · intro x x1 x2 x3 x4; simp(maxSteps:=9999999)(disch:=first|omega|(simp only[AN];omega))only[hg5.get,hg4.get,hg3.get,↓KP,EK,↓reduceIte,reduceCtorEq,Nat.reduceEqDiff,Nat.reduceAdd,Nat.reduceLeDiff,Nat.reduceMul]
            · first | omega | (simp(maxSteps:=9999999)(disch:=first|omega|(simp only[AN];omega))only[↓KP,EK,↓reduceIte,reduceCtorEq,Nat.reduceEqDiff,Nat.reduceAdd,Nat.reduceLeDiff,Nat.reduceMul]; omega)
            · simp(maxSteps:=9999999)(disch:=first|omega|(simp only[AN];omega))only[hg5.get,hg4.get,hg3.get,h3,↓KP,EK,↓reduceIte,reduceCtorEq,Nat.reduceEqDiff,Nat.reduceAdd,Nat.reduceLeDiff,Nat.reduceMul]
            · simp(maxSteps:=9999999)(disch:=first|omega|(simp only[AN];omega))only[hg5.get,hg4.get,hg3.get,h4,↓KP,EK,↓reduceIte,reduceCtorEq,Nat.reduceEqDiff,Nat.reduceAdd,Nat.reduceLeDiff,Nat.reduceMul]
        · simp(maxSteps:=9999999)(disch:=first|omega|(simp only[AN];omega))only[hg4.get,hg3.get,h3,h4,n2,↓KP,EK,↓reduceIte,reduceCtorEq,Nat.reduceEqDiff,Nat.reduceAdd,Nat.reduceLeDiff,Nat.reduceMul]
          first|refine C_call ?_|refine C_calld ?_
          refine less_run y z (hin.2.le (by omega)) (hz.le (by omega)) fun H5 hg5 => ?_
          have hg5n:=hg5.next;try simp only[AN]at hg5n
          simp(maxSteps:=9999999)(disch:=first|omega|(simp only[AN];omega))only[↓KP,EK,↓reduceIte,reduceCtorEq,Nat.reduceEqDiff,Nat.reduceAdd,Nat.reduceLeDiff,Nat.reduceMul]
          refine C_decide (fun hl2 => ?_) (fun hl2 => ?_)
          · simp(maxSteps:=9999999)(disch:=first|omega|(simp only[AN];omega))only[hg5.get,hg4.get,hg3.get,h3,h4,n2,K8,↓KP,EK,↓reduceIte,reduceCtorEq,Nat.reduceEqDiff,Nat.reduceAdd,Nat.reduceLeDiff,Nat.reduceMul]
            refine K_bod ⟨?_, fin2 _ (x, z) _ hdone (by rw [hq, quotStep]; simp only [hl1, hl2, if_true, if_false]) ?_ ?_ ?_ ?_⟩
            · simp(maxSteps:=9999999)(disch:=first|omega|(simp only[AN];omega))only[hg5.get,hg4.get,hg3.get,↓KP,EK,↓reduceIte,reduceCtorEq,Nat.reduceEqDiff,Nat.reduceAdd,Nat.reduceLeDiff,Nat.reduceMul]
            · intro x x1 x2 x3 x4; simp(maxSteps:=9999999)(disch:=first|omega|(simp only[AN];omega))only[hg5.get,hg4.get,hg3.get,↓KP,EK,↓reduceIte,reduceCtorEq,Nat.reduceEqDiff,Nat.reduceAdd,Nat.reduceLeDiff,Nat.reduceMul]
            · first | omega | (simp(maxSteps:=9999999)(disch:=first|omega|(simp only[AN];omega))only[↓KP,EK,↓reduceIte,reduceCtorEq,Nat.reduceEqDiff,Nat.reduceAdd,Nat.reduceLeDiff,Nat.reduceMul]; omega)
            · simp(maxSteps:=9999999)(disch:=first|omega|(simp only[AN];omega))only[hg5.get,hg4.get,hg3.get,h3,↓KP,EK,↓reduceIte,reduceCtorEq,Nat.reduceEqDiff,Nat.reduceAdd,Nat.reduceLeDiff,Nat.reduceMul]
            · simp(maxSteps:=9999999)(disch:=first|omega|(simp only[AN];omega))only[hg5.get,hg4.get,hg3.get,h4,↓KP,EK,↓reduceIte,reduceCtorEq,Nat.reduceEqDiff,Nat.reduceAdd,Nat.reduceLeDiff,Nat.reduceMul]
          · simp(maxSteps:=9999999)(disch:=first|omega|(simp only[AN];omega))only[hg5.get,hg4.get,hg3.get,h3,h4,n2,K8,↓KP,EK,↓reduceIte,reduceCtorEq,Nat.reduceEqDiff,Nat.reduceAdd,Nat.reduceLeDiff,Nat.reduceMul]
            refine K_bod ⟨?_, fin2 _ (x, y) _ hdone (by rw [hq, quotStep]; simp only [hl1, hl2, if_true, if_false]) ?_ ?_ ?_ ?_⟩
            · simp(maxSteps:=9999999)(disch:=first|omega|(simp only[AN];omega))only[hg5.get,hg4.get,hg3.get,↓KP,EK,↓reduceIte,reduceCtorEq,Nat.reduceEqDiff,Nat.reduceAdd,Nat.reduceLeDiff,Nat.reduceMul]
            · intro x x1 x2 x3 x4; simp(maxSteps:=9999999)(disch:=first|omega|(simp only[AN];omega))only[hg5.get,hg4.get,hg3.get,↓KP,EK,↓reduceIte,reduceCtorEq,Nat.reduceEqDiff,Nat.reduceAdd,Nat.reduceLeDiff,Nat.reduceMul]
            · first | omega | (simp(maxSteps:=9999999)(disch:=first|omega|(simp only[AN];omega))only[↓KP,EK,↓reduceIte,reduceCtorEq,Nat.reduceEqDiff,Nat.reduceAdd,Nat.reduceLeDiff,Nat.reduceMul]; omega)
            · simp(maxSteps:=9999999)(disch:=first|omega|(simp only[AN];omega))only[hg5.get,hg4.get,hg3.get,h3,↓KP,EK,↓reduceIte,reduceCtorEq,Nat.reduceEqDiff,Nat.reduceAdd,Nat.reduceLeDiff,Nat.reduceMul]
            · simp(maxSteps:=9999999)(disch:=first|omega|(simp only[AN];omega))only[hg5.get,hg4.get,hg3.get,h4,↓KP,EK,↓reduceIte,reduceCtorEq,Nat.reduceEqDiff,Nat.reduceAdd,Nat.reduceLeDiff,Nat.reduceMul]
  · rintro H2 hn hi2 ⟨⟨ds, rs, h1, h2, h3, h4⟩, h5, h6, h7⟩
    have hrs : rs = [] := by
      have := congrArg List.length h2
      rw [yields, h1, List.length_map, List.length_map, List.length_append] at this
      exact List.length_eq_zero_iff.1 (by omega)
    subst hrs
    rw [List.append_nil] at h1
    subst h1
    simp(maxSteps:=9999999)(disch:=first|omega|(simp only[AN];omega))only[↓KP,EK,↓reduceIte,reduceCtorEq,Nat.reduceEqDiff,Nat.reduceAdd,Nat.reduceLeDiff,Nat.reduceMul]
    refine K_draw ?_;simp(maxSteps:=9999999)(disch:=first|omega|(simp only[AN];omega))only[h3,h4,↓KP,EK,↓reduceIte,reduceCtorEq,Nat.reduceEqDiff,Nat.reduceAdd,Nat.reduceLeDiff,Nat.reduceMul]
    refine k _ ⟨by simp(maxSteps:=9999999)(disch:=first|omega|(simp only[AN];omega))only[↓KP,EK,↓reduceIte,reduceCtorEq,Nat.reduceEqDiff,Nat.reduceAdd,Nat.reduceLeDiff,Nat.reduceMul]; omega, fun x hx hm => ?_⟩ (hi2.keep (by show H2.next ≤ H2.next; omega) fun x hx => by simp only [Kh] at hx; simp(maxSteps:=9999999)(disch:=first|omega|(simp only[AN];omega))only[↓KP,EK,↓reduceIte,reduceCtorEq,Nat.reduceEqDiff,Nat.reduceAdd,Nat.reduceLeDiff,Nat.reduceMul]).held
    by_cases hxN : x < N
    · have := hi2.base x hxN hm
      rw [base x hx] at this
      simp(maxSteps:=9999999)(disch:=first|omega|(simp only[AN];omega))only[↓KP,EK,↓reduceIte,reduceCtorEq,Nat.reduceEqDiff,Nat.reduceAdd,Nat.reduceLeDiff,Nat.reduceMul]
      exact this
    · have := h7 x (by omega) hx
      simp(maxSteps:=9999999)(disch:=first|omega|(simp only[AN];omega))only[↓KP,EK,↓reduceIte,reduceCtorEq,Nat.reduceEqDiff,Nat.reduceAdd,Nat.reduceLeDiff,Nat.reduceMul]
      exact this
  · intro x H2 _ _ _ h; exact h.elim
theorem betweenE_err {h : House} {a b : Int} : enterErr h [a, h.ws.length, b, h.ws.length] 0 = if pairErr h a b ≠ 0 then pairErr h a b else if truthsE h = [] then 8 else 0 := by
  unfold enterErr pairErr indexE
  by_cases he : errE h = 0
  · have hp : (pairsOff [a, (h.ws.length : Int), b, h.ws.length] = true) ↔ ¬ (0 ≤ a ∧ a ≤ (h.ws.length : Int) - 1) ∨ ¬ (0 ≤ b ∧ b ≤ (h.ws.length : Int) - 1) := by
      simp only [pairsOff, offP, Bool.or_false, Bool.or_eq_true, decide_eq_true_eq]; omega
    simp only [he, ne_eq, not_true, if_false, if_true]
    by_cases hw : 0 ≤ a ∧ a ≤ (h.ws.length : Int) - 1
    · by_cases hw2 : 0 ≤ b ∧ b ≤ (h.ws.length : Int) - 1
      · rw [if_neg (fun e => by rcases hp.1 e with h1 | h1; exact h1 hw; exact h1 hw2)]; simp [hw, hw2]
      · rw [if_pos (hp.2 (.inr hw2))]; simp [hw, hw2]
    · rw [if_pos (hp.2 (.inl hw))]; simp [hw]
  · simp [he]
theorem four_slice (H : AH) (x y z w : Int) : IsInts (Old (H.alloc (.cells false [I x, I y, I z, I w]))) (H.alloc (.cells false [I x, I y, I z, I w])) (.slice H.next 0 4 1) [x, y, z, w] :=
  .inr ⟨_, _, [I x, I y, I z, I w], rfl, (by show H.next < H.next + 1; omega), by simp [AH.read, get_alloc_new, readN], Rows.cons (cs := [I x]) rfl rfl (Rows.cons (cs := [I y]) rfl rfl (Rows.cons (cs := [I z]) rfl rfl (Rows.single rfl rfl)))⟩
theorem pBetween_run (v1 v2 : AV) (h : House) (a b : Int) (hh : IsHouse (Old H) H v1 v2 h) (hs : Sized h)
    (k : ∀ H', Grew H H' → R (.tuple [.agg [I (betweenE h a b).1.1.1, I (betweenE h a b).1.1.2], .agg [I (betweenE h a b).1.2.1, I (betweenE h a b).1.2.2], I (betweenE h a b).2]) H') : CallQ prog (.func 25 [] []) [.agg [v1, v2], I a, I b] H R := by
  have hbE : betweenE h a b = if enterErr h [a, h.ws.length, b, h.ws.length] 0 ≠ 0 then (((0, 0), (0, 0)), enterErr h [a, h.ws.length, b, h.ws.length] 0) else (quotE (quotsOf (truthsE h) a.toNat b.toNat), 0) := by
    rw [betweenE_err, betweenE]
    by_cases h1 : pairErr h a b = 0
    · by_cases h2 : truthsE h = []
      · simp [h1, h2]
      · simp [h1, h2]
    · simp [h1]
  have hg0 : Grew H ((((H.alloc (.cells false [v1, v2])).alloc (.cells false [I 0, I 0])).alloc (.cells false [I 0, I 0])).alloc (.cells false [I a, I h.ws.length, I b, I h.ws.length])) := GW
  refine CallQ_enter (fn:=c25) rfl (Nat.le_of_ble_eq_true rfl) ?_;simp(maxSteps:=9999999)(disch:=first|omega|(simp only[AN];omega))only[c25,envFrom,hh.1.len,↓KP,EK,↓reduceIte,reduceCtorEq,Nat.reduceEqDiff,Nat.reduceAdd,Nat.reduceLeDiff,Nat.reduceMul]
  refine C_call (enter_run v1 v2 _ _ h [a, h.ws.length, b, h.ws.length] 0 (hh.grow hg0) (four_slice _ _ _ _ _) (by simp) (fun j hj hodd => ?_) rfl (fun _ _ H1 R _ hk => fine_run (hk _ (Grew.refl _))) (fun he H1 hg => ?_) (fun he hfine hne H1 N p m hg hm hheld => ?_))
  · have : j = 1 ∨ j = 3 := by simp at hj; omega
    have := hs.ws
    rcases ‹j = 1 ∨ j = 3› with rfl | rfl <;> (simp only [List.getElem_cons_succ, List.getElem_cons_zero]; omega)
  · have hgn := hg.next; simp only [AH.next_alloc] at hgn
    simp(maxSteps:=9999999)(disch:=first|omega|(simp only[AN];omega))only[he,hg.get,↓KP,EK,↓reduceIte,reduceCtorEq,Nat.reduceEqDiff,Nat.reduceAdd,Nat.reduceLeDiff,Nat.reduceMul]
    refine K_draw ?_;simp(maxSteps:=9999999)(disch:=first|omega|(simp only[AN];omega))only[hg.get,↓KP,EK,↓reduceIte,reduceCtorEq,Nat.reduceEqDiff,Nat.reduceAdd,Nat.reduceLeDiff,Nat.reduceMul]
    rw [hbE, if_pos he] at k
    refine k _ ?_
    exact GW
  · have hgn := hg.next; simp only [AH.next_alloc] at hgn
    rw [hbE, if_neg (by omega)] at k
    simp only [AH.next_alloc] at hm
    have hw : (0 ≤ a ∧ a ≤ (h.ws.length : Int) - 1) ∧ (0 ≤ b ∧ b ≤ (h.ws.length : Int) - 1) := by
      rw [betweenE_err] at he
      by_cases h1 : pairErr h a b = 0
      · unfold pairErr at h1
        by_cases h2 : indexE h a h.ws.length = 0
        · rw [if_neg (by omega)] at h1
          have := indexE_zero h1
          have := indexE_zero h2
          omega
        · rw [if_pos h2] at h1; omega
      · simp [h1] at he
    obtain ⟨a', rfl⟩ : ∃ a' : Nat, a = a' := ⟨a.toNat, by omega⟩
    obtain ⟨b', rfl⟩ : ∃ b' : Nat, b = b' := ⟨b.toNat, by omega⟩
    simp(maxSteps:=9999999)(disch:=first|omega|(simp only[AN];omega))only[hg.get,↓KP,EK,↓reduceIte,reduceCtorEq,Nat.reduceEqDiff,Nat.reduceAdd,Nat.reduceLeDiff,Nat.reduceMul]
    refine C_call (between_run a' b' hfine (by omega) hheld (by omega) (by omega) fun H2 hg2 hh2 => ?_)
    have hg2' : Grew H H2 := GrewBut.grew (hg0.trans hg) hg2 (by omega)
    have hg2n := hg2.next
    have e6 : H2.get (H.next + 1) = some (.cells false [I 0, I 0]) := by rw [hg2.get _ (by omega) (by omega)]; simp(maxSteps:=9999999)(disch:=first|omega|(simp only[AN];omega))only[hg.get,↓KP,EK,↓reduceIte,reduceCtorEq,Nat.reduceEqDiff,Nat.reduceAdd,Nat.reduceLeDiff,Nat.reduceMul]
    have e7 : H2.get (H.next + 1 + 1) = some (.cells false [I 0, I 0]) := by rw [hg2.get _ (by omega) (by omega)]; simp(maxSteps:=9999999)(disch:=first|omega|(simp only[AN];omega))only[hg.get,↓KP,EK,↓reduceIte,reduceCtorEq,Nat.reduceEqDiff,Nat.reduceAdd,Nat.reduceLeDiff,Nat.reduceMul]
    rw [lookE_zero]
    simp(maxSteps:=9999999)(disch:=first|omega|(simp only[AN];omega))only[e6,e7,↓KP,EK,↓reduceIte,reduceCtorEq,Nat.reduceEqDiff,Nat.reduceAdd,Nat.reduceLeDiff,Nat.reduceMul]
    refine K_draw ?_;simp(maxSteps:=9999999)(disch:=first|omega|(simp only[AN];omega))only[e6,e7,↓KP,EK,↓reduceIte,reduceCtorEq,Nat.reduceEqDiff,Nat.reduceAdd,Nat.reduceLeDiff,Nat.reduceMul]
    refine k _ ?_
    exact GW
end Go.Proofs.Ytgncpbkedhchfaa
namespace Go.Proofs.Ytgncpbkedhchfaa
open Go.AM Go.IntWalk
set_option maxRecDepth 100000
set_option maxHeartbeats 4000000
set_option linter.unusedSimpArgs false
variable {H : AH} {R : AV → AH → Prop}
structure Found where
  is : Bool
  a : Int
  b : Int
  best : Int × Int
def takes (s : Found) (k i : Nat) (q : Int × Int) : Bool := decide (ltE s.best q) || (s.is && (q == s.best) && (decide ((k : Int) < s.a) || (decide ((k : Int) = s.a) && decide ((i : Int) < s.b))))
def pStep (l : List (List Int)) (i : Nat) (s : Found) (k : Nat) : Found := if takes s k i (spreadE (quotE (quotsOf l k i))) then ⟨true, k, i, spreadE (quotE (quotsOf l k i))⟩ else s
def pRow (l : List (List Int)) (i m : Nat) (s : Found) : Found := (List.range m).foldl (pStep l i) s
def pAll (l : List (List Int)) (n : Nat) : Found := (List.range n).foldl (fun s i => pRow l i i s) ⟨false, 0, 0, (1, 1)⟩
theorem pRow_succ {l : List (List Int)} {i m : Nat} {s : Found} : pRow l i (m + 1) s = pStep l i (pRow l i m s) m := by
  simp only [pRow, List.range_succ, List.foldl_append, List.foldl_cons, List.foldl_nil]
theorem pAll_succ {l : List (List Int)} {n : Nat} : pAll l (n + 1) = pRow l n n (pAll l n) := by
  simp only [pAll, List.range_succ, List.foldl_append, List.foldl_cons, List.foldl_nil]
theorem pAll_next (l : List (List Int)) (n : Nat) (hn : n ≤ 3) : (if (nextAll l n n).1.1 < 0 then ((0, 0), 9) else ((nextAll l n n).1, 0) : (Int × Int) × Int) = if (pAll l n).is = true then (((pAll l n).a, (pAll l n).b), 0) else ((0, 0), 9) := by
  have key : ∀ k i : Nat, ∀ q, takes ⟨false, 0, 0, (1, 1)⟩ k i q = decide (ltE (1, 1) q) := fun k i q => by simp [takes]
  rcases (show n = 0 ∨ n = 1 ∨ n = 2 ∨ n = 3 by omega) with rfl | rfl | rfl | rfl
  · rfl
  · rfl
  · simp only [nextAll, nextRow, pAll, pRow, show List.range 2 = [0, 1] from rfl, show List.range 1 = [0] from rfl, show List.range 0 = [] from rfl, List.foldl_cons, List.foldl_nil, show List.range' (0 + 1) (2 - (0 + 1)) = [1] from rfl, show List.range' (1 + 1) (2 - (1 + 1)) = [] from rfl, nextStep, pStep, key]
    by_cases h1 : ltE (1, 1) (spreadE (quotE (quotsOf l 0 1)))
    · simp [h1]
    · simp [h1]
  · simp only [nextAll, nextRow, pAll, pRow, show List.range 3 = [0, 1, 2] from rfl, show List.range 2 = [0, 1] from rfl, show List.range 1 = [0] from rfl, show List.range 0 = [] from rfl, List.foldl_cons, List.foldl_nil, show List.range' (0 + 1) (3 - (0 + 1)) = [1, 2] from rfl, show List.range' (1 + 1) (3 - (1 + 1)) = [2] from rfl, show List.range' (2 + 1) (3 - (2 + 1)) = [] from rfl, nextStep, pStep, key]
    generalize spreadE (quotE (quotsOf l 0 1)) = x
    generalize spreadE (quotE (quotsOf l 0 2)) = y
    generalize spreadE (quotE (quotsOf l 1 2)) = z
    by_cases h1 : ltE (1, 1) x <;> by_cases h2 : ltE (1, 1) y <;> by_cases h3 : ltE (1, 1) z <;> by_cases h4 : ltE x y <;> by_cases h5 : ltE x z <;> by_cases h6 : ltE y z <;> simp [takes, h1, h2, h3, h4, h5, h6]
theorem pNext_run (v1 v2 : AV) (h : House) (hh : IsHouse (Old H) H v1 v2 h)
    (k : ∀ H', Grew H H' → R (.tuple [I (nextE h).1.1, I (nextE h).1.2, I (nextE h).2]) H') : CallQ prog (.func 27 [] []) [.agg [v1, v2]] H R := by
  have herr : enterErr h [] 0 = if errE h ≠ 0 then errE h else if truthsE h = [] then 8 else 0 := by
    simp [enterErr, pairsOff]
  refine CallQ_enter (fn:=c27) rfl (Nat.le_of_ble_eq_true rfl) ?_;simp(maxSteps:=9999999)(disch:=first|omega|(simp only[AN];omega))only[c27,envFrom,↓KP,EK,↓reduceIte,reduceCtorEq,Nat.reduceEqDiff,Nat.reduceAdd,Nat.reduceLeDiff,Nat.reduceMul]
  refine C_call (enter_run v1 v2 _ _ h [] 0 (hh.grow GW) (.inl ⟨rfl, rfl⟩) (by simp) (fun j hj _ => by simp at hj) rfl (fun _ _ H1 R _ hk => fine_run (hk _ (Grew.refl _))) (fun he H1 hg => ?_) (fun he hfine hne H1 N p m hg hm hheld => ?_))
  · have hgn := hg.next; simp only [AH.next_alloc] at hgn
    have hnE : nextE h = ((0, 0), enterErr h [] 0) := by
      rw [herr] at he ⊢
      unfold nextE
      by_cases h1 : errE h = 0
      · by_cases h2 : truthsE h = []
        · simp [h1, h2]
        · simp [h1, h2] at he
      · simp [h1]
    simp(maxSteps:=9999999)(disch:=first|omega|(simp only[AN];omega))only[he,↓KP,EK,↓reduceIte,reduceCtorEq,Nat.reduceEqDiff,Nat.reduceAdd,Nat.reduceLeDiff,Nat.reduceMul]
    rw [hnE] at k
    refine k _ ?_
    exact GW
  · have hgn := hg.next; simp only [AH.next_alloc] at hgn
    simp only [AH.next_alloc] at hm
    have hws3 := hfine.ws
    have hnE : nextE h = if (pAll (truthsE h) h.ws.length).is = true then (((pAll (truthsE h) h.ws.length).a, (pAll (truthsE h) h.ws.length).b), 0) else ((0, 0), 9) := by
      rw [← pAll_next _ _ hws3]
      rw [herr] at he
      by_cases h1 : errE h = 0
      · simp [nextE, h1, hne]
      · simp [h1] at he
    have hbox : H1.get H.next = some (.cells false [v1, v2]) := by simp(maxSteps:=9999999)(disch:=first|omega|(simp only[AN];omega))only[hg.get,↓KP,EK,↓reduceIte,reduceCtorEq,Nat.reduceEqDiff,Nat.reduceAdd,Nat.reduceLeDiff,Nat.reduceMul]
    have hfac := truthsE_factors hfine
    simp(maxSteps:=9999999)(disch:=first|omega|(simp only[AN];omega))only[hbox,hh.1.len,↓KP,EK,↓reduceIte,reduceCtorEq,Nat.reduceEqDiff,Nat.reduceAdd,Nat.reduceLeDiff,Nat.reduceMul]
    refine K_loop (fun mz ez H2 => ∃ (i : Nat) (s : Found) (tail : Env), ez = (0, .agg [v1, v2]) :: (1, .ptr H.next 0) :: (2, I s.a) :: (3, I s.b) :: (4, I 0) :: (5, .ptr p 0) :: (19, .bool false) :: (6, .ptr H1.next 0) :: (7, .bool s.is) :: (24, I h.ws.length) :: (25, I i) :: tail ∧ (GrewBut m H1 H2) ∧ (H1.next < H2.next) ∧ (Held N p m v1 v2 h 0 H2) ∧ (H2.get H1.next = some (.cells false [I s.best.1, I s.best.2])) ∧ (i ≤ h.ws.length) ∧ (s = pAll (truthsE h) i) ∧ (InR 90000 s.best) ∧ mz = h.ws.length - i) _ ⟨0, ⟨false, 0, 0, (1, 1)⟩, _, rfl, (by exact Grew.but GW), ?_, (by exact hheld.up GW), ?_, ?_, ?_, (by unfold InR; decide), rfl⟩ ?_
    iterate 4 (focus (first|(with_reducible rfl)|omega|(with_reducible(repeat first|exact Grew.refl _|assumption|apply Grew.alloc|refine Grew.set ?_ _ (by first|omega|(simp only[AN];omega)));done)|(simp(maxSteps:=9999999)(disch:=first|omega|(simp only[AN];omega))only[↓KP,EK,↓reduceIte,reduceCtorEq,Nat.reduceEqDiff,Nat.reduceAdd,Nat.reduceLeDiff,Nat.reduceMul]<;>first|omega|rfl)|(simp;done)|rfl))
    rintro mz ez H2 ⟨i, s, tail, rfl, hgb, hlt, hheld2, h6, hi, hs, hin, hmz⟩; subst mz
    have hmlt := hheld.look.mlt
    have hnle := hheld.look.nle
    simp(maxSteps:=9999999)(disch:=first|omega|(simp only[AN];omega))only[↓KP,EK,↓reduceIte,reduceCtorEq,Nat.reduceEqDiff,Nat.reduceAdd,Nat.reduceLeDiff,Nat.reduceMul]
    refine C_decide (fun hc => ?_) (fun hc => ?_)
    · have e1 : IntKind.i64.wrap ((i : Int) + 1) = ((i + 1 : Nat) : Int) := i64_in _ (by omega)
      simp(maxSteps:=9999999)(disch:=first|omega|(simp only[AN];omega))only[↓KP,EK,↓reduceIte,reduceCtorEq,Nat.reduceEqDiff,Nat.reduceAdd,Nat.reduceLeDiff,Nat.reduceMul]
      refine K_loop (fun mz ez H3 => ∃ (j : Nat) (t : Found) (tail : Env), ez = (0, .agg [v1, v2]) :: (1, .ptr H.next 0) :: (2, I t.a) :: (3, I t.b) :: (4, I 0) :: (5, .ptr p 0) :: (19, .bool false) :: (6, .ptr H1.next 0) :: (7, .bool t.is) :: (24, I h.ws.length) :: (25, I i) :: tail ∧ (tail.get 8 = some (I i)) ∧ (tail.get 28 = some (I i)) ∧ (tail.get 29 = some (I j)) ∧ (GrewBut m H1 H3) ∧ (H1.next < H3.next) ∧ (Held N p m v1 v2 h 0 H3) ∧ (H3.get H1.next = some (.cells false [I t.best.1, I t.best.2])) ∧ (j ≤ i) ∧ (t = pRow (truthsE h) i j s) ∧ (InR 90000 t.best) ∧ mz = i - j) _ ⟨0, s, _, rfl, ?_, ?_, ?_, (by exact hgb), ?_, (by exact hheld2), (by exact h6), ?_, ?_, (by exact hin), rfl⟩ ?_
      iterate 6 (focus (first|(with_reducible rfl)|omega|(with_reducible(repeat first|exact Grew.refl _|assumption|apply Grew.alloc|refine Grew.set ?_ _ (by first|omega|(simp only[AN];omega)));done)|(simp(maxSteps:=9999999)(disch:=first|omega|(simp only[AN];omega))only[↓KP,EK,↓reduceIte,reduceCtorEq,Nat.reduceEqDiff,Nat.reduceAdd,Nat.reduceLeDiff,Nat.reduceMul]<;>first|omega|rfl)|(simp;done)|rfl))
      rintro mz ez H3 ⟨j, t, tail, rfl, t8, t28, t29, hgb3, hlt3, hheld3, h63, hj, ht, hin3, hmz⟩; subst mz
      simp(maxSteps:=9999999)(disch:=first|omega|(simp only[AN];omega))only[t28,t29,↓KP,EK,↓reduceIte,reduceCtorEq,Nat.reduceEqDiff,Nat.reduceAdd,Nat.reduceLeDiff,Nat.reduceMul]
      refine C_decide (fun hc2 => ?_) (fun hc2 => ?_)
      · have e2 : IntKind.i64.wrap ((j : Int) + 1) = ((j + 1 : Nat) : Int) := i64_in _ (by omega)
        have hq := quotE_in (quotsOf_in hfac (a := j) (b := i) (by omega) (by omega)) (by
          intro e
          have := congrArg List.length e
          simp only [quotsOf, List.length_map, List.length_nil] at this
          exact hne (List.length_eq_zero_iff.1 this))
        have hz := spreadE_in hq.1 hq.2
        have hstep : pRow (truthsE h) i (j + 1) s = pStep (truthsE h) i t j := by rw [pRow_succ, ← ht]
        simp only [pStep] at hstep
        have r1 := hq.1
        have r2 := hq.2
        unfold InR at r1 r2
        have q1 := mul_in (a := (quotE (quotsOf (truthsE h) j i)).2.1) (b := (quotE (quotsOf (truthsE h) j i)).1.2) (m := 300) (n := 300) (by omega) (by omega)
        have q2 := mul_in (a := (quotE (quotsOf (truthsE h) j i)).2.2) (b := (quotE (quotsOf (truthsE h) j i)).1.1) (m := 300) (n := 300) (by omega) (by omega)
        have e3 : IntKind.i64.wrap ((quotE (quotsOf (truthsE h) j i)).2.1 * (quotE (quotsOf (truthsE h) j i)).1.2) = (quotE (quotsOf (truthsE h) j i)).2.1 * (quotE (quotsOf (truthsE h) j i)).1.2 := i64_in _ (by omega)
        have e4 : IntKind.i64.wrap ((quotE (quotsOf (truthsE h) j i)).2.2 * (quotE (quotsOf (truthsE h) j i)).1.1) = (quotE (quotsOf (truthsE h) j i)).2.2 * (quotE (quotsOf (truthsE h) j i)).1.1 := i64_in _ (by omega)
        simp(maxSteps:=9999999)(disch:=first|omega|(simp only[AN];omega))only[t8,t29,↓KP,EK,↓reduceIte,reduceCtorEq,Nat.reduceEqDiff,Nat.reduceAdd,Nat.reduceLeDiff,Nat.reduceMul]
        refine C_call (between_run j i hfine (by omega) hheld3 (by omega) (by omega) fun H4 hg4 hh4 => ?_)
        have hg4n := hg4.next
        rw [lookE_zero]
        simp(maxSteps:=9999999)(disch:=first|omega|(simp only[AN];omega))only[e3,e4,↓KP,EK,↓reduceIte,reduceCtorEq,Nat.reduceEqDiff,Nat.reduceAdd,Nat.reduceLeDiff,Nat.reduceMul]
        first|refine C_call ?_|refine C_calld ?_
        refine plow_run _ _ ⟨q1.1, by omega⟩ ⟨q2.1, by omega⟩ fun H5 hg5 => ?_
        have hg5n:=hg5.next;try simp only[AN]at hg5n
        have h65 : H5.get H1.next = some (.cells false [I t.best.1, I t.best.2]) := by
          rw [hg5.get _ (by simp(maxSteps:=9999999)(disch:=first|omega|(simp only[AN];omega))only[↓KP,EK,↓reduceIte,reduceCtorEq,Nat.reduceEqDiff,Nat.reduceAdd,Nat.reduceLeDiff,Nat.reduceMul]; omega)]; simp(maxSteps:=9999999)(disch:=first|omega|(simp only[AN];omega))only[↓KP,EK,↓reduceIte,reduceCtorEq,Nat.reduceEqDiff,Nat.reduceAdd,Nat.reduceLeDiff,Nat.reduceMul]
          rw [hg4.get _ (by omega) (by omega)]; exact h63
        have hgb5 : GrewBut m H1 H5 := ⟨by omega, fun b hb hbm => by
          rw [hg5.get _ (by simp(maxSteps:=9999999)(disch:=first|omega|(simp only[AN];omega))only[↓KP,EK,↓reduceIte,reduceCtorEq,Nat.reduceEqDiff,Nat.reduceAdd,Nat.reduceLeDiff,Nat.reduceMul]; omega)]; simp(maxSteps:=9999999)(disch:=first|omega|(simp only[AN];omega))only[↓KP,EK,↓reduceIte,reduceCtorEq,Nat.reduceEqDiff,Nat.reduceAdd,Nat.reduceLeDiff,Nat.reduceMul]
          rw [hg4.get _ (by omega) hbm, hgb3.get b hb hbm]⟩
        have hh5 : Held N p m v1 v2 h 0 H5 := hh4.up (H2 := H5) (Grew.trans GW hg5)
        have hsp : lowE ((quotE (quotsOf (truthsE h) j i)).2.1 * (quotE (quotsOf (truthsE h) j i)).1.2) ((quotE (quotsOf (truthsE h) j i)).2.2 * (quotE (quotsOf (truthsE h) j i)).1.1) = spreadE (quotE (quotsOf (truthsE h) j i)) := rfl
        rw [hsp]
        generalize spreadE (quotE (quotsOf (truthsE h) j i)) = z at hstep hz
        simp(maxSteps:=9999999)(disch:=first|omega|(simp only[AN];omega))only[h65,↓KP,EK,↓reduceIte,reduceCtorEq,Nat.reduceEqDiff,Nat.reduceAdd,Nat.reduceLeDiff,Nat.reduceMul]
        first|refine C_call ?_|refine C_calld ?_
        refine less_run t.best z hin3 hz fun H6 hg6 => ?_
        have hg6n:=hg6.next;try simp only[AN]at hg6n
        have h66 : H6.get H1.next = some (.cells false [I t.best.1, I t.best.2]) := by simp(maxSteps:=9999999)(disch:=first|omega|(simp only[AN];omega))only[hg6.get,h65,↓KP,EK,↓reduceIte,reduceCtorEq,Nat.reduceEqDiff,Nat.reduceAdd,Nat.reduceLeDiff,Nat.reduceMul]
        have h6z : H6.get H5.next = some (.cells false [I z.1, I z.2]) := by simp(maxSteps:=9999999)(disch:=first|omega|(simp only[AN];omega))only[hg6.get,↓KP,EK,↓reduceIte,reduceCtorEq,Nat.reduceEqDiff,Nat.reduceAdd,Nat.reduceLeDiff,Nat.reduceMul]
        have hgb6 : GrewBut m H1 H6 := hgb5.trans (Grew.but (Grew.trans GW hg6))
        have hh6 : Held N p m v1 v2 h 0 H6 := hh5.up (Grew.trans GW hg6)
        have hgb7 : ∀ o, GrewBut m H1 (H6.set H1.next o) := fun o => ⟨by simp(maxSteps:=9999999)(disch:=first|omega|(simp only[AN];omega))only[↓KP,EK,↓reduceIte,reduceCtorEq,Nat.reduceEqDiff,Nat.reduceAdd,Nat.reduceLeDiff,Nat.reduceMul]; omega, fun b hb hbm => by rw [get_set_other (by omega)]; exact hgb6.get b hb hbm⟩
        have hh7 : ∀ o, Held N p m v1 v2 h 0 (H6.set H1.next o) := fun o => hh6.keep (Nat.le_refl _) fun b hb => get_set_other (by omega)
        have hdn : (z == t.best) = decide (z = t.best) := by
          by_cases e : z = t.best
          · simp [e]
          · simp [e]
        obtain ⟨tis, ta, tb, tbest⟩ := t
        simp only at h66 hstep hdn hin3 hgb7
        by_cases hl : ltE tbest z
        · have htk : takes ⟨tis, ta, tb, tbest⟩ j i z = true := by simp [takes, hl]
          rw [if_pos htk] at hstep
          simp(maxSteps:=9999999)(disch:=first|omega|(simp only[AN];omega))only[hl,h66,h6z,t8,t29,↓KP,EK,↓reduceIte,reduceCtorEq,Nat.reduceEqDiff,Nat.reduceAdd,Nat.reduceLeDiff,Nat.reduceMul]
          refine K_draw ?_;simp(maxSteps:=9999999)(disch:=first|omega|(simp only[AN];omega))only[h66,h6z,t8,t29,e2,↓KP,EK,↓reduceIte,reduceCtorEq,Nat.reduceEqDiff,Nat.reduceAdd,Nat.reduceLeDiff,Nat.reduceMul]
          refine ⟨_, ?_, j + 1, ⟨true, j, i, z⟩, _, rfl, ?_, ?_, ?_, (by exact hgb7 _), ?_, (by exact hh7 _), (by simp(maxSteps:=9999999)(disch:=first|omega|(simp only[AN];omega))only[↓KP,EK,↓reduceIte,reduceCtorEq,Nat.reduceEqDiff,Nat.reduceAdd,Nat.reduceLeDiff,Nat.reduceMul]), ?_, (by exact hstep.symm), (by exact hz), rfl⟩ <;> (first|omega|(with_reducible assumption)|(with_reducible(repeat first|exact Grew.refl _|assumption|apply Grew.alloc|refine Grew.set ?_ _ (by first|omega|(simp only[AN];omega)));done)|(simp(maxSteps:=9999999)(disch:=first|omega|(simp only[AN];omega))only[t8,t28,t29,↓KP,EK,↓reduceIte,reduceCtorEq,Nat.reduceEqDiff,Nat.reduceAdd,Nat.reduceLeDiff,Nat.reduceMul]<;>first|omega|rfl))
        · cases tis with
          | false =>
            have htk : ¬ takes ⟨false, ta, tb, tbest⟩ j i z = true := by simp [takes, hl]
            rw [if_neg htk] at hstep
            simp(maxSteps:=9999999)(disch:=first|omega|(simp only[AN];omega))only[hl,h66,h6z,t8,t29,e2,↓KP,EK,↓reduceIte,reduceCtorEq,Nat.reduceEqDiff,Nat.reduceAdd,Nat.reduceLeDiff,Nat.reduceMul]
            refine ⟨_, ?_, j + 1, ⟨false, ta, tb, tbest⟩, _, rfl, ?_, ?_, ?_, (by exact hgb6), ?_, (by exact hh6), (by exact h66), ?_, (by exact hstep.symm), (by exact hin3), rfl⟩ <;> (first|omega|(with_reducible assumption)|(with_reducible(repeat first|exact Grew.refl _|assumption|apply Grew.alloc|refine Grew.set ?_ _ (by first|omega|(simp only[AN];omega)));done)|(simp(maxSteps:=9999999)(disch:=first|omega|(simp only[AN];omega))only[t8,t28,t29,↓KP,EK,↓reduceIte,reduceCtorEq,Nat.reduceEqDiff,Nat.reduceAdd,Nat.reduceLeDiff,Nat.reduceMul]<;>first|omega|rfl))
          | true =>
            by_cases hzq : z = tbest
            · have hx : eqFlatA true [.i, .i] (.agg [I z.1, I z.2]) (.agg [I tbest.1, I tbest.2]) = some true := by rw [hzq]; simp [eqFlatA, eqCells]
              have hdn' : (z == tbest) = true := by rw [hdn, hzq]; simp
              by_cases hka : (j : Int) < ta
              · have htk : takes ⟨true, ta, tb, tbest⟩ j i z = true := by simp [takes, hl, hka, hdn']
                rw [if_pos htk] at hstep
                simp(maxSteps:=9999999)(disch:=first|omega|(simp only[AN];omega))only[hl,hx,hka,h66,h6z,t8,t29,↓KP,EK,↓reduceIte,reduceCtorEq,Nat.reduceEqDiff,Nat.reduceAdd,Nat.reduceLeDiff,Nat.reduceMul]
                refine K_draw ?_;simp(maxSteps:=9999999)(disch:=first|omega|(simp only[AN];omega))only[h66,h6z,t8,t29,e2,↓KP,EK,↓reduceIte,reduceCtorEq,Nat.reduceEqDiff,Nat.reduceAdd,Nat.reduceLeDiff,Nat.reduceMul]
                refine ⟨_, ?_, j + 1, ⟨true, j, i, z⟩, _, rfl, ?_, ?_, ?_, (by exact hgb7 _), ?_, (by exact hh7 _), (by simp(maxSteps:=9999999)(disch:=first|omega|(simp only[AN];omega))only[↓KP,EK,↓reduceIte,reduceCtorEq,Nat.reduceEqDiff,Nat.reduceAdd,Nat.reduceLeDiff,Nat.reduceMul]), ?_, (by exact hstep.symm), (by exact hz), rfl⟩ <;> (first|omega|(with_reducible assumption)|(with_reducible(repeat first|exact Grew.refl _|assumption|apply Grew.alloc|refine Grew.set ?_ _ (by first|omega|(simp only[AN];omega)));done)|(simp(maxSteps:=9999999)(disch:=first|omega|(simp only[AN];omega))only[t8,t28,t29,↓KP,EK,↓reduceIte,reduceCtorEq,Nat.reduceEqDiff,Nat.reduceAdd,Nat.reduceLeDiff,Nat.reduceMul]<;>first|omega|rfl))
              · by_cases hke : (j : Int) = ta
                · by_cases hib : (i : Int) < tb
                  · have htk : takes ⟨true, ta, tb, tbest⟩ j i z = true := by simp [takes, hl, hka, eq_true hke, hib, hdn']
                    rw [if_pos htk] at hstep
                    simp(maxSteps:=9999999)(disch:=first|omega|(simp only[AN];omega))only[hl,hx,hka,eq_true hke,hib,h66,h6z,t8,t29,↓KP,EK,↓reduceIte,reduceCtorEq,Nat.reduceEqDiff,Nat.reduceAdd,Nat.reduceLeDiff,Nat.reduceMul]
                    refine K_draw ?_;simp(maxSteps:=9999999)(disch:=first|omega|(simp only[AN];omega))only[h66,h6z,t8,t29,e2,↓KP,EK,↓reduceIte,reduceCtorEq,Nat.reduceEqDiff,Nat.reduceAdd,Nat.reduceLeDiff,Nat.reduceMul]
                    refine ⟨_, ?_, j + 1, ⟨true, j, i, z⟩, _, rfl, ?_, ?_, ?_, (by exact hgb7 _), ?_, (by exact hh7 _), (by simp(maxSteps:=9999999)(disch:=first|omega|(simp only[AN];omega))only[↓KP,EK,↓reduceIte,reduceCtorEq,Nat.reduceEqDiff,Nat.reduceAdd,Nat.reduceLeDiff,Nat.reduceMul]), ?_, (by exact hstep.symm), (by exact hz), rfl⟩ <;> (first|omega|(with_reducible assumption)|(with_reducible(repeat first|exact Grew.refl _|assumption|apply Grew.alloc|refine Grew.set ?_ _ (by first|omega|(simp only[AN];omega)));done)|(simp(maxSteps:=9999999)(disch:=first|omega|(simp only[AN];omega))only[t8,t28,t29,↓KP,EK,↓reduceIte,reduceCtorEq,Nat.reduceEqDiff,Nat.reduceAdd,Nat.reduceLeDiff,Nat.reduceMul]<;>first|omega|rfl))
                  · have htk : ¬ takes ⟨true, ta, tb, tbest⟩ j i z = true := by simp [takes, hl, hka, eq_true hke, hib, hdn']
                    rw [if_neg htk] at hstep
                    simp(maxSteps:=9999999)(disch:=first|omega|(simp only[AN];omega))only[hl,hx,hka,eq_true hke,hib,h66,h6z,t8,t29,e2,↓KP,EK,↓reduceIte,reduceCtorEq,Nat.reduceEqDiff,Nat.reduceAdd,Nat.reduceLeDiff,Nat.reduceMul]
                    refine ⟨_, ?_, j + 1, ⟨true, ta, tb, tbest⟩, _, rfl, ?_, ?_, ?_, (by exact hgb6), ?_, (by exact hh6), (by exact h66), ?_, (by exact hstep.symm), (by exact hin3), rfl⟩ <;> (first|omega|(with_reducible assumption)|(with_reducible(repeat first|exact Grew.refl _|assumption|apply Grew.alloc|refine Grew.set ?_ _ (by first|omega|(simp only[AN];omega)));done)|(simp(maxSteps:=9999999)(disch:=first|omega|(simp only[AN];omega))only[t8,t28,t29,↓KP,EK,↓reduceIte,reduceCtorEq,Nat.reduceEqDiff,Nat.reduceAdd,Nat.reduceLeDiff,Nat.reduceMul]<;>first|omega|rfl))
                · have htk : ¬ takes ⟨true, ta, tb, tbest⟩ j i z = true := by simp [takes, hl, hka, hke, hdn']
                  rw [if_neg htk] at hstep
                  simp(maxSteps:=9999999)(disch:=first|omega|(simp only[AN];omega))only[hl,hx,hka,hke,h66,h6z,t8,t29,e2,↓KP,EK,↓reduceIte,reduceCtorEq,Nat.reduceEqDiff,Nat.reduceAdd,Nat.reduceLeDiff,Nat.reduceMul]
                  refine ⟨_, ?_, j + 1, ⟨true, ta, tb, tbest⟩, _, rfl, ?_, ?_, ?_, (by exact hgb6), ?_, (by exact hh6), (by exact h66), ?_, (by exact hstep.symm), (by exact hin3), rfl⟩ <;> (first|omega|(with_reducible assumption)|(with_reducible(repeat first|exact Grew.refl _|assumption|apply Grew.alloc|refine Grew.set ?_ _ (by first|omega|(simp only[AN];omega)));done)|(simp(maxSteps:=9999999)(disch:=first|omega|(simp only[AN];omega))only[t8,t28,t29,↓KP,EK,↓reduceIte,reduceCtorEq,Nat.reduceEqDiff,Nat.reduceAdd,Nat.reduceLeDiff,Nat.reduceMul]<;>first|omega|rfl))
            · have hx : eqFlatA true [.i, .i] (.agg [I z.1, I z.2]) (.agg [I tbest.1, I tbest.2]) = some false := by
                have : ¬ (z.1 = tbest.1 ∧ z.2 = tbest.2) := fun e => hzq (Prod.ext e.1 e.2)
                simp [eqFlatA, eqCells]; omega
              have hdn' : (z == tbest) = false := by rw [hdn]; simp [hzq]
              have htk : ¬ takes ⟨true, ta, tb, tbest⟩ j i z = true := by simp [takes, hl, hdn']
              rw [if_neg htk] at hstep
              simp(maxSteps:=9999999)(disch:=first|omega|(simp only[AN];omega))only[hl,hx,h66,h6z,t8,t29,e2,↓KP,EK,↓reduceIte,reduceCtorEq,Nat.reduceEqDiff,Nat.reduceAdd,Nat.reduceLeDiff,Nat.reduceMul]
              refine ⟨_, ?_, j + 1, ⟨true, ta, tb, tbest⟩, _, rfl, ?_, ?_, ?_, (by exact hgb6), ?_, (by exact hh6), (by exact h66), ?_, (by exact hstep.symm), (by exact hin3), rfl⟩ <;> (first|omega|(with_reducible assumption)|(with_reducible(repeat first|exact Grew.refl _|assumption|apply Grew.alloc|refine Grew.set ?_ _ (by first|omega|(simp only[AN];omega)));done)|(simp(maxSteps:=9999999)(disch:=first|omega|(simp only[AN];omega))only[t8,t28,t29,↓KP,EK,↓reduceIte,reduceCtorEq,Nat.reduceEqDiff,Nat.reduceAdd,Nat.reduceLeDiff,Nat.reduceMul]<;>first|omega|rfl))
      · have hje : j = i := by omega
        subst hje
        simp(maxSteps:=9999999)(disch:=first|omega|(simp only[AN];omega))only[e1,↓KP,EK,↓reduceIte,reduceCtorEq,Nat.reduceEqDiff,Nat.reduceAdd,Nat.reduceLeDiff,Nat.reduceMul]
        refine ⟨_, ?_, j + 1, t, _, rfl, (by exact hgb3), ?_, (by exact hheld3), (by exact h63), ?_, (by rw [pAll_succ, ← hs]; exact ht), (by exact hin3), rfl⟩ <;> (first|omega|(with_reducible assumption)|(with_reducible(repeat first|exact Grew.refl _|assumption|apply Grew.alloc|refine Grew.set ?_ _ (by first|omega|(simp only[AN];omega)));done)|(simp(maxSteps:=9999999)(disch:=first|omega|(simp only[AN];omega))only[↓KP,EK,↓reduceIte,reduceCtorEq,Nat.reduceEqDiff,Nat.reduceAdd,Nat.reduceLeDiff,Nat.reduceMul]<;>first|omega|rfl))
    · have hie : i = h.ws.length := by omega
      subst hie
      rw [← hs] at hnE
      have hg2 : Grew H H2 := GrewBut.grew (Grew.trans GW hg) hgb (by omega)
      simp(maxSteps:=9999999)(disch:=first|omega|(simp only[AN];omega))only[↓KP,EK,↓reduceIte,reduceCtorEq,Nat.reduceEqDiff,Nat.reduceAdd,Nat.reduceLeDiff,Nat.reduceMul]
      obtain ⟨tis, ta, tb, tbest⟩ := s
      cases tis with
      | false =>
        rw [hnE] at k
        simp(maxSteps:=9999999)(disch:=first|omega|(simp only[AN];omega))only[↓KP,EK,↓reduceIte,reduceCtorEq,Nat.reduceEqDiff,Nat.reduceAdd,Nat.reduceLeDiff,Nat.reduceMul]
        exact k _ hg2
      | true =>
        rw [hnE] at k
        simp(maxSteps:=9999999)(disch:=first|omega|(simp only[AN];omega))only[↓KP,EK,↓reduceIte,reduceCtorEq,Nat.reduceEqDiff,Nat.reduceAdd,Nat.reduceLeDiff,Nat.reduceMul]
        exact k _ hg2
end Go.Proofs.Ytgncpbkedhchfaa
namespace Go.Proofs.Ytgncpbkedhchfaa
open Go.AM Go.IntWalk
set_option maxRecDepth 100000
set_option maxHeartbeats 4000000
set_option linter.unusedSimpArgs false
variable {H : AH} {R : AV → AH → Prop}
def combs {α : Type} : List α → Nat → List (List α)
  | _, 0 => [[]]
  | [], _ + 1 => []
  | x :: l, r + 1 => (combs l r).map (x :: ·) ++ combs l (r + 1)
theorem combs_mem {α : Type} : ∀ {l : List α} {r : Nat} {s : List α}, s ∈ combs l r → s.length = r ∧ ∀ x ∈ s, x ∈ l
  | _, 0, s, h => by simp only [combs, List.mem_singleton] at h; subst h; simp
  | [], r + 1, s, h => by simp [combs] at h
  | x :: l, r + 1, s, h => by
    simp only [combs, List.mem_append, List.mem_map] at h
    rcases h with ⟨t, ht, rfl⟩ | h
    · obtain ⟨h1, h2⟩ := combs_mem ht
      exact ⟨by simp [h1], fun y hy => by
        rcases List.mem_cons.1 hy with rfl | hy
        · simp
        · simp [h2 y hy]⟩
    · obtain ⟨h1, h2⟩ := combs_mem h
      exact ⟨h1, fun y hy => by simp [h2 y hy]⟩
def bitsOf (c : List Int) : Nat := c.foldl (fun s v => s ||| 2 ^ v.toNat) 0
theorem bitsOf_snoc {c : List Int} {v : Int} : bitsOf (c ++ [v]) = bitsOf c ||| 2 ^ v.toNat := by simp [bitsOf]
theorem snoc_ind {α : Type} {P : List α → Prop} (h0 : P []) (h1 : ∀ l a, P l → P (l ++ [a])) (l : List α) : P l := by
  have : ∀ l : List α, P l.reverse := fun l => by
    induction l with
    | nil => exact h0
    | cons a l ih => rw [List.reverse_cons]; exact h1 _ _ ih
  have := this l.reverse
  rwa [List.reverse_reverse] at this
theorem bitsOf_lt {c : List Int} : (∀ v ∈ c, 0 ≤ v ∧ v < 12) → bitsOf c < 4096 := by
  induction c using snoc_ind with
  | h0 => intro _; decide
  | h1 l a ih =>
    intro h
    rw [bitsOf_snoc]
    have ha := h a (by simp)
    have h2 : 2 ^ a.toNat < 2 ^ 12 := Nat.pow_lt_pow_right (by omega) (by omega)
    exact Nat.or_lt_two_pow (n := 12) (ih fun v hv => h v (by simp [hv])) h2
theorem bitsOf_test {c : List Int} {x : Nat} : (∀ v ∈ c, 0 ≤ v) → (bitsOf c).testBit x = decide ((x : Int) ∈ c) := by
  induction c using snoc_ind with
  | h0 => intro _; simp [bitsOf]
  | h1 l a ih =>
    intro h
    have ha := h a (by simp)
    rw [bitsOf_snoc, Nat.testBit_or, ih fun v hv => h v (by simp [hv]), Nat.testBit_two_pow]
    have : (a.toNat = x) ↔ ((x : Int) = a) := by omega
    simp [this]
theorem lookE_bits {h : House} {c : List Int} (hc : ∀ v ∈ c, 0 ≤ v) : lookE h (bitsOf c) = butE h c := by
  unfold lookE butE
  congr 1
  funext x
  exact bitsOf_test hc
theorem shl_one (v : Int) (h : 0 ≤ v ∧ v < 62) : binA .shl (I 1) (I v) = some (I (2 ^ v.toNat : Nat)) := by
  have h1 : ¬ v < 0 := by omega
  have h2 : min (v.toNat) IntKind.i64.bits = v.toNat := by simp only [IntKind.bits]; omega
  show (if v < 0 then none else some (I (IntKind.i64.wrap (1 * 2 ^ (min v.toNat IntKind.i64.bits))))) = _
  rw [if_neg h1, h2]
  have h3 : (1 : Int) * 2 ^ v.toNat = ((2 ^ v.toNat : Nat) : Int) := by simp
  have h4 : 2 ^ v.toNat < 2 ^ 62 := Nat.pow_lt_pow_right (by omega) (by omega)
  rw [h3]
  generalize 2 ^ v.toNat = y at h4 ⊢
  rw [i64_in _ (by omega)]
theorem or_nat (a b : Nat) (ha : a < 4611686018427387904) (hb : b < 4611686018427387904) : binA .or (I a) (I b) = some (I (a ||| b : Nat)) := by
  show (if IntKind.i64 = IntKind.i64 then some (I (IntKind.i64.wrap (BitVec.ofInt IntKind.i64.bits (a : Int) ||| BitVec.ofInt IntKind.i64.bits (b : Int)).toNat)) else none) = _
  rw [if_pos rfl]
  have hlt : a ||| b < 2 ^ 62 := Nat.or_lt_two_pow (n := 62) ha hb
  have h1 : (BitVec.ofInt IntKind.i64.bits (a : Int) ||| BitVec.ofInt IntKind.i64.bits (b : Int)).toNat = a ||| b := by
    show (BitVec.ofInt 64 (a : Int) ||| BitVec.ofInt 64 (b : Int)).toNat = a ||| b
    rw [show BitVec.ofInt 64 (a : Int) = BitVec.ofNat 64 a from BitVec.ofInt_natCast 64 a, show BitVec.ofInt 64 (b : Int) = BitVec.ofNat 64 b from BitVec.ofInt_natCast 64 b, BitVec.toNat_or, BitVec.toNat_ofNat, BitVec.toNat_ofNat, Nat.mod_eq_of_lt (by omega), Nat.mod_eq_of_lt (by omega)]
  rw [h1, i64_in _ (by omega)]
theorem do_run (bc set : Nat) (v1 v2 : AV) (h : House) (hb : H.get bc = some (.cells false [v1, v2])) (hh : IsHouse (Old H) H v1 v2 h) (hfine : Fine h) (hset : set < 4096)
    (k : ∀ H', Grew H H' → R (.bool (decide (0 < (truthsE (lookE h set)).length))) H') : CallQ prog (.func 80 [] [.ptr bc 0]) [I set] H R := by
  refine CallQ_enter (fn:=c80) rfl (Nat.le_of_ble_eq_true rfl) ?_;simp(maxSteps:=9999999)(disch:=first|omega|(simp only[AN];omega))only[c80,envFrom,hb,↓KP,EK,↓reduceIte,reduceCtorEq,Nat.reduceEqDiff,Nat.reduceAdd,Nat.reduceLeDiff,Nat.reduceMul]
  refine C_call (look_run v1 v2 h set hh fun H1 p m hg hm hheld => ?_)
  simp(maxSteps:=9999999)(disch:=first|omega|(simp only[AN];omega))only[↓KP,EK,↓reduceIte,reduceCtorEq,Nat.reduceEqDiff,Nat.reduceAdd,Nat.reduceLeDiff,Nat.reduceMul]
  refine C_call (some_run hfine hset hheld fun H2 hg2 _ => ?_)
  simp(maxSteps:=9999999)(disch:=first|omega|(simp only[AN];omega))only[↓KP,EK,↓reduceIte,reduceCtorEq,Nat.reduceEqDiff,Nat.reduceAdd,Nat.reduceLeDiff,Nat.reduceMul]
  exact k _ (GrewBut.grew hg hg2 hm)
structure Boxes (Nf bo bm bd bl bn bc : Nat) (vl v1 v2 : AV) (many : Nat) (B : AH) : Prop where
  m : B.get bm = some (.cells false [I many])
  d : B.get bd = some (.cells false [.func 80 [] [.ptr bc 0]])
  l : B.get bl = some (.cells false [vl])
  n : B.get bn = some (.cells false [.func 104 [] [.ptr bo 0, .ptr bm 0, .ptr bd 0, .ptr bl 0, .ptr bn 0]])
  c : B.get bc = some (.cells false [v1, v2])
  lt : bo < Nf ∧ bm < Nf ∧ bd < Nf ∧ bl < Nf ∧ bn < Nf ∧ bc < Nf
  ne : bo ≠ bm ∧ bo ≠ bd ∧ bo ≠ bl ∧ bo ≠ bn ∧ bo ≠ bc
structure InHand (Nf bo : Nat) (c : List Int) (B H : AH) : Prop where
  next : Nf ≤ H.next
  same : ∀ b, b < Nf → b ≠ bo → H.get b = B.get b
  own : ∃ vo, H.get bo = some (.cells false [vo]) ∧ Mine 1 EInt (fun _ => False) Nf H vo c
def doE (h : House) (c : List Int) : Bool := decide (0 < (truthsE (butE h c)).length)
theorem nxt_run {Nf bo bm bd bl bn bc : Nat} {vl v1 v2 : AV} {many : Nat} {B : AH} {h : House} {l : List Int} (hbx : Boxes Nf bo bm bd bl bn bc vl v1 v2 many B) (hfine : Fine h) (hh : IsHouse (fun b => b < Nf ∧ b ≠ bo) B v1 v2 h) (hl : IsInts (fun b => b < Nf ∧ b ≠ bo) B vl l)
    (hlv : ∀ v ∈ l, 0 ≤ v ∧ v < 12) (hll : l.length ≤ 12) (hmany : many ≤ 12) : ∀ (r at_ : Nat) (c : List Int) (H : AH) (R : AV → AH → Prop), c.length + r = many → at_ ≤ l.length → (∀ v ∈ c, 0 ≤ v ∧ v < 12) → InHand Nf bo c B H →
      (∀ H' s, (combs (l.drop at_) r).find? (fun s => doE h (c ++ s)) = some s → H.next ≤ H'.next → InHand Nf bo (c ++ s) B H' → R (.bool true) H') →
      (∀ H', (combs (l.drop at_) r).find? (fun s => doE h (c ++ s)) = none → H.next ≤ H'.next → InHand Nf bo c B H' → R (.bool false) H') →
      CallQ prog (.func 104 [] [.ptr bo 0, .ptr bm 0, .ptr bd 0, .ptr bl 0, .ptr bn 0]) [I at_, I (bitsOf c)] H R := by
  intro r
  have lt := hbx.lt
  have ne := hbx.ne
  induction r with
  | zero =>
    intro at_ c H R hcr hat hcv hi k1 k0
    obtain ⟨vo, e0, hm⟩ := hi.own
    have em : H.get bm = some (.cells false [I many]) := by rw [hi.same _ lt.2.1 (Ne.symm ne.1)]; exact hbx.m
    have ed : H.get bd = some (.cells false [.func 80 [] [.ptr bc 0]]) := by rw [hi.same _ lt.2.2.1 (Ne.symm ne.2.1)]; exact hbx.d
    have ec : H.get bc = some (.cells false [v1, v2]) := by rw [hi.same _ lt.2.2.2.2.2 (Ne.symm ne.2.2.2.2)]; exact hbx.c
    have hlen : (c.length : Int) = many := by omega
    have hN := hi.next
    refine CallQ_enter (fn:=c104) rfl (Nat.le_of_ble_eq_true rfl) ?_;simp(maxSteps:=9999999)(disch:=first|omega|(simp only[AN];omega))only[c104,envFrom,e0,em,ed,hm.len,hlen,↓KP,EK,↓reduceIte,reduceCtorEq,Nat.reduceEqDiff,Nat.reduceAdd,Nat.reduceLeDiff,Nat.reduceMul]
    refine C_call (do_run bc (bitsOf c) v1 v2 h ec (hh.move fun b hb => ⟨by show b < H.next; omega, hi.same b hb.1 hb.2⟩) hfine (bitsOf_lt hcv) fun H1 hg => ?_)
    have hi1 : InHand Nf bo c B H1 := ⟨by have := hg.next; omega, fun b h1 h2 => by rw [hg.get b (by omega), hi.same b h1 h2], vo, by rw [hg.get _ (by omega)]; exact e0, hm.grow EInt.stays hg⟩
    rw [lookE_bits fun v hv => (hcv v hv).1]
    simp(maxSteps:=9999999)(disch:=first|omega|(simp only[AN];omega))only[↓KP,EK,↓reduceIte,reduceCtorEq,Nat.reduceEqDiff,Nat.reduceAdd,Nat.reduceLeDiff,Nat.reduceMul]
    have hf : (combs (l.drop at_) 0).find? (fun s => doE h (c ++ s)) = if doE h c = true then some [] else none := by
      simp only [combs, List.find?_cons, List.find?_nil, List.append_nil]
      cases doE h c <;> rfl
    cases hd : doE h c with
    | true =>
      rw [if_pos hd] at hf
      have := k1 H1 [] hf hg.next (by simpa using hi1)
      unfold doE at hd
      rw [hd]; exact this
    | false =>
      rw [if_neg (by simp [hd])] at hf
      have := k0 H1 hf hg.next hi1
      unfold doE at hd
      rw [hd]; exact this
  | succ r ih =>
    intro at_ c H R hcr hat hcv hi k1 k0
    obtain ⟨vo, e0, hm⟩ := hi.own
    have em : H.get bm = some (.cells false [I many]) := by rw [hi.same _ lt.2.1 (Ne.symm ne.1)]; exact hbx.m
    have hlen : ¬ (c.length : Int) = many := by omega
    refine CallQ_enter (fn:=c104) rfl (Nat.le_of_ble_eq_true rfl) ?_;simp(maxSteps:=9999999)(disch:=first|omega|(simp only[AN];omega))only[c104,envFrom,e0,em,hm.len,hlen,↓KP,EK,↓reduceIte,reduceCtorEq,Nat.reduceEqDiff,Nat.reduceAdd,Nat.reduceLeDiff,Nat.reduceMul]
    refine K_loop (fun mz ez H1 => ∃ (i : Nat) (tail : Env), ez = (0, I at_) :: (1, I (bitsOf c)) :: (2, .ptr bo 0) :: (3, .ptr bm 0) :: (4, .ptr bd 0) :: (5, .ptr bl 0) :: (6, .ptr bn 0) :: (9, .bool false) :: (14, .bool false) :: (10, I i) :: tail ∧ (H.next ≤ H1.next) ∧ (InHand Nf bo c B H1) ∧ (i ≤ l.length) ∧ ((combs (l.drop at_) (r + 1)).find? (fun s => doE h (c ++ s)) = (combs (l.drop i) (r + 1)).find? (fun s => doE h (c ++ s))) ∧ mz = l.length - i) _ ⟨at_, _, rfl, ?_, (by exact hi), ?_, ?_, rfl⟩ ?_
    iterate 3 (focus (first|(with_reducible rfl)|omega|(with_reducible(repeat first|exact Grew.refl _|assumption|apply Grew.alloc|refine Grew.set ?_ _ (by first|omega|(simp only[AN];omega)));done)|(simp(maxSteps:=9999999)(disch:=first|omega|(simp only[AN];omega))only[↓KP,EK,↓reduceIte,reduceCtorEq,Nat.reduceEqDiff,Nat.reduceAdd,Nat.reduceLeDiff,Nat.reduceMul]<;>first|omega|rfl)|(simp;done)|rfl))
    rintro mz ez H1 ⟨i, tail, rfl, hn1, hi1, hil, hfi, hmz⟩; subst mz
    obtain ⟨vo, e0, hm⟩ := hi1.own
    have hN := hi1.next
    have el : H1.get bl = some (.cells false [vl]) := by rw [hi1.same _ lt.2.2.2.1 (Ne.symm ne.2.2.1)]; exact hbx.l
    have en : H1.get bn = some (.cells false [.func 104 [] [.ptr bo 0, .ptr bm 0, .ptr bd 0, .ptr bl 0, .ptr bn 0]]) := by rw [hi1.same _ lt.2.2.2.2.1 (Ne.symm ne.2.2.2.1)]; exact hbx.n
    have hl1 : IsInts (Old H1) H1 vl l := hl.move EInt.stays fun b hb => ⟨by show b < H1.next; omega, hi1.same b hb.1 hb.2⟩
    simp(maxSteps:=9999999)(disch:=first|omega|(simp only[AN];omega))only[el,hl1.len,↓KP,EK,↓reduceIte,reduceCtorEq,Nat.reduceEqDiff,Nat.reduceAdd,Nat.reduceLeDiff,Nat.reduceMul]
    refine C_decide (fun hc => ?_) (fun hc => ?_)
    · have hi' : i < l.length := by omega
      obtain ⟨qb, qi, qro, qvs, qx, ⟨qlt, qne⟩, qy, qz⟩ := IsInts.at_ hl hi'
      have q : (∀ S, opIdxSl 1 vl (.int .i64 (i : Int)) S = some (.ptr qb qi, S)) ∧ H1.get qb = some (.cells qro qvs) ∧ qvs[qi]? = some (I l[i]) := ⟨qx, (hi1.same _ qlt qne).trans qy, qz⟩
      have hv := hlv _ (List.getElem_mem hi')
      obtain ⟨vb, H2, b1, b2, b3, b4⟩ := hm.push (bytes := 8) (cs := [I l[i]]) (a := l[i]) (F := fun _ => False) EInt.stays hN rfl (fun _ h => h.elim) rfl rfl (by omega)
      have e1 : IntKind.i64.wrap ((i : Int) + 1) = ((i + 1 : Nat) : Int) := i64_in _ (by omega)
      have s1 := shl_one l[i] (by omega)
      have hbl := bitsOf_lt hcv
      have hpl : 2 ^ l[i].toNat < 4096 := by
        have : 2 ^ l[i].toNat < 2 ^ 12 := Nat.pow_lt_pow_right (by omega) (by omega)
        omega
      have s2 := or_nat (bitsOf c) (2 ^ l[i].toNat) (by omega) (by omega)
      rw [← bitsOf_snoc] at s2
      simp(maxSteps:=9999999)(disch:=first|omega|(simp only[AN];omega))only[↓KP,EK,↓reduceIte,reduceCtorEq,Nat.reduceEqDiff,Nat.reduceAdd,Nat.reduceLeDiff,Nat.reduceMul]
      refine K_draw ?_;simp(maxSteps:=9999999)(disch:=first|omega|(simp only[AN];omega))only[e0,el,q,b1,b2.cells?,b2.isCell,b4,↓KP,EK,↓reduceIte,reduceCtorEq,Nat.reduceEqDiff,Nat.reduceAdd,Nat.reduceLeDiff,Nat.reduceMul]
      have hi3 : InHand Nf bo (c ++ [l[i]]) B (H2.set bo (.cells false [vb])) := ⟨by show Nf ≤ H2.next; omega, fun b h1 h2 => by rw [get_set_other h2, b4 b h1, hi1.same b h1 h2], vb, get_set_same _ _ _, b2.move EInt.stays (fun k hk hk' => get_set_other (by rcases hk' with h | h; exact h.elim; omega)) (Nat.le_refl _)⟩
      have hsplit : (combs (l.drop i) (r + 1)).find? (fun s => doE h (c ++ s)) = (((combs (l.drop (i + 1)) r).find? (fun s => doE h (c ++ [l[i]] ++ s))).map (l[i] :: ·)).or ((combs (l.drop (i + 1)) (r + 1)).find? (fun s => doE h (c ++ s))) := by
        rw [List.drop_eq_getElem_cons hi', combs, List.find?_append, List.find?_map]
        simp only [Function.comp_def, List.append_assoc, List.singleton_append]
      refine K_draw ?_;simp(maxSteps:=9999999)(disch:=first|omega|(simp only[AN];omega))only[en,b4,el,q,e1,s1,s2,↓KP,EK,↓reduceIte,reduceCtorEq,Nat.reduceEqDiff,Nat.reduceAdd,Nat.reduceLeDiff,Nat.reduceMul]
      refine C_calld (ih (i + 1) (c ++ [l[i]]) _ _ (by simp; omega) (by omega) (fun v hv' => ?_) hi3 (fun H4 s hs hn4 hi4 => ?_) (fun H4 hs hn4 hi4 => ?_))
      · rcases List.mem_append.1 hv' with h | h
        · exact hcv v h
        · simp only [List.mem_singleton] at h; subst h; exact hv
      · have hn4' : H2.next ≤ H4.next := hn4
        simp(maxSteps:=9999999)(disch:=first|omega|(simp only[AN];omega))only[↓KP,EK,↓reduceIte,reduceCtorEq,Nat.reduceEqDiff,Nat.reduceAdd,Nat.reduceLeDiff,Nat.reduceMul]
        refine k1 _ (l[i] :: s) ?_ (by omega) ?_
        · rw [hfi, hsplit, hs]; rfl
        · simpa using hi4
      · have hn4' : H2.next ≤ H4.next := hn4
        obtain ⟨v4, f0, f1⟩ := hi4.own
        obtain ⟨v5, g1, g2⟩ := f1.front (n := (c.length : Int)) (k := c.length) rfl (by simp)
        have e5 : IntKind.i64.wrap (((c ++ [l[i]]).length : Int) - 1) = (c.length : Int) := by rw [i64_in _ (by simp; omega)]; simp
        rw [List.take_left] at g2
        simp(maxSteps:=9999999)(disch:=first|omega|(simp only[AN];omega))only[f0,f1.len,e5,g1,g2.cells?,g2.isCell,e1,↓KP,EK,↓reduceIte,reduceCtorEq,Nat.reduceEqDiff,Nat.reduceAdd,Nat.reduceLeDiff,Nat.reduceMul]
        have hi5 : InHand Nf bo c B (H4.set bo (.cells false [v5])) := ⟨hi4.next, fun b h1 h2 => by rw [get_set_other h2, hi4.same b h1 h2], v5, get_set_same _ _ _, g2.move EInt.stays (fun k hk hk' => get_set_other (by rcases hk' with h | h; exact h.elim; omega)) (Nat.le_refl _)⟩
        refine ⟨_, ?_, i + 1, _, rfl, ?_, (by exact hi5), ?_, (by rw [hfi, hsplit, hs]; rfl), rfl⟩ <;> (first|omega|(with_reducible assumption)|(with_reducible(repeat first|exact Grew.refl _|assumption|apply Grew.alloc|refine Grew.set ?_ _ (by first|omega|(simp only[AN];omega)));done)|(simp(maxSteps:=9999999)(disch:=first|omega|(simp only[AN];omega))only[↓KP,EK,↓reduceIte,reduceCtorEq,Nat.reduceEqDiff,Nat.reduceAdd,Nat.reduceLeDiff,Nat.reduceMul]<;>first|omega|rfl))
    · have hie : i = l.length := by omega
      subst hie
      have hnone : (combs (l.drop l.length) (r + 1)).find? (fun s => doE h (c ++ s)) = none := by
        rw [List.drop_length]; rfl
      simp(maxSteps:=9999999)(disch:=first|omega|(simp only[AN];omega))only[↓KP,EK,↓reduceIte,reduceCtorEq,Nat.reduceEqDiff,Nat.reduceAdd,Nat.reduceLeDiff,Nat.reduceMul]
      exact k0 _ (hfi.trans hnone) hn1 hi1
theorem first_run (bc many : Nat) (vl v1 v2 : AV) (h : House) (l : List Int) (hb : H.get bc = some (.cells false [v1, v2])) (hbl : bc < H.next) (hh : IsHouse (Old H) H v1 v2 h) (hl : IsInts (Old H) H vl l) (hfine : Fine h)
    (hlv : ∀ v ∈ l, 0 ≤ v ∧ v < 12) (hll : l.length ≤ 12) (hmany : many ≤ 12)
    (k1 : ∀ H' v s, many ≠ 0 → (combs l many).find? (doE h) = some s → Grew H H' → v ≠ .nilslice → IsInts (Old H') H' v s → R v H') (k0 : (many = 0 ∨ (combs l many).find? (doE h) = none) → ∀ H', Grew H H' → R .nilslice H') :
    CallQ prog (.func 79 [] []) [vl, I many, .func 80 [] [.ptr bc 0]] H R := by
  have hg0 : ∀ o1 o2 o3 o4 o5 o6, Grew H ((((((H.alloc o1).alloc o2).alloc o3).alloc o4).alloc o5).set (H.next + 4) o6) := fun o1 o2 o3 o4 o5 o6 => GW
  by_cases hm : (many : Int) = 0
  · refine CallQ_enter (fn:=c79) rfl (Nat.le_of_ble_eq_true rfl) ?_;simp(maxSteps:=9999999)(disch:=first|omega|(simp only[AN];omega))only[c79,envFrom,hm,hl.cells?,hl.isCell,opBox,↓KP,EK,↓reduceIte,reduceCtorEq,Nat.reduceEqDiff,Nat.reduceAdd,Nat.reduceLeDiff,Nat.reduceMul]
    exact k0 (.inl (by omega)) _ (hg0 _ _ _ _ _ _)
  · refine CallQ_enter (fn:=c79) rfl (Nat.le_of_ble_eq_true rfl) ?_;simp(maxSteps:=9999999)(disch:=first|omega|(simp only[AN];omega))only[c79,envFrom,hm,hl.cells?,hl.isCell,opBox,↓KP,EK,↓reduceIte,reduceCtorEq,Nat.reduceEqDiff,Nat.reduceAdd,Nat.reduceLeDiff,Nat.reduceMul]
    have hg := hg0 (.cells false [vl]) (.cells false [I many]) (.cells false [.func 80 [] [.ptr bc 0]]) (.cells false [.nilslice]) (.cells false [.nilfunc]) (.cells false [.func 104 [] [.ptr (H.next + 1 + 1 + 1) 0, .ptr (H.next + 1) 0, .ptr (H.next + 1 + 1) 0, .ptr H.next 0, .ptr (H.next + 1 + 1 + 1 + 1) 0]])
    generalize hB : (((((H.alloc (.cells false [vl])).alloc (.cells false [I many])).alloc (.cells false [.func 80 [] [.ptr bc 0]])).alloc (.cells false [.nilslice])).alloc (.cells false [.nilfunc])).set (H.next + 4) (.cells false [.func 104 [] [.ptr (H.next + 1 + 1 + 1) 0, .ptr (H.next + 1) 0, .ptr (H.next + 1 + 1) 0, .ptr H.next 0, .ptr (H.next + 1 + 1 + 1 + 1) 0]]) = B at hg
    have hBn : B.next = H.next + 5 := by rw [← hB]; rfl
    have hbx : Boxes (H.next + 5) (H.next + 1 + 1 + 1) (H.next + 1) (H.next + 1 + 1) H.next (H.next + 1 + 1 + 1 + 1) bc vl v1 v2 many B :=
      ⟨by rw [← hB]; simp(maxSteps:=9999999)(disch:=first|omega|(simp only[AN];omega))only[↓KP,EK,↓reduceIte,reduceCtorEq,Nat.reduceEqDiff,Nat.reduceAdd,Nat.reduceLeDiff,Nat.reduceMul], by rw [← hB]; simp(maxSteps:=9999999)(disch:=first|omega|(simp only[AN];omega))only[↓KP,EK,↓reduceIte,reduceCtorEq,Nat.reduceEqDiff,Nat.reduceAdd,Nat.reduceLeDiff,Nat.reduceMul], by rw [← hB]; simp(maxSteps:=9999999)(disch:=first|omega|(simp only[AN];omega))only[↓KP,EK,↓reduceIte,reduceCtorEq,Nat.reduceEqDiff,Nat.reduceAdd,Nat.reduceLeDiff,Nat.reduceMul], by rw [← hB]; simp(maxSteps:=9999999)(disch:=first|omega|(simp only[AN];omega))only[↓KP,EK,↓reduceIte,reduceCtorEq,Nat.reduceEqDiff,Nat.reduceAdd,Nat.reduceLeDiff,Nat.reduceMul], by rw [hg.get _ hbl]; exact hb, by omega, by omega⟩
    have hi0 : InHand (H.next + 5) (H.next + 1 + 1 + 1) [] B B := ⟨by omega, fun _ _ _ => rfl, .nilslice, by rw [← hB]; simp(maxSteps:=9999999)(disch:=first|omega|(simp only[AN];omega))only[↓KP,EK,↓reduceIte,reduceCtorEq,Nat.reduceEqDiff,Nat.reduceAdd,Nat.reduceLeDiff,Nat.reduceMul], Mine.nil⟩
    have hmove : ∀ b, b < H.next → (b < H.next + 5 ∧ b ≠ H.next + 1 + 1 + 1) ∧ B.get b = H.get b := fun b hb => ⟨by omega, hg.get b hb⟩
    refine C_call (nxt_run hbx hfine (hh.move hmove) (hl.move EInt.stays hmove) hlv hll hmany many 0 [] B _ (by simp) (by omega) (by simp) hi0 (fun H1 s hs hn1 hi1 => ?_) (fun H1 hs hn1 hi1 => ?_))
    · obtain ⟨vo, e0, hm1⟩ := hi1.own
      have hsl := (combs_mem (List.mem_of_find?_eq_some hs)).1
      simp(maxSteps:=9999999)(disch:=first|omega|(simp only[AN];omega))only[e0,↓KP,EK,↓reduceIte,reduceCtorEq,Nat.reduceEqDiff,Nat.reduceAdd,Nat.reduceLeDiff,Nat.reduceMul]
      refine k1 H1 vo s (by omega) (by simpa using hs) ⟨by omega, fun b hb => by rw [hi1.same b (by omega) (by omega), hg.get b hb]⟩ (fun e => ?_) (by simpa using hm1.sl EInt.stays)
      subst e
      have := hm1.len H1
      simp only [List.nil_append] at this
      have h0 : opLen false .nilslice H1 = some (.int .i64 0, H1) := rfl
      rw [h0] at this
      simp only [Option.some.injEq, Prod.mk.injEq, AV.int.injEq, true_and, and_true] at this
      omega
    · simp(maxSteps:=9999999)(disch:=first|omega|(simp only[AN];omega))only[↓KP,EK,↓reduceIte,reduceCtorEq,Nat.reduceEqDiff,Nat.reduceAdd,Nat.reduceLeDiff,Nat.reduceMul]
      exact k0 (.inr (by simpa using hs)) _ ⟨by omega, fun b hb => by rw [hi1.same b (by omega) (by omega), hg.get b hb]⟩
end Go.Proofs.Ytgncpbkedhchfaa
namespace Go.Proofs.Ytgncpbkedhchfaa
open Go.AM Go.IntWalk
set_option maxRecDepth 100000
set_option maxHeartbeats 4000000
set_option linter.unusedSimpArgs false
variable {H : AH} {R : AV → AH → Prop}
theorem repeatL_length (n : Nat) : (repeatL [I 0] n).length = n := by
  induction n with
  | zero => rfl
  | succ n ih => simp [repeatL, ih]
theorem write_all : ∀ (vs xs : List AV), vs.length = xs.length → writeN vs 0 xs = some xs
  | [], [], _ => rfl
  | v :: vs, x :: xs, h => by
    simp only [writeN, write_all vs xs (by simpa using h), Option.map_some]
  | [], _ :: _, h => by simp at h
  | _ :: _, [], h => by simp at h
theorem rows_ints : ∀ {cells : List AV} {l : List Int} {F : Nat → Prop} {H : AH}, Go.AM.Rows 1 (EInt F H) cells l → cells = l.map I
  | _, _, _, _, .nil => rfl
  | _, _, _, _, .cons hz h t => by rw [h, rows_ints t]; rfl
theorem ints_rows {F : Nat → Prop} {H : AH} : ∀ (l : List Int), Go.AM.Rows 1 (EInt F H) (l.map I) l
  | [] => .nil
  | x :: l => .cons (cs := [I x]) rfl rfl (ints_rows l)
theorem make_copy {S : AH} {v : AV} {l : List Int} (hv : IsInts (Old S) S v l) (hl : l.length ≤ 1000) :
    opMakeSlice 1 8 [I 0] (I l.length) (I l.length) S = some (.slice S.next 0 l.length 1, S.alloc (.cells false (repeatL [I 0] l.length))) ∧
    copyA (S.alloc (.cells false (repeatL [I 0] l.length))) 1 (.slice S.next 0 l.length 1) v = some (I l.length, (S.alloc (.cells false (repeatL [I 0] l.length))).set S.next (.cells false (l.map I))) ∧
    IsInts (Old ((S.alloc (.cells false (repeatL [I 0] l.length))).set S.next (.cells false (l.map I)))) ((S.alloc (.cells false (repeatL [I 0] l.length))).set S.next (.cells false (l.map I))) (.slice S.next 0 l.length 1) l := by
  refine ⟨?_, ?_, ?_⟩
  · have h1 : l.length ≤ roomA ∧ 8 * l.length ≤ roomA := by unfold roomA; omega
    simp [opMakeSlice, natOf, h1]
  · obtain ⟨cells, h1, h2⟩ := (hv.grow EInt.stays ((Grew.refl S).alloc (.cells false (repeatL [I 0] l.length)))).src
    have h3 := rows_ints h2
    subst h3
    have hc : (l.map I).all AV.isCell = true := by simp [I, AV.isCell]
    have h4 : AM.lenA (.slice S.next 0 l.length 1) = some l.length := rfl
    simp only [copyA, hv.lenA, h4, Nat.min_self, copyN, h1, AH.write, get_alloc_new, write_all _ _ (show (repeatL [I 0] l.length).length = (l.map I).length by rw [repeatL_length, List.length_map]), hc, if_true]
  · refine .inr ⟨S.next, 0, l.map I, rfl, (by show S.next < S.next + 1; omega), ?_, ints_rows l⟩
    unfold AH.read
    rw [get_set_same]
    simp only [readN, Nat.zero_add, List.length_map, Nat.mul_one, Nat.le_refl, if_true, List.drop_zero]
    rw [List.take_of_length_le (by simp)]
theorem countsE_in {h : House} (hf : Fine h) : ∀ v ∈ countsE h, 0 ≤ v ∧ v < 12 := by
  intro v hv
  simp only [countsE, countsTo, cntRow, List.mem_flatMap, List.mem_range, List.mem_filterMap] at hv
  obtain ⟨d, hd, w, hw, hh⟩ := hv
  split at hh
  · simp only [Option.some.injEq] at hh
    have h3 := hf.ws
    have h4 := hf.days
    have h5 : (d : Int) * h.ws.length ≤ 3 * h.ws.length := Int.mul_le_mul_of_nonneg_right (by omega) (by omega)
    have h6 : 0 ≤ (d : Int) * h.ws.length := Int.mul_nonneg (by omega) (by omega)
    omega
  · cases hh
def pWrongList (h : House) : List Int := (((List.range ((countsE h).length + 1)).flatMap (combs (countsE h))).find? (doE h)).getD (countsE h)
theorem Wrong_run' (v1 v2 : AV) (h : House) (hh : IsHouse (Old H) H v1 v2 h)
    (k : ∀ H' v, Grew H H' → IsInts (Old H') H' v (if errE h ≠ 0 then [] else pWrongList h) → R (.tuple [v, I (errE h)]) H') : CallQ prog (.func 29 [] []) [.agg [v1, v2]] H R := by
  refine CallQ_enter (fn:=c29) rfl (Nat.le_of_ble_eq_true rfl) ?_;simp(maxSteps:=9999999)(disch:=first|omega|(simp only[AN];omega))only[c29,envFrom,↓KP,EK,↓reduceIte,reduceCtorEq,Nat.reduceEqDiff,Nat.reduceAdd,Nat.reduceLeDiff,Nat.reduceMul]
  refine C_call (Check_run v1 v2 h (hh.grow GW) fun H1 hg1 => ?_)
  have hg1' : Grew H H1 := ((Grew.refl H).alloc _).trans hg1
  have hg1n := hg1.next; simp only [AH.next_alloc] at hg1n
  have hbox1 : H1.get H.next = some (.cells false [v1, v2]) := by simp(maxSteps:=9999999)(disch:=first|omega|(simp only[AN];omega))only[hg1.get,↓KP,EK,↓reduceIte,reduceCtorEq,Nat.reduceEqDiff,Nat.reduceAdd,Nat.reduceLeDiff,Nat.reduceMul]
  by_cases he : (checkE h).2.2 = 0
  · have he' : errE h = 0 := he
    have hfine := fine_of he'
    rw [if_neg (by omega), he'] at k
    have hd4 := hfine.days
    have hw3 := hfine.ws
    simp(maxSteps:=9999999)(disch:=first|omega|(simp only[AN];omega))only[he,hbox1,hh.2.len,↓KP,EK,↓reduceIte,reduceCtorEq,Nat.reduceEqDiff,Nat.reduceAdd,Nat.reduceLeDiff,Nat.reduceMul]
    refine K_loop (fun mz ez H2 => ∃ (d : Nat) (v4 : AV) (tail : Env), ez = (0, .agg [v1, v2]) :: (1, .ptr H.next 0) :: (2, .nilslice) :: (3, I 0) :: (19, .bool false) :: (4, v4) :: (22, v2) :: (23, I h.days.length) :: (24, I d) :: tail ∧ (Grew H1 H2) ∧ (Mine 1 EInt (fun _ => False) H1.next H2 v4 (countsTo h d)) ∧ (d ≤ h.days.length) ∧ mz = h.days.length - d) _ ⟨0, .nilslice, _, rfl, ?_, (by exact Mine.nil), ?_, rfl⟩ ?_
    iterate 2 (focus (first|(with_reducible rfl)|omega|(with_reducible(repeat first|exact Grew.refl _|assumption|apply Grew.alloc|refine Grew.set ?_ _ (by first|omega|(simp only[AN];omega)));done)|(simp(maxSteps:=9999999)(disch:=first|omega|(simp only[AN];omega))only[↓KP,EK,↓reduceIte,reduceCtorEq,Nat.reduceEqDiff,Nat.reduceAdd,Nat.reduceLeDiff,Nat.reduceMul]<;>first|omega|rfl)|(simp;done)|rfl))
    rintro mz ez H2 ⟨d, v4, tail, rfl, hG, hv4, hd, hmz⟩; subst mz; have hGn := hG.next
    have hg2' := hg1'.trans hG
    simp(maxSteps:=9999999)(disch:=first|omega|(simp only[AN];omega))only[↓KP,EK,↓reduceIte,reduceCtorEq,Nat.reduceEqDiff,Nat.reduceAdd,Nat.reduceLeDiff,Nat.reduceMul]
    refine C_decide (fun hc => ?_) (fun hc => ?_)
    · have hd' : d < h.days.length := by omega
      have hlen := hfine.len _ (List.getElem_mem hd')
      have hgd : h.days.getD d [] = h.days[d] := getD_eq hd'
      have hcl := countsTo_length hfine d
      obtain ⟨p_b, p_i, p_ro, p_vs, vo, p_lt, hvo, p⟩ := hh.2.rdSl rfl hd'
      simp(maxSteps:=9999999)(disch:=first|omega|(simp only[AN];omega))only[hG.get,hg1.get,p,hvo.len,↓KP,EK,↓reduceIte,reduceCtorEq,Nat.reduceEqDiff,Nat.reduceAdd,Nat.reduceLeDiff,Nat.reduceMul]
      refine K_loop (fun mz ez H3 => ∃ (w : Nat) (v4 : AV) (tail : Env), ez = (0, .agg [v1, v2]) :: (1, .ptr H.next 0) :: (2, .nilslice) :: (3, I 0) :: (19, .bool false) :: (4, v4) :: (22, v2) :: (23, I h.days.length) :: (24, I d) :: tail ∧ (tail.get 5 = some (I d)) ∧ (tail.get 29 = some vo) ∧ (tail.get 30 = some (I h.days[d].length)) ∧ (tail.get 31 = some (I w)) ∧ (Grew H1 H3) ∧ (Mine 1 EInt (fun _ => False) H1.next H3 v4 (countsTo h d ++ cntRow h d w)) ∧ (w ≤ h.ws.length) ∧ mz = h.ws.length - w) _ ⟨0, v4, _, rfl, ?_, ?_, ?_, ?_, ?_, (by simpa [cntRow] using hv4), ?_, rfl⟩ ?_
      iterate 6 (focus (first|(with_reducible rfl)|omega|(with_reducible(repeat first|exact Grew.refl _|assumption|apply Grew.alloc|refine Grew.set ?_ _ (by first|omega|(simp only[AN];omega)));done)|(simp(maxSteps:=9999999)(disch:=first|omega|(simp only[AN];omega))only[↓KP,EK,↓reduceIte,reduceCtorEq,Nat.reduceEqDiff,Nat.reduceAdd,Nat.reduceLeDiff,Nat.reduceMul]<;>first|omega|rfl)|(simp;done)|rfl))
      rintro mz ez H3 ⟨w, v4, tail, rfl, t5, t29, t30, t31, hG3, hv4, hw, hmz⟩; subst mz; have hG3n := hG3.next
      simp(maxSteps:=9999999)(disch:=first|omega|(simp only[AN];omega))only[t30,t31,hlen,↓KP,EK,↓reduceIte,reduceCtorEq,Nat.reduceEqDiff,Nat.reduceAdd,Nat.reduceLeDiff,Nat.reduceMul]
      refine C_decide (fun hc2 => ?_) (fun hc2 => ?_)
      · have hw' : w < h.ws.length := by omega
        obtain ⟨q_b, q_i, q_ro, q_vs, q_lt, q⟩ := hvo.rdInt (k := w) rfl (by omega)
        have hgi : getI (h.days.getD d []) w = h.days[d][w] := by rw [hgd, getI_eq]
        have hrl := cntRow_length (h := h) (d := d) (m := w)
        have e1 : IntKind.i64.wrap ((w : Int) + 1) = ((w + 1 : Nat) : Int) := i64_in _ (by omega)
        have hmul : (d : Int) * h.ws.length ≤ 4 * 3 := Int.mul_le_mul (by omega) (by omega) (by omega) (by omega)
        have hmul0 : 0 ≤ (d : Int) * h.ws.length := Int.mul_nonneg (by omega) (by omega)
        have e2 : IntKind.i64.wrap ((d : Int) * h.ws.length) = (d : Int) * h.ws.length := i64_in _ (by omega)
        have e3 : IntKind.i64.wrap ((d : Int) * h.ws.length + w) = (d : Int) * h.ws.length + w := i64_in _ (by omega)
        by_cases hn : h.days[d][w] = -1
        · simp(maxSteps:=9999999)(disch:=first|omega|(simp only[AN];omega))only[t5,t29,t31,hG3.get,hg1.get,q,hn,e1,↓KP,EK,↓reduceIte,reduceCtorEq,Nat.reduceEqDiff,Nat.reduceAdd,Nat.reduceLeDiff,Nat.reduceMul]
          refine ⟨_, ?_, w + 1, v4, _, rfl, ?_, ?_, ?_, ?_, ?_, (by rw [cntRow_succ, hgi, hn]; simpa using hv4), ?_, rfl⟩ <;> (first|omega|(with_reducible assumption)|(with_reducible(repeat first|exact Grew.refl _|assumption|apply Grew.alloc|refine Grew.set ?_ _ (by first|omega|(simp only[AN];omega)));done)|(simp(maxSteps:=9999999)(disch:=first|omega|(simp only[AN];omega))only[t5,t29,t30,t31,hlen,↓KP,EK,↓reduceIte,reduceCtorEq,Nat.reduceEqDiff,Nat.reduceAdd,Nat.reduceLeDiff,Nat.reduceMul]<;>first|omega|rfl))
        · obtain ⟨vb, H5, b1, b2, b3, b4⟩ := hv4.push (bytes := 8) (cs := [I ((d : Int) * h.ws.length + w)]) (a := (d : Int) * h.ws.length + w) (F := fun _ => False) EInt.stays (by omega) rfl (fun _ h => h.elim) rfl rfl (by simp only [List.length_append]; omega)
          simp(maxSteps:=9999999)(disch:=first|omega|(simp only[AN];omega))only[t5,t29,t31,hG3.get,hg1.get,q,hn,e1,e2,e3,hh.1.len,b1,↓KP,EK,↓reduceIte,reduceCtorEq,Nat.reduceEqDiff,Nat.reduceAdd,Nat.reduceLeDiff,Nat.reduceMul]
          refine ⟨_, ?_, w + 1, vb, _, rfl, ?_, ?_, ?_, ?_, (by exact ⟨by omega, fun b hb => by simp(maxSteps:=9999999)(disch:=first|omega|(simp only[AN];omega))only[b4,hG3.get,↓KP,EK,↓reduceIte,reduceCtorEq,Nat.reduceEqDiff,Nat.reduceAdd,Nat.reduceLeDiff,Nat.reduceMul]⟩), (by rw [cntRow_succ, hgi, if_pos hn, ← List.append_assoc]; exact b2), ?_, rfl⟩ <;> (first|omega|(with_reducible assumption)|(with_reducible(repeat first|exact Grew.refl _|assumption|apply Grew.alloc|refine Grew.set ?_ _ (by first|omega|(simp only[AN];omega)));done)|(simp(maxSteps:=9999999)(disch:=first|omega|(simp only[AN];omega))only[t5,t29,t30,t31,hlen,↓KP,EK,↓reduceIte,reduceCtorEq,Nat.reduceEqDiff,Nat.reduceAdd,Nat.reduceLeDiff,Nat.reduceMul]<;>first|omega|rfl))
      · have e1 : IntKind.i64.wrap ((d : Int) + 1) = ((d + 1 : Nat) : Int) := i64_in _ (by omega)
        have hwe : w = h.ws.length := by omega
        subst hwe
        simp(maxSteps:=9999999)(disch:=first|omega|(simp only[AN];omega))only[e1,↓KP,EK,↓reduceIte,reduceCtorEq,Nat.reduceEqDiff,Nat.reduceAdd,Nat.reduceLeDiff,Nat.reduceMul]
        refine ⟨_, ?_, d + 1, v4, _, rfl, (by exact hG3), (by rw [countsTo_succ]; exact hv4), ?_, rfl⟩ <;> (first|omega|(with_reducible assumption)|(with_reducible(repeat first|exact Grew.refl _|assumption|apply Grew.alloc|refine Grew.set ?_ _ (by first|omega|(simp only[AN];omega)));done)|(simp(maxSteps:=9999999)(disch:=first|omega|(simp only[AN];omega))only[↓KP,EK,↓reduceIte,reduceCtorEq,Nat.reduceEqDiff,Nat.reduceAdd,Nat.reduceLeDiff,Nat.reduceMul]<;>first|omega|rfl))
    · have hde : d = h.days.length := by omega
      subst hde
      have hcl := countsE_length hfine
      obtain ⟨m1, m2, m3⟩ := make_copy (hv4.sl EInt.stays) (show (countsTo h h.days.length).length ≤ 1000 by have : (countsE h).length = (countsTo h h.days.length).length := rfl; omega)
      rw [show countsTo h h.days.length = countsE h from rfl] at m1 m2 m3
      have hv4l := hv4.len
      rw [show countsTo h h.days.length = countsE h from rfl] at hv4l
      have hin := countsE_in hfine
      have e0 : IntKind.i64.wrap (((countsE h).length : Int) + 1) = (((countsE h).length + 1 : Nat) : Int) := i64_in _ (by omega)
      have hg3 : Grew H ((H2.alloc (.cells false (repeatL [I 0] (countsE h).length))).set H2.next (.cells false ((countsE h).map I))) := GW
      have hbox3 : ((H2.alloc (.cells false (repeatL [I 0] (countsE h).length))).set H2.next (.cells false ((countsE h).map I))).get H.next = some (.cells false [v1, v2]) := by simp(maxSteps:=9999999)(disch:=first|omega|(simp only[AN];omega))only[hG.get,hg1.get,↓KP,EK,↓reduceIte,reduceCtorEq,Nat.reduceEqDiff,Nat.reduceAdd,Nat.reduceLeDiff,Nat.reduceMul]
      have hn3 : ((H2.alloc (.cells false (repeatL [I 0] (countsE h).length))).set H2.next (.cells false ((countsE h).map I))).next = H2.next + 1 := rfl
      simp(maxSteps:=9999999)(disch:=first|omega|(simp only[AN];omega))only[hv4l,m1,m2,e0,m3.len,↓KP,EK,↓reduceIte,reduceCtorEq,Nat.reduceEqDiff,Nat.reduceAdd,Nat.reduceLeDiff,Nat.reduceMul]
      generalize (H2.alloc (.cells false (repeatL [I 0] (countsE h).length))).set H2.next (.cells false ((countsE h).map I)) = H3 at m3 hg3 hbox3 hn3
      have hfind : ∀ (m : Nat) (s : List Int), m < (countsE h).length + 1 → (∀ x ∈ (List.range m).flatMap (combs (countsE h)), doE h x = false) → (combs (countsE h) m).find? (doE h) = some s → pWrongList h = s := fun m s hm hno hs => by
        obtain ⟨_, as, bs, e1, e2⟩ := List.find?_eq_some_iff_append.1 hs
        have hi : as.length < (combs (countsE h) m).length := by rw [e1]; simp
        have := find_here (f := combs (countsE h)) (p := doE h) (i := as.length) hm hi hno (by rw [e1, List.take_left]; intro x hx; simpa using e2 x hx) (by simp only [e1, List.getElem_append_right (Nat.le_refl _), Nat.sub_self, List.getElem_cons_zero]; exact List.find?_some hs)
        rw [pWrongList, this]
        simp only [e1, List.getElem_append_right (Nat.le_refl _), Nat.sub_self, List.getElem_cons_zero, Option.getD_some]
      have hnil : butE h [] = h := by rw [← lookE_bits (by simp)]; exact lookE_zero h
      refine K_loop (fun mz ez H4 => ∃ (m : Nat) (tail : Env), ez = (0, .agg [v1, v2]) :: (1, .ptr H.next 0) :: (2, .nilslice) :: (3, I 0) :: (19, .bool false) :: (4, v4) :: (22, v2) :: (23, I h.days.length) :: (24, I h.days.length) :: tail ∧ (tail.get 9 = some (.slice H2.next 0 (countsE h).length 1)) ∧ (tail.get 58 = some (I ((countsE h).length + 1 : Nat))) ∧ (tail.get 59 = some (I m)) ∧ (Grew H3 H4) ∧ (m ≤ (countsE h).length + 1) ∧ (∀ x ∈ (List.range m).flatMap (combs (countsE h)), doE h x = false) ∧ mz = (countsE h).length + 1 - m) _ ⟨0, _, rfl, ?_, ?_, ?_, ?_, ?_, (by simp), rfl⟩ ?_
      iterate 5 (focus (first|(with_reducible rfl)|omega|(with_reducible(repeat first|exact Grew.refl _|assumption|apply Grew.alloc|refine Grew.set ?_ _ (by first|omega|(simp only[AN];omega)));done)|(simp(maxSteps:=9999999)(disch:=first|omega|(simp only[AN];omega))only[↓KP,EK,↓reduceIte,reduceCtorEq,Nat.reduceEqDiff,Nat.reduceAdd,Nat.reduceLeDiff,Nat.reduceMul]<;>first|omega|rfl)|(simp;done)|rfl))
      rintro mz ez H4 ⟨m, tail, rfl, t9, t58, t59, hG4, hm, hno, hmz⟩; subst mz; have hG4n := hG4.next
      have hg4 := hg3.trans hG4
      have hbox4 : H4.get H.next = some (.cells false [v1, v2]) := by simp(maxSteps:=9999999)(disch:=first|omega|(simp only[AN];omega))only[hG4.get,hbox3,↓KP,EK,↓reduceIte,reduceCtorEq,Nat.reduceEqDiff,Nat.reduceAdd,Nat.reduceLeDiff,Nat.reduceMul]
      have e1 : IntKind.i64.wrap ((m : Int) + 1) = ((m + 1 : Nat) : Int) := i64_in _ (by omega)
      simp(maxSteps:=9999999)(disch:=first|omega|(simp only[AN];omega))only[t58,t59,↓KP,EK,↓reduceIte,reduceCtorEq,Nat.reduceEqDiff,Nat.reduceAdd,Nat.reduceLeDiff,Nat.reduceMul]
      refine C_decide (fun hc3 => ?_) (fun hc3 => ?_)
      · simp(maxSteps:=9999999)(disch:=first|omega|(simp only[AN];omega))only[t9,t59,↓KP,EK,↓reduceIte,reduceCtorEq,Nat.reduceEqDiff,Nat.reduceAdd,Nat.reduceLeDiff,Nat.reduceMul]
        refine C_call (first_run H.next m _ v1 v2 h (countsE h) hbox4 (by omega) (hh.grow hg4) (m3.grow EInt.stays hG4) hfine hin (by omega) (by omega) (fun H5 v s hm0 hs hg5 hvn hvs => ?_) (fun hor H5 hg5 => ?_))
        · have hw := hfind m s (by omega) hno hs
          have hx : eqNilA .slice v .nilslice = some false := by
            rcases hvs with ⟨rfl, _⟩ | ⟨b, i, cells, rfl, _⟩
            · exact absurd rfl hvn
            · rfl
          rw [hw] at k
          simp(maxSteps:=9999999)(disch:=first|omega|(simp only[AN];omega))only[hx,↓KP,EK,↓reduceIte,reduceCtorEq,Nat.reduceEqDiff,Nat.reduceAdd,Nat.reduceLeDiff,Nat.reduceMul]
          exact k _ _ (hg4.trans hg5) hvs
        · have hx : eqNilA .slice .nilslice .nilslice = some true := rfl
          have hg5n := hg5.next
          have hbox5 : H5.get H.next = some (.cells false [v1, v2]) := by simp(maxSteps:=9999999)(disch:=first|omega|(simp only[AN];omega))only[hg5.get,hbox4,↓KP,EK,↓reduceIte,reduceCtorEq,Nat.reduceEqDiff,Nat.reduceAdd,Nat.reduceLeDiff,Nat.reduceMul]
          have hsucc : (combs (countsE h) m).find? (doE h) = none → ∀ x ∈ (List.range (m + 1)).flatMap (combs (countsE h)), doE h x = false := fun hn x hx => by
            rw [List.range_succ, List.flatMap_append] at hx
            rcases List.mem_append.1 hx with h1 | h1
            · exact hno x h1
            · simp only [List.flatMap_cons, List.flatMap_nil, List.append_nil] at h1
              rw [List.find?_eq_none] at hn
              simpa using hn x h1
          by_cases hm0 : (m : Int) = 0
          · have hm0' : m = 0 := by omega
            subst hm0'
            simp(maxSteps:=9999999)(disch:=first|omega|(simp only[AN];omega))only[hx,t59,hm0,hbox5,↓KP,EK,↓reduceIte,reduceCtorEq,Nat.reduceEqDiff,Nat.reduceAdd,Nat.reduceLeDiff,Nat.reduceMul]
            refine C_call (look_run v1 v2 h 0 (hh.grow (hg4.trans hg5)) fun H6 p m hg6 hm6 hheld => ?_)
            have hg6n := hg6.next
            simp(maxSteps:=9999999)(disch:=first|omega|(simp only[AN];omega))only[↓KP,EK,↓reduceIte,reduceCtorEq,Nat.reduceEqDiff,Nat.reduceAdd,Nat.reduceLeDiff,Nat.reduceMul]
            refine C_call (some_run hfine (by omega) hheld fun H7 hg7 _ => ?_)
            have hg7' : Grew H5 H7 := GrewBut.grew hg6 hg7 hm6
            have hg7n := hg7'.next
            rw [lookE_zero]
            by_cases ht : 0 < (truthsE h).length
            · have hd : doE h [] = true := by unfold doE; rw [hnil]; exact decide_eq_true ht
              have hw := hfind 0 [] (by omega) hno (by simp [combs, hd])
              rw [hw] at k
              simp(maxSteps:=9999999)(disch:=first|omega|(simp only[AN];omega))only[ht,↓KP,EK,↓reduceIte,reduceCtorEq,Nat.reduceEqDiff,Nat.reduceAdd,Nat.reduceLeDiff,Nat.reduceMul]
              exact k _ _ ((hg4.trans hg5).trans hg7') (.inl ⟨rfl, rfl⟩)
            · have hd : doE h [] = false := by unfold doE; rw [hnil]; exact decide_eq_false ht
              have hn : (combs (countsE h) 0).find? (doE h) = none := by simp [combs, hd]
              have e1' : IntKind.i64.wrap (0 + 1) = ((0 + 1 : Nat) : Int) := rfl
              simp(maxSteps:=9999999)(disch:=first|omega|(simp only[AN];omega))only[ht,t59,hm0,e1',↓KP,EK,↓reduceIte,reduceCtorEq,Nat.reduceEqDiff,Nat.reduceAdd,Nat.reduceLeDiff,Nat.reduceMul]
              refine ⟨_, ?_, 0 + 1, _, rfl, ?_, ?_, ?_, (by exact (hG4.trans hg5).trans hg7'), ?_, (by exact hsucc hn), rfl⟩ <;> (first|omega|(with_reducible assumption)|(with_reducible(repeat first|exact Grew.refl _|assumption|apply Grew.alloc|refine Grew.set ?_ _ (by first|omega|(simp only[AN];omega))|refine Grew.trans ?_ hg7'|refine Grew.trans ?_ hg5);done)|(simp(maxSteps:=9999999)(disch:=first|omega|(simp only[AN];omega))only[t9,t58,t59,hg7'.get,hg5.get,↓KP,EK,↓reduceIte,reduceCtorEq,Nat.reduceEqDiff,Nat.reduceAdd,Nat.reduceLeDiff,Nat.reduceMul]<;>first|omega|rfl))
          · have hn : (combs (countsE h) m).find? (doE h) = none := hor.resolve_left (by omega)
            simp(maxSteps:=9999999)(disch:=first|omega|(simp only[AN];omega))only[hx,t59,hm0,e1,↓KP,EK,↓reduceIte,reduceCtorEq,Nat.reduceEqDiff,Nat.reduceAdd,Nat.reduceLeDiff,Nat.reduceMul]
            refine ⟨_, ?_, m + 1, _, rfl, ?_, ?_, ?_, (by exact hG4.trans hg5), ?_, (by exact hsucc hn), rfl⟩ <;> (first|omega|(with_reducible assumption)|(with_reducible(repeat first|exact Grew.refl _|assumption|apply Grew.alloc|refine Grew.set ?_ _ (by first|omega|(simp only[AN];omega))|refine Grew.trans ?_ hg5);done)|(simp(maxSteps:=9999999)(disch:=first|omega|(simp only[AN];omega))only[t9,t58,t59,hg5.get,↓KP,EK,↓reduceIte,reduceCtorEq,Nat.reduceEqDiff,Nat.reduceAdd,Nat.reduceLeDiff,Nat.reduceMul]<;>first|omega|rfl))
      · have hme : m = (countsE h).length + 1 := by omega
        subst hme
        have hw : pWrongList h = countsE h := by
          rw [pWrongList, List.find?_eq_none.2 fun x hx => by simp [hno x hx]]; rfl
        rw [hw] at k
        simp(maxSteps:=9999999)(disch:=first|omega|(simp only[AN];omega))only[t9,↓KP,EK,↓reduceIte,reduceCtorEq,Nat.reduceEqDiff,Nat.reduceAdd,Nat.reduceLeDiff,Nat.reduceMul]
        exact k _ _ hg4 (m3.grow EInt.stays hG4)
  · have he' : errE h ≠ 0 := he
    rw [if_pos he'] at k
    simp(maxSteps:=9999999)(disch:=first|omega|(simp only[AN];omega))only[he,↓KP,EK,↓reduceIte,reduceCtorEq,Nat.reduceEqDiff,Nat.reduceAdd,Nat.reduceLeDiff,Nat.reduceMul]
    exact k _ _ hg1' (.inl ⟨rfl, rfl⟩)
theorem combs_map {α β : Type} (f : α → β) : ∀ (l : List α) (r : Nat), combs (l.map f) r = (combs l r).map (List.map f)
  | _, 0 => by simp [combs]
  | [], r + 1 => by simp [combs]
  | x :: l, r + 1 => by
    simp only [List.map_cons, combs, combs_map f l r, combs_map f l (r + 1), List.map_append, List.map_map]
    rfl
def nextOf (a : Int) (o : List Int) : Int := match o.getLast? with
  | some x => x + 1
  | none => a
theorem upTo_cons {a b : Int} (h : a ≤ b) : upTo a b = a :: upTo (a + 1) b := by
  have := upTo_split (lo := a) (f := a) (hi := b) (by omega) h
  rw [upTo_nil] at this
  simpa using this
theorem upTo_none {a b : Int} (h : b < a) : upTo a b = [] := by
  unfold upTo
  rw [show (b + 1 - a).toNat = 0 from by omega]; rfl
theorem flatMap_same {α β : Type} {f g : α → List β} : ∀ {l : List α}, (∀ x ∈ l, f x = g x) → l.flatMap f = l.flatMap g
  | [], _ => rfl
  | x :: l, h => by rw [List.flatMap_cons, List.flatMap_cons, h x (by simp), flatMap_same fun y hy => h y (by simp [hy])]
theorem combs_snoc (b : Int) : ∀ (k : Nat) (a : Int) (m : Nat), (b + 1 - a).toNat = k → combs (upTo a b) (m + 1) = (combs (upTo a b) m).flatMap fun o => (upTo (nextOf a o) b).map fun f => o ++ [f]
  | 0, a, m, hk => by
    rw [upTo_none (by omega)]
    cases m with
    | zero => simp [combs, nextOf, upTo_none (show b < a by omega)]
    | succ m => simp [combs]
  | k + 1, a, m, hk => by
    rw [upTo_cons (by omega)]
    have ih := combs_snoc b k (a + 1)
    cases m with
    | zero =>
      have h0 := ih 0 (by omega)
      have hn : ∀ a : Int, nextOf a [] = a := fun _ => rfl
      simp only [combs, List.map_cons, List.map_nil, List.flatMap_cons, List.flatMap_nil, List.append_nil, hn, List.nil_append] at h0 ⊢
      rw [h0, upTo_cons (show a ≤ b by omega)]
      rfl
    | succ m =>
      have h1 := ih m (by omega)
      have h2 := ih (m + 1) (by omega)
      rw [combs, h2]
      conv => rhs; rw [combs]
      rw [List.flatMap_append, List.flatMap_map]
      congr 1
      · rw [h1, List.map_flatMap]
        congr 1
        funext o
        have : nextOf a (a :: o) = nextOf (a + 1) o := by
          unfold nextOf
          cases o with
          | nil => rfl
          | cons x o => (simp only [List.getLast?_cons_cons, List.getLast?_cons]; rfl)
        rw [this, List.map_map]
        rfl
      · refine flatMap_same fun o ho => ?_
        have hol := (combs_mem ho).1
        have : nextOf a o = nextOf (a + 1) o := by
          unfold nextOf
          cases o with
          | nil => simp at hol
          | cons x o =>
            simp only [List.getLast?_cons]
        rw [this]
theorem choices_combs (n : Nat) : ∀ m, choicesE n m = combs (upTo 0 ((n : Int) - 1)) m
  | 0 => by simp [choicesE, combs]
  | m + 1 => by
    rw [choicesE_succ, choices_combs n m, combs_snoc ((n : Int) - 1) _ 0 m rfl, choStep]
    refine flatMap_same fun o ho => ?_
    have hol := (combs_mem ho).1
    have : firstOf o m = nextOf 0 o := by
      unfold firstOf nextOf
      rw [List.getLast?_eq_getElem?]
      by_cases hm : 0 < m
      · rw [if_pos hm, List.getElem?_eq_getElem (by omega), getI_eq (by omega)]
        simp only [hol]
      · have h0 : o = [] := List.length_eq_zero_iff.1 (by omega)
        subst h0
        rw [if_neg hm]; rfl
    rw [choRow, this]
theorem own_all (all : List Int) : (upTo 0 ((all.length : Int) - 1)).map (fun i => getI all i.toNat) = all := by
  refine List.ext_getElem (by simp [upTo]) fun i h1 h2 => ?_
  simp [upTo, getI_eq h2]
theorem cand_combs (h : House) (m : Nat) : candE h m = combs (countsE h) m := by
  have : candE h m = (combs (upTo 0 (((countsE h).length : Int) - 1)) m).map (List.map fun i => getI (countsE h) i.toNat) := by
    rw [candE, choices_combs]; rfl
  rw [this, ← combs_map, own_all]
theorem combs_all {α : Type} : ∀ (l : List α) (r : Nat), l.length < r → combs l r = []
  | _, 0, h => by simp at h
  | [], r + 1, _ => rfl
  | x :: l, r + 1, h => by
    simp only [List.length_cons] at h
    simp [combs, combs_all l r (by omega), combs_all l (r + 1) (by omega)]
theorem combs_full {α : Type} : ∀ (l : List α), combs l l.length = [l]
  | [] => rfl
  | x :: l => by simp [combs, combs_full l, combs_all l (l.length + 1) (by omega)]
theorem pWrong_eq (h : House) : pWrongList h = wrongList h := by
  have h1 : doE h = hasTruth h := rfl
  have h2 : candE h = combs (countsE h) := funext (cand_combs h)
  rw [pWrongList, wrongList, h1, h2, List.range_succ, List.flatMap_append, List.find?_append]
  cases hf : ((List.range (countsE h).length).flatMap (combs (countsE h))).find? (hasTruth h) with
  | some s => rfl
  | none =>
    simp only [Option.none_or, List.flatMap_cons, List.flatMap_nil, List.append_nil, combs_full, List.find?_cons, List.find?_nil, Option.getD_none]
    cases hasTruth h (countsE h) <;> rfl
theorem Wrong_run (v1 v2 : AV) (h : House) (hh : IsHouse (Old H) H v1 v2 h)
    (k : ∀ H' v, Grew H H' → IsInts (Old H') H' v (wrongE h).1 → R (.tuple [v, I (wrongE h).2]) H') : CallQ prog (.func 29 [] []) [.agg [v1, v2]] H R := by
  refine Wrong_run' v1 v2 h hh fun H' v hg hv => ?_
  have hw : wrongE h = (if errE h ≠ 0 then [] else pWrongList h, errE h) := by
    rw [pWrong_eq, wrongE]
    by_cases he : errE h = 0
    · simp [he]
    · simp [he]
  rw [hw] at k
  exact k H' v hg hv
end Go.Proofs.Ytgncpbkedhchfaa
namespace Go.Proofs.Ytgncpbkedhchfaa
open Go.AM Go.IntWalk
set_option maxRecDepth 100000
set_option maxHeartbeats 4000000
set_option linter.unusedSimpArgs false
variable {H : AH} {R : AV → AH → Prop}
theorem twice_run (b1 b2 b3 : Nat) (v1 v2 : AV) (h : House) (d w : Nat) (hh : IsHouse (Old H) H v1 v2 h) (e1 : H.get b1 = some (.cells false [v1, v2])) (e2 : H.get b2 = some (.cells false [I d])) (e3 : H.get b3 = some (.cells false [I w])) (hd : d < h.days.length) (hw : w < h.days[d].length)
    (k : R (I (if h.days[d][w] ≠ -1 then 5 else 0)) H) : CallQ prog (.func 73 [] [.ptr b1 0, .ptr b2 0, .ptr b3 0]) [] H R := by
  obtain ⟨p_b, p_i, p_ro, p_vs, vo, p_lt, hvo, p⟩ := hh.2.rdSl rfl hd
  obtain ⟨q_b, q_i, q_ro, q_vs, q_lt, q⟩ := hvo.rdInt rfl hw
  refine CallQ_enter (fn:=c73) rfl (Nat.le_of_ble_eq_true rfl) ?_;simp(maxSteps:=9999999)(disch:=first|omega|(simp only[AN];omega))only[c73,envFrom,↓KP,EK,↓reduceIte,reduceCtorEq,Nat.reduceEqDiff,Nat.reduceAdd,Nat.reduceLeDiff,Nat.reduceMul]
  by_cases hc : h.days[d][w] = -1
  · refine K_draw ?_;simp(maxSteps:=9999999)(disch:=first|omega|(simp only[AN];omega))only[e1,e2,e3,p,q,hc,↓KP,EK,↓reduceIte,reduceCtorEq,Nat.reduceEqDiff,Nat.reduceAdd,Nat.reduceLeDiff,Nat.reduceMul]
    simpa [hc] using k
  · refine K_draw ?_;simp(maxSteps:=9999999)(disch:=first|omega|(simp only[AN];omega))only[e1,e2,e3,p,q,hc,↓KP,EK,↓reduceIte,reduceCtorEq,Nat.reduceEqDiff,Nat.reduceAdd,Nat.reduceLeDiff,Nat.reduceMul]
    simpa [hc] using k
def offOf (h : House) (w : Nat) : Int := match h.ws[w]? with
  | some x => x.off
  | none => 0
def canS (h : House) (d w : Nat) (fs : List Int) : Int × Int :=
  (max 0 (((numbersE h d fs).1 + getI fs w - 1) / getI fs w - offOf h w), min 120 ((numbersE h d fs).2 / getI fs w + offOf h w))
def canL (h : House) (d w : Nat) (fs : List Int) : List (Int × Int) := if (canS h d w fs).1 ≤ (canS h d w fs).2 then [canS h d w fs] else []
structure Watch1 (N p m b1 : Nat) (v1 v2 : AV) (h : House) (but : Nat) (B H : AH) : Prop where
  held : Held N p m v1 v2 h but H
  base : ∀ b, b < N → b ≠ m → H.get b = B.get b
  e1 : H.get b1 = some (.cells false [.ptr p 0])
  lt1 : b1 < H.next
  ge1 : N ≤ b1
theorem Watch1.keep {N p m b1 : Nat} {v1 v2 : AV} {h : House} {but : Nat} {B H1 H2 : AH} (hw : Watch1 N p m b1 v1 v2 h but B H1) (hn : H1.next ≤ H2.next) (hs : ∀ b, Kh N b1 b → H2.get b = H1.get b) : Watch1 N p m b1 v1 v2 h but B H2 := by
  obtain ⟨c1, c2, c3, c5, c7⟩ := hw
  exact ⟨c1.keep hn fun b hb => hs b (.inl hb), fun b h1 h2 => by rw [hs b (.inl h1)]; exact c2 b h1 h2, by rw [hs _ (.inr rfl)]; exact c3, by omega, c7⟩
theorem Watch1.back {N p m b1 bh : Nat} {v1 v2 : AV} {h : House} {but : Nat} {B B' H1 : AH} (hr : Ready N p m bh v1 v2 h but B' H1) (hB : ∀ b, b < N → b ≠ m → B'.get b = B.get b) (e1 : H1.get b1 = some (.cells false [.ptr p 0])) (lt1 : b1 < H1.next) (ge1 : N ≤ b1) : Watch1 N p m b1 v1 v2 h but B H1 :=
  ⟨hr.held, fun b h1 h2 => by rw [hr.base b h1 h2, hB b h1 h2], e1, lt1, ge1⟩
theorem nums_at {h : House} {fs : List Int} {n d : Nat} (hd : d < 4) (hn : d < n) : ((numsTo h fs n).map I)[d * 2]? = some (I (numbersE h d fs).1) ∧ ((numsTo h fs n).map I)[d * 2 + 1]? = some (I (numbersE h d fs).2) := by
  have hl : ∀ e, (if e < n then [(numbersE h e fs).1, (numbersE h e fs).2] else [0, 0]) = [if e < n then (numbersE h e fs).1 else 0, if e < n then (numbersE h e fs).2 else 0] := fun e => by split <;> rfl
  simp only [numsTo, show List.range 4 = [0, 1, 2, 3] from rfl, List.flatMap_cons, List.flatMap_nil, hl]
  match d, hd with
  | 0, _ => simp [hn]
  | 1, _ => simp [hn]
  | 2, _ => simp [hn]
  | 3, _ => simp [hn]
theorem can_iter {N p m b1 bc bw bd w d : Nat} {v1 v2 : AV} {h : House} {B : AH} (hfine : Fine h) (hw : w < h.ws.length) (hd : d < h.days.length)
    (hbc : B.get bc = some (.cells false [v1, v2]) ∧ bc < N ∧ bc ≠ m) (hbw : B.get bw = some (.cells false [I w]) ∧ bw < N ∧ bw ≠ m) (hbd : B.get bd = some (.cells false [I d]) ∧ bd < N ∧ bd ≠ m) :
    Iter prog (.func 74 [] [.ptr bc 0, .ptr bw 0, .ptr b1 0, .ptr bd 0]) (((truthsE (lookE h 0)).flatMap (canL h d w)).map spanArg) (Kh N b1) (Watch1 N p m b1 v1 v2 h 0 B) := by
  refine ⟨fun H1 H2 hn hs hr => hr.keep hn hs, fun H hr b hb => by have := hr.lt1; have := hr.held.look.nle; rcases hb with h | h <;> omega, fun H l Y S R hNl hl hi hY hS hy hfin h0 => ?_⟩
  have hbl1 : b1 < l := hNl _ (.inr rfl)
  have hNle : N ≤ l := Nat.not_lt.1 fun h => by have := hNl l (.inl h); omega
  have e1 := hi.e1
  have ge1 := hi.ge1
  have hold := hi.held.look.old
  have hNH := hi.held.look.nle
  obtain ⟨c1, c2, c3⟩ := hbc
  obtain ⟨w1, w2, w3⟩ := hbw
  obtain ⟨d1, d2, d3⟩ := hbd
  have x1 : H.get bc = some (.cells false [v1, v2]) := by rw [hi.base bc c2 c3]; exact c1
  have x2 : H.get bw = some (.cells false [I w]) := by rw [hi.base bw w2 w3]; exact w1
  have x3 : H.get bd = some (.cells false [I d]) := by rw [hi.base bd d2 d3]; exact d1
  obtain ⟨q_b, q_i, q_ro, q_vs, q_lt, q⟩ := rdW hold.1 (k := w) rfl hw
  refine CallQ_enter (fn:=c74) rfl (Nat.le_of_ble_eq_true rfl) ?_;simp(maxSteps:=9999999)(disch:=first|omega|(simp only[AN];omega))only[c74,envFrom,e1,x1,x2,x3,q,Watcher.cells,↓KP,EK,↓reduceIte,reduceCtorEq,Nat.reduceEqDiff,Nat.reduceAdd,Nat.reduceLeDiff,Nat.reduceMul]
  first|refine C_call ?_|refine C_calld ?_
  refine truths_run p ?_
  have hr1 := (hi.held.up (H2 := ((H.alloc (.cells false [.yield l])).alloc (.cells false [.str (bs []), I 0, I 0, I 0])).set (H.next + 1) (.cells false [.str h.ws[w].name, I h.ws[w].lo, I h.ws[w].hi, I h.ws[w].off])) GW).ready
  have hBn0 : (((H.alloc (.cells false [.yield l])).alloc (.cells false [.str (bs []), I 0, I 0, I 0])).set (H.next + 1) (.cells false [.str h.ws[w].name, I h.ws[w].lo, I h.ws[w].hi, I h.ws[w].off])).next = H.next + 2 := rfl
  rw [hBn0] at hr1
  simp(maxSteps:=9999999)(disch:=first|omega|(simp only[AN];omega))only[↓KP,EK,↓reduceIte,reduceCtorEq,Nat.reduceEqDiff,Nat.reduceAdd,Nat.reduceLeDiff,Nat.reduceMul]
  have hbase : ∀ b, b < N → b ≠ m → ((((H.alloc (.cells false [.yield l])).alloc (.cells false [.str (bs []), I 0, I 0, I 0])).set (H.next + 1) (.cells false [.str h.ws[w].name, I h.ws[w].lo, I h.ws[w].hi, I h.ws[w].off])).alloc (.cells false [.ptr p 0])).get b = B.get b := fun b h1 h2 => by simp(maxSteps:=9999999)(disch:=first|omega|(simp only[AN];omega))only[↓KP,EK,↓reduceIte,reduceCtorEq,Nat.reduceEqDiff,Nat.reduceAdd,Nat.reduceLeDiff,Nat.reduceMul]; exact hi.base b h1 h2
  have hY0 : Y [] ((((H.alloc (.cells false [.yield l])).alloc (.cells false [.str (bs []), I 0, I 0, I 0])).set (H.next + 1) (.cells false [.str h.ws[w].name, I h.ws[w].lo, I h.ws[w].hi, I h.ws[w].off])).alloc (.cells false [.ptr p 0])) := hY [] H _ (by simp(maxSteps:=9999999)(disch:=first|omega|(simp only[AN];omega))only[↓KP,EK,↓reduceIte,reduceCtorEq,Nat.reduceEqDiff,Nat.reduceAdd,Nat.reduceLeDiff,Nat.reduceMul]; omega) (fun b h1 h2 => by simp(maxSteps:=9999999)(disch:=first|omega|(simp only[AN];omega))only[↓KP,EK,↓reduceIte,reduceCtorEq,Nat.reduceEqDiff,Nat.reduceAdd,Nat.reduceLeDiff,Nat.reduceMul]) h0
  have ey : ((((H.alloc (.cells false [.yield l])).alloc (.cells false [.str (bs []), I 0, I 0, I 0])).set (H.next + 1) (.cells false [.str h.ws[w].name, I h.ws[w].lo, I h.ws[w].hi, I h.ws[w].off])).alloc (.cells false [.ptr p 0])).get H.next = some (.cells false [.yield l]) := by simp(maxSteps:=9999999)(disch:=first|omega|(simp only[AN];omega))only[↓KP,EK,↓reduceIte,reduceCtorEq,Nat.reduceEqDiff,Nat.reduceAdd,Nat.reduceLeDiff,Nat.reduceMul]
  have ew : ((((H.alloc (.cells false [.yield l])).alloc (.cells false [.str (bs []), I 0, I 0, I 0])).set (H.next + 1) (.cells false [.str h.ws[w].name, I h.ws[w].lo, I h.ws[w].hi, I h.ws[w].off])).alloc (.cells false [.ptr p 0])).get (H.next + 1) = some (.cells false [.str h.ws[w].name, I h.ws[w].lo, I h.ws[w].hi, I h.ws[w].off]) := by simp(maxSteps:=9999999)(disch:=first|omega|(simp only[AN];omega))only[↓KP,EK,↓reduceIte,reduceCtorEq,Nat.reduceEqDiff,Nat.reduceAdd,Nat.reduceLeDiff,Nat.reduceMul]
  have eb1 : ((((H.alloc (.cells false [.yield l])).alloc (.cells false [.str (bs []), I 0, I 0, I 0])).set (H.next + 1) (.cells false [.str h.ws[w].name, I h.ws[w].lo, I h.ws[w].hi, I h.ws[w].off])).alloc (.cells false [.ptr p 0])).get b1 = some (.cells false [.ptr p 0]) := by simp(maxSteps:=9999999)(disch:=first|omega|(simp only[AN];omega))only[e1,↓KP,EK,↓reduceIte,reduceCtorEq,Nat.reduceEqDiff,Nat.reduceAdd,Nat.reduceLeDiff,Nat.reduceMul]
  have hBn : ((((H.alloc (.cells false [.yield l])).alloc (.cells false [.str (bs []), I 0, I 0, I 0])).set (H.next + 1) (.cells false [.str h.ws[w].name, I h.ws[w].lo, I h.ws[w].hi, I h.ws[w].off])).alloc (.cells false [.ptr p 0])).next = H.next + 3 := rfl
  generalize (((H.alloc (.cells false [.yield l])).alloc (.cells false [.str (bs []), I 0, I 0, I 0])).set (H.next + 1) (.cells false [.str h.ws[w].name, I h.ws[w].lo, I h.ws[w].hi, I h.ws[w].off])).alloc (.cells false [.ptr p 0]) = B' at hr1 hbase hY0 ey ew eb1 hBn
  refine K_iter (L := yields h 0) (K := Kh N (H.next + 2)) (Inv := Ready N p m (H.next + 2) v1 v2 h 0 B') rfl (truths_iter hfine (by omega)) hr1 (fun a ha => ?_)
    (fun done H2 => (∃ ds rs, truthsE (lookE h 0) = ds ++ rs ∧ done = ds.map (argT (lookE h 0)) ∧ Y ((ds.flatMap (canL h d w)).map spanArg) H2) ∧ H2.get H.next = some (.cells false [.yield l]) ∧ H2.get (H.next + 1) = some (.cells false [.str h.ws[w].name, I h.ws[w].lo, I h.ws[w].hi, I h.ws[w].off]) ∧ H2.get b1 = some (.cells false [.ptr p 0]))
    (fun x H2 => x = .ret ∧ S H2 ∧ H2.get b1 = some (.cells false [.ptr p 0])) ?_ ?_ ?_ ?_ ?_ ?_
  · obtain ⟨fs, _, rfl⟩ := List.mem_map.1 ha; rfl
  · rintro done H1 H2 hn hs ⟨⟨ds, rs, h1, h2, h3⟩, h4, h5, h6⟩
    refine ⟨⟨ds, rs, h1, h2, hY _ H1 H2 hn (fun b h7 h8 => hs b (by have := Kh.not h7; simp only [Kh]; omega) (by omega)) h3⟩, by rw [hs _ (by simp only [Kh]; omega) (by omega)]; exact h4, by rw [hs _ (by simp only [Kh]; omega) (by omega)]; exact h5, by rw [hs _ (by simp only [Kh]; omega) (by omega)]; exact h6⟩
  · rintro x H1 H2 hn hs ⟨h1, h3, h5⟩
    refine ⟨h1, hS H1 H2 hn (fun b h7 h8 => hs b (by have := Kh.not h7; simp only [Kh]; omega) (by omega)) h3, by rw [hs _ (by simp only [Kh]; omega) (by omega)]; exact h5⟩
  · exact ⟨⟨[], _, rfl, rfl, hY0⟩, ey, ew, eb1⟩
  · rintro done a rest H1 hL hlt hi1 ⟨⟨ds, rs, h1, rfl, h3⟩, h4, h5, h6⟩ hlo
    rw [yields, h1, List.map_append, List.append_cancel_left_eq] at hL
    cases rs with
    | nil => cases hL
    | cons fs rs =>
      simp only [List.map_cons, List.cons.injEq] at hL
      obtain ⟨rfl, rfl⟩ := hL
      have hfm : fs ∈ truthsE h := by rw [← lookE_zero h, h1]; simp
      have hwat := Watch1.back hi1 hbase h6 (by omega) ge1
      have y2 : H1.get bw = some (.cells false [I w]) := by rw [hwat.base bw w2 w3]; exact w1
      have y3 : H1.get bd = some (.cells false [I d]) := by rw [hwat.base bd d2 d3]; exact d1
      have hw3 := hfine.ws
      have hd4 := hfine.days
      have hget := three_get (getI fs 0) (getI fs 1) (getI fs 2) (n := w) (by omega)
      have hget' : [getI fs 0, getI fs 1, getI fs 2][w]'(by simp; omega) = getI fs w := by
        rcases (show w = 0 ∨ w = 1 ∨ w = 2 by omega) with rfl | rfl | rfl <;> rfl
      rw [hget'] at hget
      have hix : ∀ S b, opIdxArr 3 1 (.ptr b 0) (I w) S = some (.ptr b w, S) := fun S b => by
        have : w < 3 := by omega
        simp [opIdxArr, natOf, this]
      have hix8 : ∀ S b, opIdxArr 4 2 (.ptr b 0) (I d) S = some (.ptr b (d * 2), S) := fun S b => by
        have : d < 4 := by omega
        simp [opIdxArr, natOf, this]
      obtain ⟨x0, x1, x2, x3, x4, x5, x6, x7, he⟩ := eight (show (numsE (lookE h 0) fs).length = 8 from nums_length)
      obtain ⟨n1, n2⟩ := nums_at (h := lookE h 0) (fs := fs) (n := (lookE h 0).days.length) (d := d) (by omega) (by rw [maskE_length]; exact hd)
      rw [show numsTo (lookE h 0) fs (lookE h 0).days.length = numsE (lookE h 0) fs from rfl, he] at n1 n2
      simp only [List.map_cons, List.map_nil, lookE_zero] at n1 n2
      obtain ⟨hfl, hfb⟩ := truthsE_mem hfine hfm
      have ff := hfb _ (List.getElem_mem (l := fs) (n := w) (by omega))
      rw [← getI_eq] at ff
      obtain ⟨nb1, nb2⟩ := numbersE_in hfine hd hfb
      have hwf := hfine.w hw
      have hoff : offOf h w = h.ws[w].off := by unfold offOf; rw [List.getElem?_eq_getElem hw]
      have hcan : canS h d w fs = (max 0 (((numbersE h d fs).1 + getI fs w - 1) / getI fs w - h.ws[w].off), min 120 ((numbersE h d fs).2 / getI fs w + h.ws[w].off)) := by rw [canS, hoff]
      generalize (numbersE h d fs).1 = lo at n1 nb1 hcan
      generalize (numbersE h d fs).2 = hi2 at n2 nb2 hcan
      have g1 : IntKind.i64.wrap (lo + getI fs w) = lo + getI fs w := i64_in _ (by omega)
      have g2 : IntKind.i64.wrap (lo + getI fs w - 1) = lo + getI fs w - 1 := i64_in _ (by omega)
      have b1' := Int.ediv_le_self (a := lo + getI fs w - 1) (getI fs w) (by omega)
      have b1'' := Int.ediv_nonneg (a := lo + getI fs w - 1) (b := getI fs w) (by omega) (by omega)
      have b2' := Int.ediv_le_self (a := hi2) (getI fs w) (by omega)
      have b2'' := Int.ediv_nonneg (a := hi2) (b := getI fs w) (by omega) (by omega)
      have g3 : IntKind.i64.wrap ((lo + getI fs w - 1).tdiv (getI fs w)) = (lo + getI fs w - 1) / getI fs w := by rw [Int.tdiv_eq_ediv_of_nonneg (by omega), i64_in _ (by omega)]
      have g4 : IntKind.i64.wrap (hi2.tdiv (getI fs w)) = hi2 / getI fs w := by rw [Int.tdiv_eq_ediv_of_nonneg (by omega), i64_in _ (by omega)]
      generalize hq1 : (lo + getI fs w - 1) / getI fs w = q1 at *
      generalize hq2 : hi2 / getI fs w = q2 at *
      have g5 : IntKind.i64.wrap (q1 - h.ws[w].off) = q1 - h.ws[w].off := i64_in _ (by omega)
      have g6 : IntKind.i64.wrap (q2 + h.ws[w].off) = q2 + h.ws[w].off := i64_in _ (by omega)
      have g7 : ¬ getI fs w = 0 := by omega
      simp(maxSteps:=9999999)(disch:=first|omega|(simp only[AN];omega))only[K8,hlo,argT,pad3,he,List.map_cons,List.map_nil,↓KP,EK,↓reduceIte,reduceCtorEq,Nat.reduceEqDiff,Nat.reduceAdd,Nat.reduceLeDiff,Nat.reduceMul]
      refine K_draw ?_;simp(maxSteps:=9999999)(disch:=first|omega|(simp only[AN];omega))only[h4,h5,y2,y3,hix,hix8,hget,n1,n2,g1,g2,g3,g4,g5,g6,g7,↓KP,EK,↓reduceIte,reduceCtorEq,Nat.reduceEqDiff,Nat.reduceAdd,Nat.reduceLeDiff,Nat.reduceMul]
      have hdone : ds.map (argT (lookE h 0)) ++ [[.agg [I (getI fs 0), I (getI fs 1), I (getI fs 2)], .agg [I x0, I x1, I x2, I x3, I x4, I x5, I x6, I x7]]] = (ds ++ [fs]).map (argT (lookE h 0)) := by rw [List.map_append]; simp only [List.map_cons, List.map_nil, argT, pad3, he]
      by_cases hcc : max 0 (q1 - h.ws[w].off) ≤ min 120 (q2 + h.ws[w].off)
      · have hcl : canL h d w fs = [(max 0 (q1 - h.ws[w].off), min 120 (q2 + h.ws[w].off))] := by rw [canL, hcan, if_pos hcc]
        simp(maxSteps:=9999999)(disch:=first|omega|(simp only[AN];omega))only[hcc,h4,↓KP,EK,↓reduceIte,reduceCtorEq,Nat.reduceEqDiff,Nat.reduceAdd,Nat.reduceLeDiff,Nat.reduceMul]
        refine C_call (CallQ.mono (hy ((ds.flatMap (canL h d w)).map spanArg) (spanArg (max 0 (q1 - h.ws[w].off), min 120 (q2 + h.ws[w].off))) ((rs.flatMap (canL h d w)).map spanArg) _ (by rw [h1, List.flatMap_append, List.flatMap_cons, hcl, List.map_append, List.map_append]; rfl) ?_ (hwat.keep ?_ fun b hb => ?_) (hY _ H1 _ ?_ (fun b h7 h8 => ?_) h3)) fun v H3 hv => ?_)
        · simp(maxSteps:=9999999)(disch:=first|omega|(simp only[AN];omega))only[↓KP,EK,↓reduceIte,reduceCtorEq,Nat.reduceEqDiff,Nat.reduceAdd,Nat.reduceLeDiff,Nat.reduceMul]; omega
        · simp(maxSteps:=9999999)(disch:=first|omega|(simp only[AN];omega))only[↓KP,EK,↓reduceIte,reduceCtorEq,Nat.reduceEqDiff,Nat.reduceAdd,Nat.reduceLeDiff,Nat.reduceMul]; omega
        · have : b < H.next := by rcases hb with h | h <;> omega
          simp(maxSteps:=9999999)(disch:=first|omega|(simp only[AN];omega))only[↓KP,EK,↓reduceIte,reduceCtorEq,Nat.reduceEqDiff,Nat.reduceAdd,Nat.reduceLeDiff,Nat.reduceMul]
        · simp(maxSteps:=9999999)(disch:=first|omega|(simp only[AN];omega))only[↓KP,EK,↓reduceIte,reduceCtorEq,Nat.reduceEqDiff,Nat.reduceAdd,Nat.reduceLeDiff,Nat.reduceMul]; omega
        · simp(maxSteps:=9999999)(disch:=first|omega|(simp only[AN];omega))only[↓KP,EK,↓reduceIte,reduceCtorEq,Nat.reduceEqDiff,Nat.reduceAdd,Nat.reduceLeDiff,Nat.reduceMul]
        · obtain ⟨⟨k1, k2⟩, hor⟩ := hv
          simp only [AH.next_alloc, AH.next_set] at k1
          have kk : ∀ b, b < H1.next → b ≠ B'.next → (b < N ∨ b = b1 ∨ l < b) → H3.get b = H1.get b := fun b h7 h8 h9 => by
            rw [k2 b (by simp(maxSteps:=9999999)(disch:=first|omega|(simp only[AN];omega))only[↓KP,EK,↓reduceIte,reduceCtorEq,Nat.reduceEqDiff,Nat.reduceAdd,Nat.reduceLeDiff,Nat.reduceMul]; omega) (by simp only [Kh]; omega)]
            simp(maxSteps:=9999999)(disch:=first|omega|(simp only[AN];omega))only[↓KP,EK,↓reduceIte,reduceCtorEq,Nat.reduceEqDiff,Nat.reduceAdd,Nat.reduceLeDiff,Nat.reduceMul]
          have klo := k2 B'.next (by simp(maxSteps:=9999999)(disch:=first|omega|(simp only[AN];omega))only[↓KP,EK,↓reduceIte,reduceCtorEq,Nat.reduceEqDiff,Nat.reduceAdd,Nat.reduceLeDiff,Nat.reduceMul]; omega) (.inr (by omega))
          have klo' : H3.get B'.next = _ := klo.trans (by simp(maxSteps:=9999999)(disch:=first|omega|(simp only[AN];omega))only[↓KP,EK,↓reduceIte,reduceCtorEq,Nat.reduceEqDiff,Nat.reduceAdd,Nat.reduceLeDiff,Nat.reduceMul]; rfl)
          rcases hor with ⟨rfl, hy3⟩ | ⟨rfl, hS3⟩
          · simp(maxSteps:=9999999)(disch:=first|omega|(simp only[AN];omega))only[↓KP,EK,↓reduceIte,reduceCtorEq,Nat.reduceEqDiff,Nat.reduceAdd,Nat.reduceLeDiff,Nat.reduceMul]
            refine K_bod ⟨klo', ⟨by omega, fun b h7 h8 => kk b h7 (by simp only [Kh] at h8; omega) (by simp only [Kh] at h8; omega)⟩, ⟨ds ++ [fs], rs, by rw [h1]; simp, hdone, by rw [List.flatMap_append, List.map_append]; simpa [hcl] using hy3⟩, by rw [kk _ (by omega) (by omega) (by omega)]; exact h4, by rw [kk _ (by omega) (by omega) (by omega)]; exact h5, by rw [kk _ (by omega) (by omega) (by omega)]; exact h6⟩
          · simp(maxSteps:=9999999)(disch:=first|omega|(simp only[AN];omega))only[↓KP,EK,↓reduceIte,reduceCtorEq,Nat.reduceEqDiff,Nat.reduceAdd,Nat.reduceLeDiff,Nat.reduceMul]
            exact K_bod ⟨klo', ⟨by omega, fun b h7 h8 => kk b h7 (by simp only [Kh] at h8; omega) (by simp only [Kh] at h8; omega)⟩, rfl, hS3, by rw [kk _ (by omega) (by omega) (by omega)]; exact h6⟩
      · have hcl : canL h d w fs = [] := by rw [canL, hcan, if_neg hcc]
        simp(maxSteps:=9999999)(disch:=first|omega|(simp only[AN];omega))only[hcc,↓KP,EK,↓reduceIte,reduceCtorEq,Nat.reduceEqDiff,Nat.reduceAdd,Nat.reduceLeDiff,Nat.reduceMul]
        refine K_bod ⟨?_, ⟨?_, fun b h7 h8 => ?_⟩, ⟨ds ++ [fs], rs, by rw [h1]; simp, hdone, ?_⟩, ?_, ?_, ?_⟩
        · simp(maxSteps:=9999999)(disch:=first|omega|(simp only[AN];omega))only[↓KP,EK,↓reduceIte,reduceCtorEq,Nat.reduceEqDiff,Nat.reduceAdd,Nat.reduceLeDiff,Nat.reduceMul]
        · simp(maxSteps:=9999999)(disch:=first|omega|(simp only[AN];omega))only[↓KP,EK,↓reduceIte,reduceCtorEq,Nat.reduceEqDiff,Nat.reduceAdd,Nat.reduceLeDiff,Nat.reduceMul]; omega
        · simp only [Kh] at h8
          simp(maxSteps:=9999999)(disch:=first|omega|(simp only[AN];omega))only[↓KP,EK,↓reduceIte,reduceCtorEq,Nat.reduceEqDiff,Nat.reduceAdd,Nat.reduceLeDiff,Nat.reduceMul]
        · rw [List.flatMap_append, List.flatMap_cons, hcl]
          simp only [List.flatMap_nil, List.append_nil]
          exact hY _ H1 _ (by simp(maxSteps:=9999999)(disch:=first|omega|(simp only[AN];omega))only[↓KP,EK,↓reduceIte,reduceCtorEq,Nat.reduceEqDiff,Nat.reduceAdd,Nat.reduceLeDiff,Nat.reduceMul]; omega) (fun b h7 h8 => by simp(maxSteps:=9999999)(disch:=first|omega|(simp only[AN];omega))only[↓KP,EK,↓reduceIte,reduceCtorEq,Nat.reduceEqDiff,Nat.reduceAdd,Nat.reduceLeDiff,Nat.reduceMul]) h3
        · simp(maxSteps:=9999999)(disch:=first|omega|(simp only[AN];omega))only[h4,↓KP,EK,↓reduceIte,reduceCtorEq,Nat.reduceEqDiff,Nat.reduceAdd,Nat.reduceLeDiff,Nat.reduceMul]
        · simp(maxSteps:=9999999)(disch:=first|omega|(simp only[AN];omega))only[h5,↓KP,EK,↓reduceIte,reduceCtorEq,Nat.reduceEqDiff,Nat.reduceAdd,Nat.reduceLeDiff,Nat.reduceMul]
        · simp(maxSteps:=9999999)(disch:=first|omega|(simp only[AN];omega))only[h6,↓KP,EK,↓reduceIte,reduceCtorEq,Nat.reduceEqDiff,Nat.reduceAdd,Nat.reduceLeDiff,Nat.reduceMul]
  · rintro H2 hn hi2 ⟨⟨ds, rs, h1, h2, h3⟩, h4, h5, h6⟩
    have hrs : rs = [] := by
      have := congrArg List.length h2
      rw [yields, h1, List.length_map, List.length_map, List.length_append] at this
      exact List.length_eq_zero_iff.1 (by omega)
    subst hrs
    rw [List.append_nil] at h1
    simp(maxSteps:=9999999)(disch:=first|omega|(simp only[AN];omega))only[↓KP,EK,↓reduceIte,reduceCtorEq,Nat.reduceEqDiff,Nat.reduceAdd,Nat.reduceLeDiff,Nat.reduceMul]
    exact hfin _ (by omega) (Watch1.back hi2 hbase h6 (by omega) ge1) (.inl (by rw [h1]; exact h3))
  · rintro x H2 hx hn hi2 ⟨rfl, h3, h5⟩
    simp(maxSteps:=9999999)(disch:=first|omega|(simp only[AN];omega))only[↓KP,EK,↓reduceIte,reduceCtorEq,Nat.reduceEqDiff,Nat.reduceAdd,Nat.reduceLeDiff,Nat.reduceMul]
    exact hfin _ (by omega) (Watch1.back hi2 hbase h5 (by omega) ge1) (.inr h3)
theorem narrow_comm (s : Int × Int) (w w' : Watcher) (c c' f f' : Int) : narrow (narrow s w c f) w' c' f' = narrow (narrow s w' c' f') w c f := by
  unfold narrow
  by_cases h1 : c = -1 <;> by_cases h2 : c' = -1 <;> simp [h1, h2] <;> omega
theorem narrowAll_comm : ∀ {ws : List Watcher} {cs fs : List Int} {s : Int × Int} {w : Watcher} {c f : Int}, narrowAll (narrow s w c f) ws cs fs = narrow (narrowAll s ws cs fs) w c f
  | [], _, _, _, _, _, _ => by simp [narrowAll]
  | _ :: _, [], _, _, _, _, _ => by simp [narrowAll]
  | _ :: _, _ :: _, [], _, _, _, _ => by simp [narrowAll]
  | w' :: ws, c' :: cs, f' :: fs, s, w, c, f => by
    simp only [narrowAll]
    rw [narrow_comm, narrowAll_comm]
theorem narrowAll_set : ∀ {ws : List Watcher} {cs fs : List Int} {s : Int × Int} {k : Nat} {c : Int} (h1 : k < ws.length) (h2 : k < cs.length) (h3 : k < fs.length), cs[k] = -1 → narrowAll s ws (cs.set k c) fs = narrow (narrowAll s ws cs fs) ws[k] c fs[k]
  | w :: ws, c' :: cs, f :: fs, s, 0, c, _, _, _, h => by
    simp only [List.getElem_cons_zero] at h
    subst h
    simp only [List.set_cons_zero, narrowAll, List.getElem_cons_zero, narrowAll_comm]
    simp [narrow]
  | w :: ws, c' :: cs, f :: fs, s, k + 1, c, h1, h2, h3, h => by
    simp only [List.getElem_cons_succ] at h
    simp only [List.set_cons_succ, narrowAll, List.getElem_cons_succ]
    exact narrowAll_set (by simpa using h1) (by simpa using h2) (by simpa using h3) h
  | [], _, _, _, _, _, h1, _, _, _ => by simp at h1
  | _ :: _, [], _, _, _, _, _, h2, _, _ => by simp at h2
  | _ :: _, _ :: _, [], _, _, _, _, _, h3, _ => by simp at h3
theorem okDay_with {h : House} (hf : Fine h) {d w : Nat} (hd : d < h.days.length) (hw : w < h.ws.length) (hfree : h.days[d][w]'(by rw [hf.len _ (List.getElem_mem hd)]; exact hw) = -1) {c : Int} (hc : 0 ≤ c ∧ c ≤ 120) {fs : List Int} (hm : fs ∈ truthsE h) :
    okDay (withE h d w c) fs d = decide ((canS h d w fs).1 ≤ c ∧ c ≤ (canS h d w fs).2) := by
  have hlen := hf.len _ (List.getElem_mem hd)
  obtain ⟨hfl, hfb⟩ := truthsE_mem hf hm
  have ff := hfb _ (List.getElem_mem (l := fs) (n := w) (by omega))
  have hn : numbersE (withE h d w c) d fs = narrow (numbersE h d fs) h.ws[w] c fs[w] := by
    have : (withE h d w c).days.getD d [] = h.days[d].set w c := by
      rw [getD_eq (by simp [withE]; exact hd)]
      simp only [withE, List.getElem_set_self, getD_eq hd]
    unfold numbersE
    rw [this, getD_eq hd]
    exact narrowAll_set hw (by omega) (by omega) hfree
  have hle := okE_day hm hd
  obtain ⟨nb1, nb2⟩ := numbersE_in hf hd hfb
  have hwf := hf.w hw
  have hoff : offOf h w = h.ws[w].off := by unfold offOf; rw [List.getElem?_eq_getElem hw]
  unfold okDay
  rw [hn, narrow, if_neg (by omega), decide_eq_decide]
  simp only [canS, hoff, getI_eq (show w < fs.length by omega)]
  generalize fs[w] = f at ff
  generalize h.ws[w].off = o at hwf
  generalize (numbersE h d fs).1 = lo at hle nb1
  generalize (numbersE h d fs).2 = hi at hle nb2
  have k1 : f * max 0 (c - o) ≤ f * (c + o) := Int.mul_le_mul_of_nonneg_left (by omega) (by omega)
  have k2 : (lo + f - 1) / f ≤ c + o ↔ lo ≤ f * (c + o) := by
    rw [← Int.lt_add_one_iff, Int.ediv_lt_iff_lt_mul (by omega), Int.add_mul, Int.mul_comm (c + o) f]
    omega
  have k3 : c - o ≤ hi / f ↔ f * max 0 (c - o) ≤ hi := by
    rw [Int.le_ediv_iff_mul_le (by omega), Int.mul_comm]
    by_cases hx : 0 ≤ c - o
    · rw [show max 0 (c - o) = c - o from by omega]
    · rw [show max 0 (c - o) = 0 from by omega]
      have : f * (c - o) ≤ 0 := Int.mul_nonpos_of_nonneg_of_nonpos (by omega) (by omega)
      simp; omega
  generalize f * max 0 (c - o) = x at *
  generalize f * (c + o) = y at *
  generalize (lo + f - 1) / f = u at *
  generalize hi / f = v at *
  constructor
  · intro hh
    have h1 : lo ≤ y := by omega
    have h2 : x ≤ hi := by omega
    have := k2.2 h1
    have := k3.2 h2
    omega
  · intro hh
    have h1 := k2.1 (by omega)
    have h2 := k3.1 (by omega)
    omega
theorem fold_ends (P : Nat → Bool) : ∀ n : Nat, n ≤ 121 → ((∀ c, c < n → P c = false) ∧ (List.range n).foldl (fun s (c : Nat) => if P c then join s ((c : Int), (c : Int)) else s) (121, -1) = (121, -1)) ∨
    ∃ a b : Nat, a ≤ b ∧ b < n ∧ P a = true ∧ P b = true ∧ (∀ c, c < n → P c = true → a ≤ c ∧ c ≤ b) ∧ (List.range n).foldl (fun s (c : Nat) => if P c then join s ((c : Int), (c : Int)) else s) (121, -1) = ((a : Int), (b : Int))
  | 0, _ => .inl ⟨by simp, rfl⟩
  | n + 1, hn => by
    rw [List.range_succ, List.foldl_append, List.foldl_cons, List.foldl_nil]
    rcases fold_ends P n (by omega) with ⟨h1, h2⟩ | ⟨a, b, h1, h2, h3, h4, h5, h6⟩
    · rw [h2]
      cases hp : P n with
      | true =>
        refine .inr ⟨n, n, by omega, by omega, hp, hp, fun c hc hpc => ?_, ?_⟩
        · by_cases hcn : c = n
          · omega
          · rw [h1 c (by omega)] at hpc; cases hpc
        · simp only [if_true, join]; exact Prod.ext (by simp only; omega) (by simp only; omega)
      | false =>
        refine .inl ⟨fun c hc => ?_, by simp⟩
        by_cases hcn : c = n
        · subst hcn; exact hp
        · exact h1 c (by omega)
    · rw [h6]
      cases hp : P n with
      | true =>
        refine .inr ⟨a, n, by omega, by omega, h3, hp, fun c hc hpc => ?_, ?_⟩
        · by_cases hcn : c = n
          · omega
          · have := h5 c (by omega) hpc; omega
        · simp only [if_true, join]; exact Prod.ext (by simp only; omega) (by simp only; omega)
      | false =>
        refine .inr ⟨a, b, h1, by omega, h3, h4, fun c hc hpc => ?_, by simp⟩
        by_cases hcn : c = n
        · subst hcn; rw [hp] at hpc; cases hpc
        · exact h5 c (by omega) hpc
theorem wide_ends : ∀ {l : List (Int × Int)}, (∀ x ∈ l, 0 ≤ x.1 ∧ x.1 ≤ x.2 ∧ x.2 ≤ 120) → l ≠ [] → (∃ x ∈ l, (wideL l).1 = x.1) ∧ (∃ x ∈ l, (wideL l).2 = x.2) ∧ ∀ x ∈ l, (wideL l).1 ≤ x.1 ∧ x.2 ≤ (wideL l).2 := by
  intro l
  induction l using snoc_ind with
  | h0 => intro _ h; exact absurd rfl h
  | h1 l a ih =>
    intro h _
    have ha := h a (by simp)
    rw [wideL_snoc]
    by_cases hl : l = []
    · subst hl
      refine ⟨⟨a, by simp, ?_⟩, ⟨a, by simp, ?_⟩, fun x hx => ?_⟩
      · show min 9223372036854775807 a.1 = a.1; omega
      · show max (-1) a.2 = a.2; omega
      · simp only [List.nil_append, List.mem_singleton] at hx; subst hx
        exact ⟨by show min 9223372036854775807 x.1 ≤ x.1; omega, by show x.2 ≤ max (-1) x.2; omega⟩
    · obtain ⟨⟨x, hx, ex⟩, ⟨y, hy, ey⟩, hall⟩ := ih (fun z hz => h z (by simp [hz])) hl
      refine ⟨?_, ?_, fun z hz => ?_⟩
      · by_cases hc : x.1 ≤ a.1
        · exact ⟨x, by simp [hx], by show min (wideL l).1 a.1 = x.1; omega⟩
        · exact ⟨a, by simp, by show min (wideL l).1 a.1 = a.1; omega⟩
      · by_cases hc : y.2 ≤ a.2
        · exact ⟨a, by simp, by show max (wideL l).2 a.2 = a.2; omega⟩
        · exact ⟨y, by simp [hy], by show max (wideL l).2 a.2 = y.2; omega⟩
      · rcases List.mem_append.1 hz with hz | hz
        · have := hall z hz
          exact ⟨by show min (wideL l).1 a.1 ≤ z.1; omega, by show z.2 ≤ max (wideL l).2 a.2; omega⟩
        · simp only [List.mem_singleton] at hz; subst hz
          exact ⟨by show min (wideL l).1 z.1 ≤ z.1; omega, by show z.2 ≤ max (wideL l).2 z.2; omega⟩
theorem would_wide {h : House} (hf : Fine h) {d w : Nat} (hd : d < h.days.length) (hw : w < h.ws.length) (hfree : h.days[d][w]'(by rw [hf.len _ (List.getElem_mem hd)]; exact hw) = -1) :
    (if (wouldFold h d w 121).2 < 0 then ((0, 0), 9) else (wouldFold h d w 121, 0) : (Int × Int) × Int) = if (wideL ((truthsE h).flatMap (canL h d w))).2 < 0 then ((0, 0), 9) else (wideL ((truthsE h).flatMap (canL h d w)), 0) := by
  have hcan : ∀ c : Nat, c < 121 → (canE h d w (c : Int) = true ↔ ∃ x ∈ (truthsE h).flatMap (canL h d w), x.1 ≤ (c : Int) ∧ (c : Int) ≤ x.2) := fun c hc => by
    unfold canE
    rw [List.any_eq_true]
    constructor
    · rintro ⟨fs, hm, ho⟩
      rw [okDay_with hf hd hw hfree (by omega) hm, decide_eq_true_eq] at ho
      exact ⟨canS h d w fs, List.mem_flatMap.2 ⟨fs, hm, by unfold canL; rw [if_pos (by omega)]; simp⟩, ho⟩
    · rintro ⟨x, hx, h1⟩
      obtain ⟨fs, hm, hx⟩ := List.mem_flatMap.1 hx
      unfold canL at hx
      split at hx
      · simp only [List.mem_singleton] at hx; subst hx
        exact ⟨fs, hm, by rw [okDay_with hf hd hw hfree (by omega) hm, decide_eq_true_eq]; exact h1⟩
      · cases hx
  have hall : ∀ x ∈ (truthsE h).flatMap (canL h d w), 0 ≤ x.1 ∧ x.1 ≤ x.2 ∧ x.2 ≤ 120 := fun x hx => by
    obtain ⟨fs, hm, hx⟩ := List.mem_flatMap.1 hx
    unfold canL at hx
    split at hx
    · rename_i hle
      simp only [List.mem_singleton] at hx; subst hx
      simp only [canS] at hle ⊢
      omega
    · cases hx
  generalize (truthsE h).flatMap (canL h d w) = l at hcan hall
  have hfold := fold_ends (fun c : Nat => canE h d w (c : Int)) 121 (Nat.le_refl _)
  rw [show (List.range 121).foldl (fun s (c : Nat) => if (fun c : Nat => canE h d w (c : Int)) c then join s ((c : Int), (c : Int)) else s) (121, -1) = wouldFold h d w 121 from rfl] at hfold
  by_cases hl : l = []
  · subst hl
    rcases hfold with ⟨_, h2⟩ | ⟨a, b, h1, h2, h3, _⟩
    · rw [h2]; rfl
    · obtain ⟨x, hx, _⟩ := (hcan a (by omega)).1 h3; cases hx
  · obtain ⟨⟨x, hx, ex⟩, ⟨y, hy, ey⟩, hb⟩ := wide_ends hall hl
    have hx' := hall x hx
    have hy' := hall y hy
    rcases hfold with ⟨h1, _⟩ | ⟨a, b, h1, h2, h3, h4, h5, h6⟩
    · have := h1 x.1.toNat (by omega)
      have h7 := (hcan x.1.toNat (by omega)).2 ⟨x, hx, by omega, by omega⟩
      rw [h7] at this; cases this
    · obtain ⟨u, hu, u1, u2⟩ := (hcan a (by omega)).1 h3
      obtain ⟨v, hv, v1, v2⟩ := (hcan b (by omega)).1 h4
      have q1 := h5 x.1.toNat (by omega) ((hcan x.1.toNat (by omega)).2 ⟨x, hx, by omega, by omega⟩)
      have q2 := h5 y.2.toNat (by omega) ((hcan y.2.toNat (by omega)).2 ⟨y, hy, by omega, by omega⟩)
      have q3 := hb u hu
      have q4 := hb v hv
      have : wideL l = ((a : Int), (b : Int)) := Prod.ext (by simp only; omega) (by simp only; omega)
      rw [this, h6]
theorem wouldE_eq {h : House} {d w : Int} : wouldE h d w = if wouldErr h d w ≠ 0 then ((0, 0), wouldErr h d w) else if truthsE h = [] then ((0, 0), 8) else
    if (wideL ((truthsE h).flatMap (canL h d.toNat w.toNat))).2 < 0 then ((0, 0), 9) else (wideL ((truthsE h).flatMap (canL h d.toNat w.toNat)), 0) := by
  unfold wouldE
  by_cases he : wouldErr h d w = 0
  · have he' := he
    unfold wouldErr at he'
    by_cases h1 : indexE h d h.days.length = 0
    · rw [if_neg (by omega)] at he'
      by_cases h2 : indexE h w h.ws.length = 0
      · rw [if_neg (by omega)] at he'
        obtain ⟨hf, d0, d1⟩ := indexE_zero h1
        obtain ⟨_, w0, w1⟩ := indexE_zero h2
        have hd : d.toNat < h.days.length := by omega
        have hw : w.toNat < h.ws.length := by omega
        have hlen := hf.len _ (List.getElem_mem hd)
        have hfree : h.days[d.toNat][w.toNat]'(by omega) = -1 := by
          rw [getD_eq hd, getI_eq (by omega)] at he'
          split at he'
          · cases he'
          · rename_i h3; omega
        have := would_wide hf hd hw hfree
        simp only [he, ne_eq, not_true, if_false]
        by_cases ht : truthsE h = []
        · simp [ht]
        · simp only [ht, if_false]; exact this
      · rw [if_pos h2] at he'; exact absurd he' h2
    · rw [if_pos h1] at he'; exact absurd he' h1
  · simp [he]
theorem wouldErr_enter {h : House} {d w : Int} : enterErr h [d, h.days.length, w, h.ws.length] (if getI (h.days.getD d.toNat []) w.toNat ≠ -1 then 5 else 0) = if wouldErr h d w ≠ 0 then wouldErr h d w else if truthsE h = [] then 8 else 0 := by
  unfold enterErr wouldErr indexE
  by_cases he : errE h = 0
  · have hp : (pairsOff [d, (h.days.length : Int), w, h.ws.length] = true) ↔ ¬ (0 ≤ d ∧ d ≤ (h.days.length : Int) - 1) ∨ ¬ (0 ≤ w ∧ w ≤ (h.ws.length : Int) - 1) := by
      simp only [pairsOff, offP, Bool.or_false, Bool.or_eq_true, decide_eq_true_eq]; omega
    simp only [he, ne_eq, not_true, if_false, if_true]
    by_cases hd : 0 ≤ d ∧ d ≤ (h.days.length : Int) - 1
    · by_cases hw : 0 ≤ w ∧ w ≤ (h.ws.length : Int) - 1
      · rw [if_neg (fun e => by rcases hp.1 e with h1 | h1; exact h1 hd; exact h1 hw)]
        simp only [hd, hw, and_self, if_true, not_true, if_false]
      · rw [if_pos (hp.2 (.inr hw))]; simp [hd, hw]
    · rw [if_pos (hp.2 (.inl hd))]; simp [hd]
  · simp [he]
theorem Would_run (v1 v2 : AV) (h : House) (d w : Int) (hh : IsHouse (Old H) H v1 v2 h) (hs : Sized h)
    (k : ∀ H', Grew H H' → R (.tuple [.agg [I (wouldE h d w).1.1, I (wouldE h d w).1.2], I (wouldE h d w).2]) H') : CallQ prog (.func 23 [] []) [.agg [v1, v2], I d, I w] H R := by
  have hg0 : Grew H (((((H.alloc (.cells false [v1, v2])).alloc (.cells false [I d])).alloc (.cells false [I w])).alloc (.cells false [I 0, I 0])).alloc (.cells false [I d, I h.days.length, I w, I h.ws.length])) := GW
  have hE := wouldErr_enter (h := h) (d := d) (w := w)
  have hwE : wouldE h d w = if enterErr h [d, h.days.length, w, h.ws.length] (if getI (h.days.getD d.toNat []) w.toNat ≠ -1 then 5 else 0) ≠ 0 then ((0, 0), enterErr h [d, h.days.length, w, h.ws.length] (if getI (h.days.getD d.toNat []) w.toNat ≠ -1 then 5 else 0)) else
      if (wideL ((truthsE h).flatMap (canL h d.toNat w.toNat))).2 < 0 then ((0, 0), 9) else (wideL ((truthsE h).flatMap (canL h d.toNat w.toNat)), 0) := by
    rw [hE, wouldE_eq]
    by_cases h1 : wouldErr h d w = 0
    · by_cases h2 : truthsE h = []
      · simp [h1, h2]
      · simp [h1, h2]
    · simp [h1]
  refine CallQ_enter (fn:=c23) rfl (Nat.le_of_ble_eq_true rfl) ?_;simp(maxSteps:=9999999)(disch:=first|omega|(simp only[AN];omega))only[c23,envFrom,hh.1.len,hh.2.len,↓KP,EK,↓reduceIte,reduceCtorEq,Nat.reduceEqDiff,Nat.reduceAdd,Nat.reduceLeDiff,Nat.reduceMul]
  have hin : errE h = 0 → pairsOff [d, (h.days.length : Int), w, h.ws.length] = false → Fine h ∧ (0 ≤ d ∧ d < h.days.length) ∧ (0 ≤ w ∧ w < h.ws.length) := fun he hp => by
    simp only [pairsOff, offP, Bool.or_false, Bool.or_eq_false_iff, decide_eq_false_iff_not] at hp
    exact ⟨fine_of he, by omega, by omega⟩
  refine C_call (enter_run v1 v2 _ _ h [d, h.days.length, w, h.ws.length] (if getI (h.days.getD d.toNat []) w.toNat ≠ -1 then 5 else 0) (hh.grow hg0) (four_slice _ _ _ _ _) (by simp) (fun j hj hodd => ?_) rfl (fun he hp H1 R hg hk => ?_) (fun he H1 hg => ?_) (fun he hfine hne H1 N p m hg hm hheld => ?_))
  · have : j = 1 ∨ j = 3 := by simp at hj; omega
    have := hs.ws
    have := hs.days
    rcases ‹j = 1 ∨ j = 3› with rfl | rfl <;> (simp only [List.getElem_cons_succ, List.getElem_cons_zero]; omega)
  · obtain ⟨hfine, hd, hw⟩ := hin he hp
    obtain ⟨d', rfl⟩ : ∃ d' : Nat, d = d' := ⟨d.toNat, by omega⟩
    obtain ⟨w', rfl⟩ : ∃ w' : Nat, w = w' := ⟨w.toNat, by omega⟩
    have hd' : d' < h.days.length := by omega
    have hlen := hfine.len _ (List.getElem_mem hd')
    refine twice_run _ _ _ v1 v2 h d' w' ((hh.grow hg0).grow hg) (by simp(maxSteps:=9999999)(disch:=first|omega|(simp only[AN];omega))only[hg.get,↓KP,EK,↓reduceIte,reduceCtorEq,Nat.reduceEqDiff,Nat.reduceAdd,Nat.reduceLeDiff,Nat.reduceMul]) (by simp(maxSteps:=9999999)(disch:=first|omega|(simp only[AN];omega))only[hg.get,↓KP,EK,↓reduceIte,reduceCtorEq,Nat.reduceEqDiff,Nat.reduceAdd,Nat.reduceLeDiff,Nat.reduceMul]) (by simp(maxSteps:=9999999)(disch:=first|omega|(simp only[AN];omega))only[hg.get,↓KP,EK,↓reduceIte,reduceCtorEq,Nat.reduceEqDiff,Nat.reduceAdd,Nat.reduceLeDiff,Nat.reduceMul]) hd' (by omega) ?_
    have := hk H1 (Grew.refl _)
    simp only [Int.toNat_natCast, getD_eq hd', getI_eq (show w' < h.days[d'].length by omega)] at this
    exact this
  · have hgn := hg.next; simp only [AH.next_alloc] at hgn
    rw [hwE, if_pos he] at k
    generalize enterErr h [d, h.days.length, w, h.ws.length] (if getI (h.days.getD d.toNat []) w.toNat ≠ -1 then 5 else 0) = er at he k
    simp(maxSteps:=9999999)(disch:=first|omega|(simp only[AN];omega))only[he,hg.get,↓KP,EK,↓reduceIte,reduceCtorEq,Nat.reduceEqDiff,Nat.reduceAdd,Nat.reduceLeDiff,Nat.reduceMul]
    refine k _ ?_
    exact GW
  · have hgn := hg.next; simp only [AH.next_alloc] at hgn
    have hpe : errE h = 0 ∧ pairsOff [d, (h.days.length : Int), w, h.ws.length] = false := by
      unfold enterErr at he
      by_cases h1 : errE h = 0
      · by_cases h2 : pairsOff [d, (h.days.length : Int), w, h.ws.length] = true
        · rw [if_neg (by omega), if_pos h2] at he; cases he
        · exact ⟨h1, by simpa using h2⟩
      · rw [if_pos h1] at he; exact absurd he h1
    obtain ⟨_, hd, hw⟩ := hin hpe.1 hpe.2
    rw [hwE, if_neg (by omega)] at k
    obtain ⟨d', rfl⟩ : ∃ d' : Nat, d = d' := ⟨d.toNat, by omega⟩
    obtain ⟨w', rfl⟩ : ∃ w' : Nat, w = w' := ⟨w.toNat, by omega⟩
    simp only [AH.next_alloc] at hm
    simp only [Int.toNat_natCast] at k
    have hmlt := hheld.look.mlt
    have hnle := hheld.look.nle
    simp(maxSteps:=9999999)(disch:=first|omega|(simp only[AN];omega))only[hg.get,↓KP,EK,↓reduceIte,reduceCtorEq,Nat.reduceEqDiff,Nat.reduceAdd,Nat.reduceLeDiff,Nat.reduceMul]
    have e0 : ((H1.alloc (.cells false [.nilptr])).set H1.next (.cells false [.ptr p 0])).get H.next = some (.cells false [v1, v2]) := by simp(maxSteps:=9999999)(disch:=first|omega|(simp only[AN];omega))only[hg.get,↓KP,EK,↓reduceIte,reduceCtorEq,Nat.reduceEqDiff,Nat.reduceAdd,Nat.reduceLeDiff,Nat.reduceMul]
    have e1 : ((H1.alloc (.cells false [.nilptr])).set H1.next (.cells false [.ptr p 0])).get (H.next + 1) = some (.cells false [I d']) := by simp(maxSteps:=9999999)(disch:=first|omega|(simp only[AN];omega))only[hg.get,↓KP,EK,↓reduceIte,reduceCtorEq,Nat.reduceEqDiff,Nat.reduceAdd,Nat.reduceLeDiff,Nat.reduceMul]
    have e2 : ((H1.alloc (.cells false [.nilptr])).set H1.next (.cells false [.ptr p 0])).get (H.next + 1 + 1) = some (.cells false [I w']) := by simp(maxSteps:=9999999)(disch:=first|omega|(simp only[AN];omega))only[hg.get,↓KP,EK,↓reduceIte,reduceCtorEq,Nat.reduceEqDiff,Nat.reduceAdd,Nat.reduceLeDiff,Nat.reduceMul]
    have e3 : ((H1.alloc (.cells false [.nilptr])).set H1.next (.cells false [.ptr p 0])).get (H.next + 1 + 1 + 1) = some (.cells false [I 0, I 0]) := by simp(maxSteps:=9999999)(disch:=first|omega|(simp only[AN];omega))only[hg.get,↓KP,EK,↓reduceIte,reduceCtorEq,Nat.reduceEqDiff,Nat.reduceAdd,Nat.reduceLeDiff,Nat.reduceMul]
    have e4 : ((H1.alloc (.cells false [.nilptr])).set H1.next (.cells false [.ptr p 0])).get H1.next = some (.cells false [.ptr p 0]) := by simp(maxSteps:=9999999)(disch:=first|omega|(simp only[AN];omega))only[↓KP,EK,↓reduceIte,reduceCtorEq,Nat.reduceEqDiff,Nat.reduceAdd,Nat.reduceLeDiff,Nat.reduceMul]
    have hh1 : Held N p m v1 v2 h 0 ((H1.alloc (.cells false [.nilptr])).set H1.next (.cells false [.ptr p 0])) := hheld.up GW
    have hold : ∀ b, b < H.next → ((H1.alloc (.cells false [.nilptr])).set H1.next (.cells false [.ptr p 0])).get b = H.get b := fun b hb => by simp(maxSteps:=9999999)(disch:=first|omega|(simp only[AN];omega))only[hg.get,↓KP,EK,↓reduceIte,reduceCtorEq,Nat.reduceEqDiff,Nat.reduceAdd,Nat.reduceLeDiff,Nat.reduceMul]
    have hBn : ((H1.alloc (.cells false [.nilptr])).set H1.next (.cells false [.ptr p 0])).next = H1.next + 1 := rfl
    generalize (H1.alloc (.cells false [.nilptr])).set H1.next (.cells false [.ptr p 0]) = B at e0 e1 e2 e3 e4 hh1 hold hBn
    have hwa : Watch1 N p m H1.next v1 v2 h 0 B B := ⟨hh1, fun _ _ _ => rfl, e4, by omega, hnle⟩
    have hit := can_iter (N := N) (p := p) (m := m) (b1 := H1.next) (bc := H.next) (bw := H.next + 1 + 1) (bd := H.next + 1) (w := w') (d := d') (v1 := v1) (v2 := v2) (h := h) (B := B) hfine (by omega) (by omega) ⟨e0, by omega, by omega⟩ ⟨e2, by omega, by omega⟩ ⟨e1, by omega, by omega⟩
    rw [lookE_zero] at hit
    refine C_call (wide_run hit hwa fun H2 hn2 hi2 hs2 => ?_)
    have f3 : H2.get (H.next + 1 + 1 + 1) = some (.cells false [I 0, I 0]) := by rw [hi2.base _ (by omega) (by omega)]; exact e3
    have hg2 : Grew H H2 := ⟨by omega, fun b hb => by rw [hi2.base _ (by omega) (by omega)]; exact hold b hb⟩
    generalize wideL ((truthsE h).flatMap (canL h d' w')) = W at k
    simp(maxSteps:=9999999)(disch:=first|omega|(simp only[AN];omega))only[↓KP,EK,↓reduceIte,reduceCtorEq,Nat.reduceEqDiff,Nat.reduceAdd,Nat.reduceLeDiff,Nat.reduceMul]
    refine C_decide (fun hneg => ?_) (fun hneg => ?_)
    · simp(maxSteps:=9999999)(disch:=first|omega|(simp only[AN];omega))only[f3,↓KP,EK,↓reduceIte,reduceCtorEq,Nat.reduceEqDiff,Nat.reduceAdd,Nat.reduceLeDiff,Nat.reduceMul]
      rw [if_pos hneg] at k
      refine k _ ?_
      exact GW
    · simp(maxSteps:=9999999)(disch:=first|omega|(simp only[AN];omega))only[f3,↓KP,EK,↓reduceIte,reduceCtorEq,Nat.reduceEqDiff,Nat.reduceAdd,Nat.reduceLeDiff,Nat.reduceMul]
      rw [if_neg hneg] at k
      refine k _ ?_
      exact GW
end Go.Proofs.Ytgncpbkedhchfaa
namespace Go.Proofs.Ytgncpbkedhchfaa
open Go.AM Go.IntWalk
set_option maxRecDepth 100000
set_option maxHeartbeats 4000000
set_option linter.unusedSimpArgs false
variable {H : AH} {R : AV → AH → Prop}
def nWolf : ByteArray := bs [119, 111, 108, 102]
def nBerta : ByteArray := bs [98, 101, 114, 116, 97]
def nCarl : ByteArray := bs [99, 97, 114, 108]
def houseE (more : List (List Int)) : House := ⟨[⟨nWolf, 100, 100, 0⟩, ⟨nBerta, 110, 116, 1⟩, ⟨nCarl, 94, 100, 1⟩], [[60, 53, -1], [-1, 90, 104]] ++ more⟩
theorem span_run (a b : Int) (k : ∀ H', Grew H H' → R (.agg [I a, I b]) H') : CallQ prog (.func 33 [] []) [I a, I b] H R := by
  refine CallQ_enter (fn:=c33) rfl (Nat.le_of_ble_eq_true rfl) ?_;simp(maxSteps:=9999999)(disch:=first|omega|(simp only[AN];omega))only[c33,envFrom,↓KP,EN,↓reduceIte,reduceCtorEq,Nat.reduceEqDiff,Nat.reduceAdd,Nat.reduceLeDiff,Nat.reduceMul]
  refine k _ ?_
  exact GW
theorem ratio_run (a b : Int) (k : ∀ H', Grew H H' → R (.agg [I a, I b]) H') : CallQ prog (.func 34 [] []) [I a, I b] H R := by
  refine CallQ_enter (fn:=c34) rfl (Nat.le_of_ble_eq_true rfl) ?_;simp(maxSteps:=9999999)(disch:=first|omega|(simp only[AN];omega))only[c34,envFrom,↓KP,EN,↓reduceIte,reduceCtorEq,Nat.reduceEqDiff,Nat.reduceAdd,Nat.reduceLeDiff,Nat.reduceMul]
  refine k _ ?_
  exact GW
theorem House_run (v : AV) (more : List (List Int)) (hv : IsSl 1 (ESl 1 EInt) (Old H) H v more) (hm : more.length ≤ 10) (k : ∀ H' v1 v2, Grew H H' → IsHouse (Old H') H' v1 v2 (houseE more) → R (.agg [v1, v2]) H') : CallQ prog (.func 32 [] []) [v] H R := by
  have hg0 := (Grew.refl H).alloc (.cells false [.nilslice, .nilslice])
  refine CallQ_enter (fn:=c32) rfl (Nat.le_of_ble_eq_true rfl) ?_;simp(maxSteps:=9999999)(disch:=first|omega|(simp only[AN];omega))only[c32,envFrom,↓KP,EN,↓reduceIte,reduceCtorEq,Nat.reduceEqDiff,Nat.reduceAdd,Nat.reduceLeDiff,Nat.reduceMul]
  first|refine C_call ?_|refine C_calld ?_
  refine span_run 100 100 fun H1 hg1 => ?_
  have hg1n:=hg1.next;try simp only[AN]at hg1n
  simp(maxSteps:=9999999)(disch:=first|omega|(simp only[AN];omega))only[↓KP,EN,↓reduceIte,reduceCtorEq,Nat.reduceEqDiff,Nat.reduceAdd,Nat.reduceLeDiff,Nat.reduceMul]
  first|refine C_call ?_|refine C_calld ?_
  refine span_run 110 116 fun H2 hg2 => ?_
  have hg2n:=hg2.next;try simp only[AN]at hg2n
  simp(maxSteps:=9999999)(disch:=first|omega|(simp only[AN];omega))only[↓KP,EN,↓reduceIte,reduceCtorEq,Nat.reduceEqDiff,Nat.reduceAdd,Nat.reduceLeDiff,Nat.reduceMul]
  first|refine C_call ?_|refine C_calld ?_
  refine span_run 94 100 fun H3 hg3 => ?_
  have hg3n:=hg3.next;try simp only[AN]at hg3n
  simp(maxSteps:=9999999)(disch:=first|omega|(simp only[AN];omega))only[↓KP,EN,↓reduceIte,reduceCtorEq,Nat.reduceEqDiff,Nat.reduceAdd,Nat.reduceLeDiff,Nat.reduceMul]
  have hg3' : Grew H H3 := ((hg0.trans hg1).trans hg2).trans hg3
  have hwcells : [AV.str (bs [119, 111, 108, 102]), I 100, I 100, I 0, AV.str (bs [98, 101, 114, 116, 97]), I 110, I 116, I 1, AV.str (bs [99, 97, 114, 108]), I 94, I 100, I 1] = [AV.str nWolf, I 100, I 100, I 0, AV.str nBerta, I 110, I 116, I 1, AV.str nCarl, I 94, I 100, I 1] := rfl
  have b0 : ((((H3.alloc (.cells false [AV.str (bs [119, 111, 108, 102]), I 100, I 100, I 0, AV.str (bs [98, 101, 114, 116, 97]), I 110, I 116, I 1, AV.str (bs [99, 97, 114, 108]), I 94, I 100, I 1])).alloc (.cells false [I 60, I 53, I (-1)])).alloc (.cells false [I (-1), I 90, I 104])).alloc (.cells false [.slice (H3.next + 1) 0 3 1, .slice (H3.next + 1 + 1) 0 3 1])).get H3.next = some (.cells false [AV.str nWolf, I 100, I 100, I 0, AV.str nBerta, I 110, I 116, I 1, AV.str nCarl, I 94, I 100, I 1]) := by simp(maxSteps:=9999999)(disch:=first|omega|(simp only[AN];omega))only[↓KP,EN,↓reduceIte,reduceCtorEq,Nat.reduceEqDiff,Nat.reduceAdd,Nat.reduceLeDiff,Nat.reduceMul]; rfl
  have b1 : ((((H3.alloc (.cells false [AV.str (bs [119, 111, 108, 102]), I 100, I 100, I 0, AV.str (bs [98, 101, 114, 116, 97]), I 110, I 116, I 1, AV.str (bs [99, 97, 114, 108]), I 94, I 100, I 1])).alloc (.cells false [I 60, I 53, I (-1)])).alloc (.cells false [I (-1), I 90, I 104])).alloc (.cells false [.slice (H3.next + 1) 0 3 1, .slice (H3.next + 1 + 1) 0 3 1])).get (H3.next + 1) = some (.cells false [I 60, I 53, I (-1)]) := by simp(maxSteps:=9999999)(disch:=first|omega|(simp only[AN];omega))only[↓KP,EN,↓reduceIte,reduceCtorEq,Nat.reduceEqDiff,Nat.reduceAdd,Nat.reduceLeDiff,Nat.reduceMul]
  have b2 : ((((H3.alloc (.cells false [AV.str (bs [119, 111, 108, 102]), I 100, I 100, I 0, AV.str (bs [98, 101, 114, 116, 97]), I 110, I 116, I 1, AV.str (bs [99, 97, 114, 108]), I 94, I 100, I 1])).alloc (.cells false [I 60, I 53, I (-1)])).alloc (.cells false [I (-1), I 90, I 104])).alloc (.cells false [.slice (H3.next + 1) 0 3 1, .slice (H3.next + 1 + 1) 0 3 1])).get (H3.next + 1 + 1) = some (.cells false [I (-1), I 90, I 104]) := by simp(maxSteps:=9999999)(disch:=first|omega|(simp only[AN];omega))only[↓KP,EN,↓reduceIte,reduceCtorEq,Nat.reduceEqDiff,Nat.reduceAdd,Nat.reduceLeDiff,Nat.reduceMul]
  have b3 : ((((H3.alloc (.cells false [AV.str (bs [119, 111, 108, 102]), I 100, I 100, I 0, AV.str (bs [98, 101, 114, 116, 97]), I 110, I 116, I 1, AV.str (bs [99, 97, 114, 108]), I 94, I 100, I 1])).alloc (.cells false [I 60, I 53, I (-1)])).alloc (.cells false [I (-1), I 90, I 104])).alloc (.cells false [.slice (H3.next + 1) 0 3 1, .slice (H3.next + 1 + 1) 0 3 1])).get (H3.next + 1 + 1 + 1) = some (.cells false [.slice (H3.next + 1) 0 3 1, .slice (H3.next + 1 + 1) 0 3 1]) := by simp(maxSteps:=9999999)(disch:=first|omega|(simp only[AN];omega))only[↓KP,EN,↓reduceIte,reduceCtorEq,Nat.reduceEqDiff,Nat.reduceAdd,Nat.reduceLeDiff,Nat.reduceMul]
  have hgB : Grew H3 ((((H3.alloc (.cells false [AV.str (bs [119, 111, 108, 102]), I 100, I 100, I 0, AV.str (bs [98, 101, 114, 116, 97]), I 110, I 116, I 1, AV.str (bs [99, 97, 114, 108]), I 94, I 100, I 1])).alloc (.cells false [I 60, I 53, I (-1)])).alloc (.cells false [I (-1), I 90, I 104])).alloc (.cells false [.slice (H3.next + 1) 0 3 1, .slice (H3.next + 1 + 1) 0 3 1])) := GW
  have hBn : ((((H3.alloc (.cells false [AV.str (bs [119, 111, 108, 102]), I 100, I 100, I 0, AV.str (bs [98, 101, 114, 116, 97]), I 110, I 116, I 1, AV.str (bs [99, 97, 114, 108]), I 94, I 100, I 1])).alloc (.cells false [I 60, I 53, I (-1)])).alloc (.cells false [I (-1), I 90, I 104])).alloc (.cells false [.slice (H3.next + 1) 0 3 1, .slice (H3.next + 1 + 1) 0 3 1])).next = H3.next + 4 := rfl
  generalize (((H3.alloc (.cells false [AV.str (bs [119, 111, 108, 102]), I 100, I 100, I 0, AV.str (bs [98, 101, 114, 116, 97]), I 110, I 116, I 1, AV.str (bs [99, 97, 114, 108]), I 94, I 100, I 1])).alloc (.cells false [I 60, I 53, I (-1)])).alloc (.cells false [I (-1), I 90, I 104])).alloc (.cells false [.slice (H3.next + 1) 0 3 1, .slice (H3.next + 1 + 1) 0 3 1]) = B at b0 b1 b2 b3 hgB hBn
  have r1 : ∀ F : Nat → Prop, F (H3.next + 1) → IsInts F B (.slice (H3.next + 1) 0 3 1) [60, 53, -1] := fun F hF => .inr ⟨_, _, [I 60, I 53, I (-1)], rfl, hF, by unfold AH.read; rw [b1]; rfl, ints_rows [60, 53, -1]⟩
  have r2 : ∀ F : Nat → Prop, F (H3.next + 1 + 1) → IsInts F B (.slice (H3.next + 1 + 1) 0 3 1) [-1, 90, 104] := fun F hF => .inr ⟨_, _, [I (-1), I 90, I 104], rfl, hF, by unfold AH.read; rw [b2]; rfl, ints_rows [-1, 90, 104]⟩
  have hmine : Mine 1 (ESl 1 EInt) (fun b => b < H.next ∨ (H3.next ≤ b ∧ b < H3.next + 3)) (H3.next + 3) B (.slice (H3.next + 1 + 1 + 1) 0 2 1) [[60, 53, -1], [-1, 90, 104]] :=
    .inr ⟨_, _, _, [.slice (H3.next + 1) 0 3 1, .slice (H3.next + 1 + 1) 0 3 1], rfl, by omega, by omega, b3, rfl, Rows.cons (cs := [.slice (H3.next + 1) 0 3 1]) rfl ⟨_, rfl, r1 _ ⟨by omega, by omega, .inl (.inr (by omega))⟩⟩ (Rows.single rfl ⟨_, rfl, r2 _ ⟨by omega, by omega, .inl (.inr (by omega))⟩⟩)⟩
  have hgHB := hg3'.trans hgB
  have hn := hg3'.next
  have hvB := (hv.grow (ESl.stays EInt.stays) hgHB)
  obtain ⟨cells, hsc, hrc⟩ := hvB.src
  have hvH : IsSl 1 (ESl 1 EInt) (fun b => b < H.next) B v more := hv.move (ESl.stays EInt.stays) fun b hb => ⟨hb, hgHB.get b hb⟩
  obtain ⟨cells', hsc', hrc'⟩ := hvH.src
  obtain rfl : cells = cells' := by rw [hsc] at hsc'; simpa using hsc'
  obtain ⟨v', H4, a1, a2, a3, a4⟩ := hmine.append (bytes := 24) (ESl.stays EInt.stays) (by omega) hv.lenA hsc (hrc'.mono fun cs a h => ESl.stays EInt.stays _ _ _ _ _ _ (fun b hb => ⟨⟨by omega, fun i n y e => by simp only [AV.slice.injEq] at e; omega, .inl (.inl hb)⟩, rfl⟩) h) (Rows.allCell (fun cs a => ESl.isCell _ _ cs a) hrc) (by simp [roomA]; omega)
  have hold : ∀ b, b < H3.next + 3 → H4.get b = B.get b := fun b hb => a4 b (by omega) (fun i n z e => by simp only [AV.slice.injEq] at e; omega)
  have hg4 : Grew H H4 := ⟨by omega, fun b hb => by rw [hold b (by omega), hgHB.get b hb]⟩
  have hbx : H4.get H.next = some (.cells false [.nilslice, .nilslice]) := by rw [hold _ (by omega), hgB.get _ (by omega)]; simp(maxSteps:=9999999)(disch:=first|omega|(simp only[AN];omega))only[hg3.get,hg2.get,hg1.get,↓KP,EN,↓reduceIte,reduceCtorEq,Nat.reduceEqDiff,Nat.reduceAdd,Nat.reduceLeDiff,Nat.reduceMul]
  simp(maxSteps:=9999999)(disch:=first|omega|(simp only[AN];omega))only[a1,a2.cells?,a2.isCell,hbx,↓KP,EN,↓reduceIte,reduceCtorEq,Nat.reduceEqDiff,Nat.reduceAdd,Nat.reduceLeDiff,Nat.reduceMul]
  have hgF : ∀ o, Grew H (H4.set H.next o) := fun o => GW
  refine k _ _ _ (hgF _) ⟨?_, ?_⟩
  · have hw : IsSl 4 EWatcher (fun b => b = H3.next) H4 (.slice H3.next 0 3 4) (houseE more).ws := .inr ⟨_, _, [AV.str nWolf, I 100, I 100, I 0, AV.str nBerta, I 110, I 116, I 1, AV.str nCarl, I 94, I 100, I 1], rfl, rfl, by unfold AH.read; rw [hold _ (by omega), b0]; rfl, Rows.cons (cs := [AV.str nWolf, I 100, I 100, I 0]) rfl rfl (Rows.cons (cs := [AV.str nBerta, I 110, I 116, I 1]) rfl rfl (Rows.single rfl rfl))⟩
    exact hw.move EWatcher.stays fun b hb => ⟨by subst hb; show H3.next < H4.next; omega, get_set_other (by omega)⟩
  · have := a2.move (ESl.stays EInt.stays) (H' := H4.set H.next (.cells false [.slice H3.next 0 3 4, v'])) (fun b hb hb' => get_set_other ?_) (Nat.le_refl _)
    · exact this.sl (ESl.stays EInt.stays)
    · rcases hb' with (h | h) | h <;> omega
theorem n1 : isName nWolf = true := by unfold isName nWolf; rw [ByteArray.toList_eq]; decide
theorem n2 : isName nBerta = true := by unfold isName nBerta; rw [ByteArray.toList_eq]; decide
theorem n3 : isName nCarl = true := by unfold isName nCarl; rw [ByteArray.toList_eq]; decide
theorem n12 : (nWolf.toList == nBerta.toList) = false := by unfold nWolf nBerta; rw [ByteArray.toList_eq, ByteArray.toList_eq]; decide
theorem n13 : (nWolf.toList == nCarl.toList) = false := by unfold nWolf nCarl; rw [ByteArray.toList_eq, ByteArray.toList_eq]; decide
theorem n23 : (nBerta.toList == nCarl.toList) = false := by unfold nBerta nCarl; rw [ByteArray.toList_eq, ByteArray.toList_eq]; decide
theorem errE_house (more : List (List Int)) (hm : more.length ≤ 2) (hd : firstErr (dE (houseE more)) 0 (houseE more).days = none) : errE (houseE more) = 0 := by
  have hw : firstErr (wE (houseE more)) 0 (houseE more).ws = none := by
    have f1 : freshE nWolf [] = 0 := by simp [freshE, n1]
    have f2 : freshE nBerta [nWolf] = 0 := by simp [freshE, n2, n12]
    have f3 : freshE nCarl [nWolf, nBerta] = 0 := by simp [freshE, n3, n13, n23]
    have w1 : watcherE ⟨nWolf, 100, 100, 0⟩ = 0 := by unfold watcherE endsE; decide
    have w2 : watcherE ⟨nBerta, 110, 116, 1⟩ = 0 := by unfold watcherE endsE; decide
    have w3 : watcherE ⟨nCarl, 94, 100, 1⟩ = 0 := by unfold watcherE endsE; decide
    simp [houseE, firstErr, wE, f1, f2, f3, w1, w2, w3]
  have q1 : ¬ 4 < (houseE more).days.length := by simp [houseE]; omega
  have q2 : ¬ 3 < (houseE more).ws.length := by simp [houseE]
  unfold errE checkE
  rw [hw, hd, if_neg q2]
  simp only []
  rw [if_neg q1]
theorem ex_err : errE (houseE []) = 0 := errE_house [] (by simp) (by decide +kernel)
theorem ex_err2 : errE (houseE [[50, -1, 60]]) = 0 := errE_house [[50, -1, 60]] (by simp) (by decide +kernel)
theorem ex_factor : factorE (houseE []) 2 = ((95, 100), 0) := by
  unfold factorE indexE; rw [ex_err]; decide +kernel
theorem ex_number : numberE (houseE []) 1 = ((9968, 10465), 0) := by
  unfold numberE indexE; rw [ex_err]; decide +kernel
theorem ex_would : wouldE (houseE []) 0 2 = ((59, 64), 0) := by
  rw [wouldE_eq]; unfold wouldErr indexE; rw [ex_err]; decide +kernel
theorem ex_would0 : wouldE (houseE []) 0 0 = ((0, 0), 5) := by
  rw [wouldE_eq]; unfold wouldErr indexE; rw [ex_err]; decide +kernel
theorem ex_between : betweenE (houseE []) 1 2 = (((57, 50), (112, 95)), 0) := by
  unfold betweenE pairErr indexE; rw [ex_err]; decide +kernel
theorem ex_next : nextE (houseE []) = ((0, 2), 0) := by
  unfold nextE; rw [ex_err]; decide +kernel
theorem ex_wrong : wrongE (houseE [[50, -1, 60]]) = ([6], 0) := by
  unfold wrongE; rw [ex_err2]; decide +kernel
theorem ex_zero : factorE (houseE [[50, -1, 60]]) 0 = ((0, 0), 8) := by
  unfold factorE indexE; rw [ex_err2]; decide +kernel
theorem sized_house (more : List (List Int)) (h : more.length ≤ 10) : Sized (houseE more) := by
  refine ⟨fun w hw => ?_, by simp [houseE], by simp [houseE]; omega⟩
  simp only [houseE, List.mem_cons, List.not_mem_nil, or_false] at hw
  rcases hw with rfl | rfl | rfl <;> (show ByteArray.size _ ≤ _; decide)
theorem Awake_run (k : ∀ H', Grew H H' → R (.bool true) H') : CallQ prog (.func 22 [] []) [] H R := by
  refine CallQ_enter (fn:=c22) rfl (Nat.le_of_ble_eq_true rfl) ?_;simp(maxSteps:=9999999)(disch:=first|omega|(simp only[AN];omega))only[c22,envFrom,↓KP,EN,↓reduceIte,reduceCtorEq,Nat.reduceEqDiff,Nat.reduceAdd,Nat.reduceLeDiff,Nat.reduceMul]
  refine C_call (House_run .nilslice [] (.inl ⟨rfl, rfl⟩) (by simp) fun H1 a1 a2 hg1 hh1 => ?_)
  have hg1n := hg1.next
  have hsl : IsSl 1 (ESl 1 EInt) (Old ((H1.alloc (.cells false [I 50, I (-1), I 60])).alloc (.cells false [.slice H1.next 0 3 1]))) ((H1.alloc (.cells false [I 50, I (-1), I 60])).alloc (.cells false [.slice H1.next 0 3 1])) (.slice (H1.next + 1) 0 1 1) [[50, -1, 60]] :=
    .inr ⟨_, _, [.slice H1.next 0 3 1], rfl, by show H1.next + 1 < H1.next + 1 + 1; omega, by simp(maxSteps:=9999999)(disch:=first|omega|(simp only[AN];omega))only[↓KP,EN,↓reduceIte,reduceCtorEq,Nat.reduceEqDiff,Nat.reduceAdd,Nat.reduceLeDiff,Nat.reduceMul]; rfl, Rows.single rfl ⟨_, rfl, .inr ⟨_, _, [I 50, I (-1), I 60], rfl, by show H1.next < H1.next + 1 + 1; omega, by simp [AH.read, AH.get_alloc, readN], ints_rows [50, -1, 60]⟩⟩⟩
  simp(maxSteps:=9999999)(disch:=first|omega|(simp only[AN];omega))only[↓KP,EN,↓reduceIte,reduceCtorEq,Nat.reduceEqDiff,Nat.reduceAdd,Nat.reduceLeDiff,Nat.reduceMul]
  refine C_call (House_run _ [[50, -1, 60]] hsl (by simp) fun H2 b1 b2 hg2 hh2 => ?_)
  have hg2n := hg2.next; simp only [AH.next_alloc] at hg2n
  have hh1' : IsHouse (Old H2) H2 a1 a2 (houseE []) := hh1.grow (Grew.trans GW hg2)
  have hg2' : Grew H H2 := Grew.trans GW hg2
  simp(maxSteps:=9999999)(disch:=first|omega|(simp only[AN];omega))only[hh1'.1.isCell,hh1'.2.isCell,hh2.1.isCell,hh2.2.isCell,↓KP,EN,↓reduceIte,reduceCtorEq,Nat.reduceEqDiff,Nat.reduceAdd,Nat.reduceLeDiff,Nat.reduceMul]
  first|refine C_call ?_|refine C_calld ?_
  refine Factor_run a1 a2 (houseE []) 2 (hh1'.grow GW) (sized_house _ (by simp)) fun H3 hg3 => ?_
  have hg3n:=hg3.next;try simp only[AN]at hg3n
  rw [ex_factor]
  simp(maxSteps:=9999999)(disch:=first|omega|(simp only[AN];omega))only[hg3.get,↓KP,EN,↓reduceIte,reduceCtorEq,Nat.reduceEqDiff,Nat.reduceAdd,Nat.reduceLeDiff,Nat.reduceMul]
  first|refine C_call ?_|refine C_calld ?_
  refine Number_run a1 a2 (houseE []) 1 (hh1'.grow GW) (sized_house _ (by simp)) fun H4 hg4 => ?_
  have hg4n:=hg4.next;try simp only[AN]at hg4n
  rw [ex_number]
  simp(maxSteps:=9999999)(disch:=first|omega|(simp only[AN];omega))only[hg4.get,hg3.get,↓KP,EN,↓reduceIte,reduceCtorEq,Nat.reduceEqDiff,Nat.reduceAdd,Nat.reduceLeDiff,Nat.reduceMul]
  first|refine C_call ?_|refine C_calld ?_
  refine Would_run a1 a2 (houseE []) 0 2 (hh1'.grow GW) (sized_house _ (by simp)) fun H5 hg5 => ?_
  have hg5n:=hg5.next;try simp only[AN]at hg5n
  rw [ex_would]
  simp(maxSteps:=9999999)(disch:=first|omega|(simp only[AN];omega))only[hg5.get,hg4.get,hg3.get,↓KP,EN,↓reduceIte,reduceCtorEq,Nat.reduceEqDiff,Nat.reduceAdd,Nat.reduceLeDiff,Nat.reduceMul]
  first|refine C_call ?_|refine C_calld ?_
  refine pBetween_run a1 a2 (houseE []) 1 2 (hh1'.grow GW) (sized_house _ (by simp)) fun H6 hg6 => ?_
  have hg6n:=hg6.next;try simp only[AN]at hg6n
  rw [ex_between]
  simp(maxSteps:=9999999)(disch:=first|omega|(simp only[AN];omega))only[hg6.get,hg5.get,hg4.get,hg3.get,↓KP,EN,↓reduceIte,reduceCtorEq,Nat.reduceEqDiff,Nat.reduceAdd,Nat.reduceLeDiff,Nat.reduceMul]
  first|refine C_call ?_|refine C_calld ?_
  refine pNext_run a1 a2 (houseE []) (hh1'.grow GW) fun H7 hg7 => ?_
  have hg7n:=hg7.next;try simp only[AN]at hg7n
  rw [ex_next]
  simp(maxSteps:=9999999)(disch:=first|omega|(simp only[AN];omega))only[hg7.get,hg6.get,hg5.get,hg4.get,hg3.get,↓KP,EN,↓reduceIte,reduceCtorEq,Nat.reduceEqDiff,Nat.reduceAdd,Nat.reduceLeDiff,Nat.reduceMul]
  refine C_call (Wrong_run b1 b2 (houseE [[50, -1, 60]]) (hh2.grow GW) fun H8 v8 hg8 hv8 => ?_)
  have hg8n := hg8.next; try simp only [AH.next_alloc, AH.next_set] at hg8n
  rw [ex_wrong] at hv8 ⊢
  simp(maxSteps:=9999999)(disch:=first|omega|(simp only[AN];omega))only[hg8.get,hg7.get,hg6.get,hg5.get,hg4.get,hg3.get,↓KP,EN,↓reduceIte,reduceCtorEq,Nat.reduceEqDiff,Nat.reduceAdd,Nat.reduceLeDiff,Nat.reduceMul]
  first|refine C_call ?_|refine C_calld ?_
  refine Factor_run b1 b2 (houseE [[50, -1, 60]]) 0 (hh2.grow GW) (sized_house _ (by simp)) fun H9 hg9 => ?_
  have hg9n:=hg9.next;try simp only[AN]at hg9n
  rw [ex_zero]
  simp(maxSteps:=9999999)(disch:=first|omega|(simp only[AN];omega))only[hg9.get,hg8.get,hg7.get,hg6.get,hg5.get,hg4.get,hg3.get,↓KP,EN,↓reduceIte,reduceCtorEq,Nat.reduceEqDiff,Nat.reduceAdd,Nat.reduceLeDiff,Nat.reduceMul]
  first|refine C_call ?_|refine C_calld ?_
  refine Would_run a1 a2 (houseE []) 0 0 (hh1'.grow GW) (sized_house _ (by simp)) fun H10 hg10 => ?_
  have hg10n:=hg10.next;try simp only[AN]at hg10n
  rw [ex_would0]
  simp(maxSteps:=9999999)(disch:=first|omega|(simp only[AN];omega))only[hg10.get,hg9.get,hg8.get,hg7.get,hg6.get,hg5.get,hg4.get,hg3.get,↓KP,EN,↓reduceIte,reduceCtorEq,Nat.reduceEqDiff,Nat.reduceAdd,Nat.reduceLeDiff,Nat.reduceMul]
  have eqs : ∀ a b : Int, eqFlatA true [.i, .i] (.agg [I a, I b]) (.agg [I a, I b]) = some true := fun a b => by simp [eqFlatA, eqCells]
  refine K_draw ?_
  simp(maxSteps:=9999999)(disch:=first|omega|(simp only[AN];omega))only[eqs,hg10.get,hg9.get,hg8.get,hg7.get,hg6.get,hg5.get,hg4.get,hg3.get,↓KP,EN,↓reduceIte,reduceCtorEq,Nat.reduceEqDiff,Nat.reduceAdd,Nat.reduceLeDiff,Nat.reduceMul]
  first|refine C_call ?_|refine C_calld ?_
  refine span_run 95 100 fun H11 hg11 => ?_
  have hg11n:=hg11.next;try simp only[AN]at hg11n
  simp(maxSteps:=9999999)(disch:=first|omega|(simp only[AN];omega))only[eqs,hg11.get,hg10.get,hg9.get,hg8.get,hg7.get,hg6.get,hg5.get,hg4.get,hg3.get,↓KP,EN,↓reduceIte,reduceCtorEq,Nat.reduceEqDiff,Nat.reduceAdd,Nat.reduceLeDiff,Nat.reduceMul]
  first|refine C_call ?_|refine C_calld ?_
  refine span_run 9968 10465 fun H12 hg12 => ?_
  have hg12n:=hg12.next;try simp only[AN]at hg12n
  simp(maxSteps:=9999999)(disch:=first|omega|(simp only[AN];omega))only[eqs,hg12.get,hg11.get,hg10.get,hg9.get,hg8.get,hg7.get,hg6.get,hg5.get,hg4.get,hg3.get,↓KP,EN,↓reduceIte,reduceCtorEq,Nat.reduceEqDiff,Nat.reduceAdd,Nat.reduceLeDiff,Nat.reduceMul]
  first|refine C_call ?_|refine C_calld ?_
  refine span_run 59 64 fun H13 hg13 => ?_
  have hg13n:=hg13.next;try simp only[AN]at hg13n
  simp(maxSteps:=9999999)(disch:=first|omega|(simp only[AN];omega))only[eqs,hg13.get,hg12.get,hg11.get,hg10.get,hg9.get,hg8.get,hg7.get,hg6.get,hg5.get,hg4.get,hg3.get,↓KP,EN,↓reduceIte,reduceCtorEq,Nat.reduceEqDiff,Nat.reduceAdd,Nat.reduceLeDiff,Nat.reduceMul]
  first|refine C_call ?_|refine C_calld ?_
  refine ratio_run 57 50 fun H14 hg14 => ?_
  have hg14n:=hg14.next;try simp only[AN]at hg14n
  simp(maxSteps:=9999999)(disch:=first|omega|(simp only[AN];omega))only[eqs,hg14.get,hg13.get,hg12.get,hg11.get,hg10.get,hg9.get,hg8.get,hg7.get,hg6.get,hg5.get,hg4.get,hg3.get,↓KP,EN,↓reduceIte,reduceCtorEq,Nat.reduceEqDiff,Nat.reduceAdd,Nat.reduceLeDiff,Nat.reduceMul]
  first|refine C_call ?_|refine C_calld ?_
  refine ratio_run 112 95 fun H15 hg15 => ?_
  have hg15n:=hg15.next;try simp only[AN]at hg15n
  simp(maxSteps:=9999999)(disch:=first|omega|(simp only[AN];omega))only[eqs,hg15.get,hg14.get,hg13.get,hg12.get,hg11.get,hg10.get,hg9.get,hg8.get,hg7.get,hg6.get,hg5.get,hg4.get,hg3.get,↓KP,EN,↓reduceIte,reduceCtorEq,Nat.reduceEqDiff,Nat.reduceAdd,Nat.reduceLeDiff,Nat.reduceMul]
  refine C_calld (Ints_run v8 _ [6] [6] (hv8.grow EInt.stays GW) (one_slice H15 6) (by simp) ?_)
  simp(maxSteps:=9999999)(disch:=first|omega|(simp only[AN];omega))only[hg15.get,hg14.get,hg13.get,hg12.get,hg11.get,hg10.get,hg9.get,hg8.get,hg7.get,hg6.get,hg5.get,hg4.get,hg3.get,↓KP,EN,↓reduceIte,reduceCtorEq,Nat.reduceEqDiff,Nat.reduceAdd,Nat.reduceLeDiff,Nat.reduceMul]
  exact k _ GW
end Go.Proofs.Ytgncpbkedhchfaa
namespace Go.Proofs.Ytgncpbkedhchfaa
open Go.AM Go.IntWalk
set_option maxRecDepth 100000
set_option maxHeartbeats 4000000
set_option linter.unusedSimpArgs false
variable {H : AH} {R : AV → AH → Prop}
theorem eqs2 (a b : Int) : eqFlatA true [.i, .i] (.agg [I a, I b]) (.agg [I a, I b]) = some true := by simp [eqFlatA, eqCells]
theorem ix20 (b : Nat) (S : AH) : opIdxArr 2 1 (.ptr b 0) (I 0) S = some (.ptr b 0, S) := rfl
theorem ix21 (b : Nat) (S : AH) : opIdxArr 2 1 (.ptr b 0) (I 1) S = some (.ptr b 1, S) := rfl
end Go.Proofs.Ytgncpbkedhchfaa
namespace Go.Proofs.Ytgncpbkedhchfaa
open Go.AM Go.IntWalk
set_option maxRecDepth 100000
set_option maxHeartbeats 4000000
set_option linter.unusedSimpArgs false
variable {H : AH} {R : AV → AH → Prop}
def validE (h : House) : Bool := decide (errE h = 0)
def someE (h : House) : Bool := validE h && decide (0 < (truthsE h).length)
theorem valid_run (v1 v2 : AV) (h : House) (hh : IsHouse (Old H) H v1 v2 h) (hs : Sized h) (k : ∀ H', Grew H H' → R (.bool (validE h)) H') : CallQ prog (.func 35 [] []) [.agg [v1, v2]] H R := by
  refine CallQ_enter (fn:=c35) rfl (Nat.le_of_ble_eq_true rfl) ?_;simp(maxSteps:=9999999)(disch:=first|omega|(simp only[AN];omega))only[c35,envFrom,hh.1.isCell,hh.2.isCell,↓KP,EN,↓reduceIte,reduceCtorEq,Nat.reduceEqDiff,Nat.reduceAdd,Nat.reduceLeDiff,Nat.reduceMul]
  first|refine C_call ?_|refine C_calld ?_
  refine rCheck_run v1 v2 h (hh.grow GW) hs.name hs.ws hs.days fun H1 hg1 => ?_
  have hg1n:=hg1.next;try simp only[AN]at hg1n
  simp(maxSteps:=9999999)(disch:=first|omega|(simp only[AN];omega))only[hg1.get,↓KP,EN,↓reduceIte,reduceCtorEq,Nat.reduceEqDiff,Nat.reduceAdd,Nat.reduceLeDiff,Nat.reduceMul]
  exact k _ GW
theorem some2_run (v1 v2 : AV) (h : House) (hh : IsHouse (Old H) H v1 v2 h) (hs : Sized h) (k : ∀ H', Grew H H' → R (.bool (someE h)) H') : CallQ prog (.func 41 [] []) [.agg [v1, v2]] H R := by
  refine CallQ_enter (fn:=c41) rfl (Nat.le_of_ble_eq_true rfl) ?_;simp(maxSteps:=9999999)(disch:=first|omega|(simp only[AN];omega))only[c41,envFrom,hh.1.isCell,hh.2.isCell,↓KP,EN,↓reduceIte,reduceCtorEq,Nat.reduceEqDiff,Nat.reduceAdd,Nat.reduceLeDiff,Nat.reduceMul]
  first|refine C_call ?_|refine C_calld ?_
  refine valid_run v1 v2 h (hh.grow GW) hs fun H1 hg1 => ?_
  have hg1n:=hg1.next;try simp only[AN]at hg1n
  cases hv : validE h with
  | false =>
    rw [someE, hv, Bool.false_and] at k
    simp(maxSteps:=9999999)(disch:=first|omega|(simp only[AN];omega))only[hg1.get,↓KP,EN,↓reduceIte,reduceCtorEq,Nat.reduceEqDiff,Nat.reduceAdd,Nat.reduceLeDiff,Nat.reduceMul]
    exact k _ GW
  | true =>
    rw [someE, hv, Bool.true_and] at k
    have hf : Fine h := fine_of (of_decide_eq_true hv)
    have hl := truthsE_length hf
    simp(maxSteps:=9999999)(disch:=first|omega|(simp only[AN];omega))only[hg1.get,↓KP,EN,↓reduceIte,reduceCtorEq,Nat.reduceEqDiff,Nat.reduceAdd,Nat.reduceLeDiff,Nat.reduceMul]
    first|refine C_call ?_|refine C_calld ?_
    refine Truths_run v1 v2 h (hh.grow GW) hf fun H2 v hg2 hv2 => ?_
    have hg2n := hg2.next
    simp(maxSteps:=9999999)(disch:=first|omega|(simp only[AN];omega))only[hv2.len,↓KP,EN,↓reduceIte,reduceCtorEq,Nat.reduceEqDiff,Nat.reduceAdd,Nat.reduceLeDiff,Nat.reduceMul]
    have : decide ((0 : Int) < ((truthsE h).length : Int)) = decide (0 < (truthsE h).length) := decide_eq_decide.2 (by omega)
    rw [this]
    exact k _ GW
end Go.Proofs.Ytgncpbkedhchfaa
namespace Go.Proofs.Ytgncpbkedhchfaa
def leE (p q : Int × Int) : Prop := p.1 * q.2 ≤ q.1 * p.2
end Go.Proofs.Ytgncpbkedhchfaa
namespace Go.Proofs.Ytgncpbkedhchfaa
open Go.AM Go.IntWalk
set_option maxRecDepth 100000
set_option maxHeartbeats 4000000
set_option linter.unusedSimpArgs false
variable {H : AH} {R : AV → AH → Prop}
theorem someE_true {h : House} (hs : someE h = true) : errE h = 0 ∧ Fine h ∧ truthsE h ≠ [] := by
  simp only [someE, validE, Bool.and_eq_true, decide_eq_true_eq] at hs
  exact ⟨hs.1, fine_of hs.1, fun h0 => by rw [h0] at hs; exact absurd hs.2 (by decide)⟩
structure Quots (h : House) (a b : Nat) (P : (Int × Int) × (Int × Int)) : Prop where
  ok : betweenE h a b = (P, 0)
  i1 : InR 300 P.1
  i2 : InR 300 P.2
  all : ∀ fs ∈ truthsE h, leE P.1 (lowE (getI fs a) (getI fs b)) ∧ leE (lowE (getI fs a) (getI fs b)) P.2
  m1 : ∃ fs ∈ truthsE h, P.1 = lowE (getI fs a) (getI fs b)
  m2 : ∃ fs ∈ truthsE h, P.2 = lowE (getI fs a) (getI fs b)
section
variable {h : House} {a b c : Nat} {P Q T V : (Int × Int) × (Int × Int)}
end
end Go.Proofs.Ytgncpbkedhchfaa
namespace Go.Proofs.Ytgncpbkedhchfaa
theorem okE_iff {h : House} (hf : Fine h) {fs : List Int} (hl : fs.length = h.ws.length) : okE h fs = true ↔ ∀ d, d < h.days.length → ∃ n, Sat h fs d n := by
  rw [okE, List.all_eq_true]
  constructor
  · intro h1 d hd
    exact (okDay_iff hf hd hl).1 (h1 d (List.mem_range.2 hd))
  · intro h1 d hd
    have hd := List.mem_range.1 hd
    exact (okDay_iff hf hd hl).2 (h1 d hd)
theorem truths_same {h h' : House} (hf : Fine h) (hf' : Fine h') (hw : h'.ws = h.ws) (hs : ∀ fs ∈ allE h, (∀ d, d < h'.days.length → ∃ n, Sat h' fs d n) ↔ (∀ d, d < h.days.length → ∃ n, Sat h fs d n)) : truthsE h' = truthsE h := by
  have ea : allE h' = allE h := by simp only [allE, hw]
  rw [truthsE, truthsE, ea]
  refine List.filter_congr fun fs hfs => ?_
  have hl := (mem_all.1 hfs).1
  rw [Bool.eq_iff_iff, okE_iff hf' (by rw [hw]; exact hl), okE_iff hf hl]
  exact hs fs hfs
def aloneE (h : House) : House := { h with days := h.days ++ [List.replicate h.ws.length (-1)] }
section
variable {h : House}
theorem aloneE_len : (aloneE h).days.length = h.days.length + 1 := by simp [aloneE]
theorem aloneE_old {d : Nat} (hd : d < h.days.length) : dayOf (aloneE h) d = dayOf h d := by
  simp only [dayOf, aloneE, List.getD_eq_getElem?_getD, List.getElem?_append_left hd]
theorem aloneE_new : dayOf (aloneE h) h.days.length = List.replicate h.ws.length (-1) := by
  simp [dayOf, aloneE, List.getD_eq_getElem?_getD]
theorem aloneE_err (he : errE h = 0) (h4 : h.days.length ≠ 4) : errE (aloneE h) = 0 := by
  have hf := fine_of he
  have := hf.days
  refine errE_days he rfl (by rw [aloneE_len]; omega) fun day hday => ?_
  rcases List.mem_append.1 hday with hm | hm
  · exact ⟨hf.len _ hm, hf.count _ hm⟩
  · simp only [List.mem_singleton] at hm
    subst hm
    refine ⟨by simp, fun c hc => ?_⟩
    have := List.eq_of_mem_replicate hc
    omega
theorem aloneE_sat {d : Nat} (hd : d < h.days.length) {fs : List Int} {n : Int} : Sat (aloneE h) fs d n ↔ Sat h fs d n := by
  unfold Sat
  rw [aloneE_old hd]; exact Iff.rfl
theorem getI_rep {n i : Nat} {x : Int} (hi : i < n) : getI (List.replicate n x) i = x := by
  rw [getI_eq (by simpa using hi)]; simp
theorem aloneE_free {w : Nat} (hw : w < h.ws.length) : getI (dayOf (aloneE h) h.days.length) w = -1 := by rw [aloneE_new, getI_rep hw]
theorem aloneE_sat_new {fs : List Int} {n : Int} : Sat (aloneE h) fs h.days.length n ↔ (0 ≤ n ∧ n ≤ 39999) := by
  refine ⟨fun h => h.1, fun hn => ⟨hn, fun i hi hne => absurd (aloneE_free (h := h) (w := i) hi) hne⟩⟩
theorem aloneE_truths (he : errE h = 0) (h4 : h.days.length ≠ 4) : truthsE (aloneE h) = truthsE h := by
  refine truths_same (fine_of he) (fine_of (aloneE_err he h4)) rfl fun fs _ => ⟨fun h1 d hd => ?_, fun h1 d hd => ?_⟩
  · obtain ⟨n, hn⟩ := h1 d (by rw [aloneE_len]; omega)
    exact ⟨n, (aloneE_sat hd).1 hn⟩
  · rw [aloneE_len] at hd
    by_cases e : d = h.days.length
    · subst e; exact ⟨0, aloneE_sat_new.2 (by omega)⟩
    · obtain ⟨n, hn⟩ := h1 d (by omega)
      exact ⟨n, (aloneE_sat (by omega)).2 hn⟩
theorem alone1_truths (he : errE h = 0) (h4 : h.days.length ≠ 4) {w : Nat} (hw : w < h.ws.length) {c : Int} (hc : 0 ≤ c ∧ c ≤ 120) : truthsE (withE (aloneE h) h.days.length w c) = truthsE h := by
  have he2 := aloneE_err he h4
  have hf := fine_of he
  have hf2 := fine_of he2
  have hlt : h.days.length < (aloneE h).days.length := by rw [aloneE_len]; omega
  rw [← aloneE_truths he h4]
  refine truths_same hf2 (hf2.withE hlt (by omega)) rfl fun fs hfs => ⟨fun h1 d hd => ?_, fun h1 d hd => ?_⟩
  · obtain ⟨n, hn⟩ := h1 d (by rw [withE_len]; exact hd)
    by_cases e : d = h.days.length
    · subst e; exact ⟨0, aloneE_sat_new.2 (by omega)⟩
    · exact ⟨n, (withE_other hlt e).1 hn⟩
  · rw [withE_len] at hd
    by_cases e : d = h.days.length
    · subst e
      have hb := hf.w hw
      have hfw := (mem_all.1 hfs).2 w hw
      have hfw' : h.ws[w].lo ≤ getI fs w ∧ getI fs w ≤ h.ws[w].hi := hfw
      refine ⟨getI fs w * max 0 (c - h.ws[w].off), (withE_sat hf2 hlt hw (aloneE_free hw) (by omega)).2 ⟨aloneE_sat_new.2 ⟨Int.mul_nonneg (by omega) (by omega), ?_⟩, Int.le_refl _, ?_⟩⟩
      · have := Int.mul_le_mul (show getI fs w ≤ 300 by omega) (show max 0 (c - h.ws[w].off) ≤ 120 by omega) (by omega) (by omega)
        omega
      · exact Int.mul_le_mul_of_nonneg_left (show max 0 (c - h.ws[w].off) ≤ c + h.ws[w].off by omega) (by omega)
    · obtain ⟨n, hn⟩ := h1 d hd
      exact ⟨n, (withE_other hlt e).2 hn⟩
theorem narrowAll_none : ∀ {ws : List Watcher} {cs fs : List Int} {s : Int × Int}, (∀ c ∈ cs, c = -1) → narrowAll s ws cs fs = s
  | [], cs, fs, s, _ => by simp [narrowAll]
  | w :: ws, [], fs, s, _ => by simp [narrowAll]
  | w :: ws, c :: cs, [], s, _ => by simp [narrowAll]
  | w :: ws, c :: cs, f :: fs, s, h => by
    rw [narrowAll, narrow, if_pos (h c (by simp)), narrowAll_none fun x hx => h x (by simp [hx])]
theorem hull_const {s : Int × Int} : ∀ {l : List (Int × Int)}, l ≠ [] → (∀ x ∈ l, x = s) → hull l = s
  | [], h, _ => absurd rfl h
  | x :: xs, _, h => by
    have : ∀ (l : List (Int × Int)), (∀ y ∈ l, y = s) → hullFrom s l = s := fun l => by
      induction l with
      | nil => intro _; rfl
      | cons y l ih =>
        intro hy
        rw [hullFrom, List.foldl_cons, hy y (by simp)]
        have : join s s = s := by simp [join, Int.min_self, Int.max_self]
        rw [this]
        exact ih fun z hz => hy z (by simp [hz])
    rw [hull, h x (by simp)]
    exact this xs fun y hy => h y (by simp [hy])
theorem alone_number (hs : someE h = true) (h4 : h.days.length ≠ 4) : numberE (aloneE h) h.days.length = ((0, 39999), 0) := by
  obtain ⟨he, hf, ht⟩ := someE_true hs
  have he2 := aloneE_err he h4
  have e1 : indexE (aloneE h) (h.days.length : Nat) (aloneE h).days.length = 0 := by
    rw [indexE, if_pos he2, if_pos (by rw [aloneE_len]; omega)]
  have et := aloneE_truths he h4
  rw [numberE, e1, if_neg (by decide), et, if_neg ht, Int.toNat_natCast]
  congr 1
  refine hull_const (by unfold numbersOf; rw [et]; simpa using ht) fun x hx => ?_
  obtain ⟨fs, _, rfl⟩ := List.mem_map.1 hx
  show narrowAll (0, 39999) h.ws (dayOf (aloneE h) h.days.length) fs = _
  rw [aloneE_new]
  exact narrowAll_none fun c hc => List.eq_of_mem_replicate hc
theorem factor_same {h h' : House} (he : errE h = 0) (he' : errE h' = 0) (hw : h'.ws = h.ws) (ht : truthsE h' = truthsE h) (w : Int) : factorE h' w = factorE h w := by
  have : indexE h' w h'.ws.length = indexE h w h.ws.length := by rw [indexE, indexE, if_pos he, if_pos he', hw]
  rw [factorE, factorE, this, ht]
  simp only [factorsOf, ht]
theorem factor_zero (hs : someE h = true) {a : Nat} (ha : a < h.ws.length) : (factorE h a).2 = 0 := by
  obtain ⟨he, hf, ht⟩ := someE_true hs
  have e1 : indexE h a h.ws.length = 0 := by rw [indexE, if_pos he, if_pos (by omega)]
  rw [factorE, e1, if_neg (by decide), if_neg ht]
end
end Go.Proofs.Ytgncpbkedhchfaa
namespace Go.Proofs.Ytgncpbkedhchfaa
open Go.AM Go.IntWalk
set_option maxRecDepth 100000
set_option maxHeartbeats 4000000
set_option linter.unusedSimpArgs false
variable {H : AH} {R : AV → AH → Prop}
theorem make_mine {S : AH} {n : Nat} {P : Nat → Prop} (hn : n ≤ 1000) :
    opMakeSlice 1 8 [I 0] (I n) (I n) S = some (.slice S.next 0 n 1, S.alloc (.cells false (repeatL [I 0] n))) ∧ Mine 1 EInt P S.next (S.alloc (.cells false (repeatL [I 0] n))) (.slice S.next 0 n 1) (List.replicate n 0) := by
  have hr : ∀ n, repeatL [I 0] n = (List.replicate n (0 : Int)).map I := fun n => by
    induction n with
    | zero => rfl
    | succ n ih => rw [repeatL, ih]; rfl
  refine ⟨?_, .inr ⟨S.next, 0, repeatL [I 0] n, repeatL [I 0] n, by simp, Nat.le_refl _, by simp, get_alloc_new _ _, ?_, ?_⟩⟩
  · have h1 : n ≤ roomA ∧ 8 * n ≤ roomA := by unfold roomA; omega
    simp [opMakeSlice, natOf, h1]
  · rw [hr]; simp [readN]
  · rw [hr]
    exact (ints_rows _).mono fun _ _ h => h
theorem set_rep {n i : Nat} (hi : i < n) : (List.replicate i (-1 : Int) ++ List.replicate (n - i) 0).set i (-1) = List.replicate (i + 1) (-1) ++ List.replicate (n - (i + 1)) 0 := by
  rw [List.set_append_right _ _ (by simp)]
  have e : n - i = (n - (i + 1)) + 1 := by omega
  simp only [List.length_replicate, Nat.sub_self]
  rw [e, List.replicate_succ, List.set_cons_zero, List.replicate_succ', List.append_assoc]
  rfl
theorem Alone_run (v1 v2 : AV) (h : House) (x y : Nat) (hx : x < 256) (hy : y < 256) (hh : IsHouse (Old H) H v1 v2 h) (hs : Sized h) (k : ∀ H', Grew H H' → R (.bool true) H') : CallQ prog (.func 14 [] []) [.agg [v1, v2], .agg [.int .u8 x, .int .u8 y]] H R := by
  refine CallQ_enter (fn:=c14) rfl (Nat.le_of_ble_eq_true rfl) ?_;simp(maxSteps:=9999999)(disch:=first|omega|(simp only[AN];omega))only[c14,envFrom,hh.1.isCell,hh.2.isCell,↓KP,EN,↓reduceIte,reduceCtorEq,Nat.reduceEqDiff,Nat.reduceAdd,Nat.reduceLeDiff,Nat.reduceMul]
  first|refine C_call ?_|refine C_calld ?_
  refine some2_run v1 v2 h (hh.grow GW) hs fun H1 hg1 => ?_
  have hg1n:=hg1.next;try simp only[AN]at hg1n
  cases hsm : someE h with
  | false =>
    simp(maxSteps:=9999999)(disch:=first|omega|(simp only[AN];omega))only[hg1.get,↓KP,EN,↓reduceIte,reduceCtorEq,Nat.reduceEqDiff,Nat.reduceAdd,Nat.reduceLeDiff,Nat.reduceMul]
    first|refine C_call ?_|refine C_calld ?_
    refine Awake_run fun H3 hg3 => ?_
    have hg3n:=hg3.next;try simp only[AN]at hg3n
    simp(maxSteps:=9999999)(disch:=first|omega|(simp only[AN];omega))only[↓KP,EN,↓reduceIte,reduceCtorEq,Nat.reduceEqDiff,Nat.reduceAdd,Nat.reduceLeDiff,Nat.reduceMul]
    exact k _ GW
  | true =>
    by_cases h4 : (h.days.length : Int) = 4
    · simp(maxSteps:=9999999)(disch:=first|omega|(simp only[AN];omega))only[hg1.get,hh.2.len,eq_true h4,↓KP,EN,↓reduceIte,reduceCtorEq,Nat.reduceEqDiff,Nat.reduceAdd,Nat.reduceLeDiff,Nat.reduceMul]
      first|refine C_call ?_|refine C_calld ?_
      refine Awake_run fun H3 hg3 => ?_
      have hg3n:=hg3.next;try simp only[AN]at hg3n
      simp(maxSteps:=9999999)(disch:=first|omega|(simp only[AN];omega))only[↓KP,EN,↓reduceIte,reduceCtorEq,Nat.reduceEqDiff,Nat.reduceAdd,Nat.reduceLeDiff,Nat.reduceMul]
      exact k _ GW
    · obtain ⟨he, hf, ht⟩ := someE_true hsm
      have hw3 := hf.ws
      have hd4 := hf.days
      have h4' : h.days.length ≠ 4 := by omega
      have hgA : Grew H H1 := GW
      have hbox : H1.get H.next = some (.cells false [v1, v2]) := by simp(maxSteps:=9999999)(disch:=first|omega|(simp only[AN];omega))only[hg1.get,↓KP,EN,↓reduceIte,reduceCtorEq,Nat.reduceEqDiff,Nat.reduceAdd,Nat.reduceLeDiff,Nat.reduceMul]
      have hbox2 : H1.get (H.next + 1) = some (.cells false [.int .u8 x, .int .u8 y]) := by simp(maxSteps:=9999999)(disch:=first|omega|(simp only[AN];omega))only[hg1.get,↓KP,EN,↓reduceIte,reduceCtorEq,Nat.reduceEqDiff,Nat.reduceAdd,Nat.reduceLeDiff,Nat.reduceMul]
      have hlt : H.next + 1 < H1.next := by omega
      have hh1 := hh.grow hgA
      clear hg1 hh
      obtain ⟨m1, m2⟩ := make_mine (S := H1) (n := h.ws.length) (P := fun _ => False) (by omega)
      simp(maxSteps:=9999999)(disch:=first|omega|(simp only[AN];omega))only[hbox,hh1.1.len,hh1.2.len,h4,m1,↓KP,EN,↓reduceIte,reduceCtorEq,Nat.reduceEqDiff,Nat.reduceAdd,Nat.reduceLeDiff,Nat.reduceMul]
      refine K_loop (fun mz ez H2 => ∃ (i : Nat) (tail : Env), ez = (0, .agg [v1, v2]) :: (1, .agg [.int .u8 x, .int .u8 y]) :: (2, .ptr H.next 0) :: (3, .ptr (H.next + 1) 0) :: (4, .bool false) :: (23, .bool false) :: (5, .slice H1.next 0 h.ws.length 1) :: (6, I i) :: tail ∧ (Grew H1 H2) ∧ (i ≤ h.ws.length) ∧ (Mine 1 EInt (fun _ => False) H1.next H2 (.slice H1.next 0 h.ws.length 1) (List.replicate i (-1) ++ List.replicate (h.ws.length - i) 0)) ∧ mz = h.ws.length - i) _ ⟨0, _, rfl, ?_, ?_, (by simpa using m2), rfl⟩ ?_
      iterate 2 (focus (first|(with_reducible rfl)|omega|(with_reducible(repeat first|exact Grew.refl _|assumption|apply Grew.alloc|refine Grew.set ?_ _ (by first|omega|(simp only[AN];omega)));done)|(simp(maxSteps:=9999999)(disch:=first|omega|(simp only[AN];omega))only[↓KP,EN,↓reduceIte,reduceCtorEq,Nat.reduceEqDiff,Nat.reduceAdd,Nat.reduceLeDiff,Nat.reduceMul]<;>first|omega|rfl)|(simp;done)|rfl))
      rintro mz ez H2 ⟨i, tail, rfl, hG, hi, hm, hmz⟩; subst mz; have hGn := hG.next
      have hlen5 : ∀ S, opLen false (.slice H1.next 0 h.ws.length 1) S = some (I h.ws.length, S) := fun S => rfl
      simp(maxSteps:=9999999)(disch:=first|omega|(simp only[AN];omega))only[hlen5,↓KP,EN,↓reduceIte,reduceCtorEq,Nat.reduceEqDiff,Nat.reduceAdd,Nat.reduceLeDiff,Nat.reduceMul]
      refine C_decide (fun hc => ?_) (fun hc => ?_)
      · have hi' : i < h.ws.length := by omega
        have e1 : IntKind.i64.wrap ((i : Int) + 1) = ((i + 1 : Nat) : Int) := i64_in _ (by omega)
        obtain ⟨pb, pi, pvs, pvs', q1, q2, q, hm2⟩ := hm.poke (cs := [I (-1)]) (a := -1) (F := fun _ => False) EInt.stays (n := (i : Int)) (k := i) rfl (by simp; omega) rfl (fun _ h => h.elim) rfl
        rw [set_rep hi'] at hm2
        simp(maxSteps:=9999999)(disch:=first|omega|(simp only[AN];omega))only[q,e1,↓KP,EN,↓reduceIte,reduceCtorEq,Nat.reduceEqDiff,Nat.reduceAdd,Nat.reduceLeDiff,Nat.reduceMul]
        refine ⟨_, ?_, i + 1, _, rfl, (by exact hG.set _ q1), ?_, (by exact hm2), rfl⟩ <;> (first|omega|(with_reducible assumption)|(with_reducible(repeat first|exact Grew.refl _|assumption|apply Grew.alloc|refine Grew.set ?_ _ (by first|omega|(simp only[AN];omega)));done)|(simp(maxSteps:=9999999)(disch:=first|omega|(simp only[AN];omega))only[↓KP,EN,↓reduceIte,reduceCtorEq,Nat.reduceEqDiff,Nat.reduceAdd,Nat.reduceLeDiff,Nat.reduceMul]<;>first|omega|rfl))
      · have hie : i = h.ws.length := by omega
        subst hie
        rw [Nat.sub_self, List.replicate_zero, List.append_nil] at hm
        have hh2 := hh1.grow hG
        have hrow := hm.sl EInt.stays
        have hlt2 := hG.next
        have hbox' : H2.get H.next = some (.cells false [v1, v2]) := by simp(maxSteps:=9999999)(disch:=first|omega|(simp only[AN];omega))only[hG.get,hbox,↓KP,EN,↓reduceIte,reduceCtorEq,Nat.reduceEqDiff,Nat.reduceAdd,Nat.reduceLeDiff,Nat.reduceMul]
        have hbox2' : H2.get (H.next + 1) = some (.cells false [.int .u8 x, .int .u8 y]) := by simp(maxSteps:=9999999)(disch:=first|omega|(simp only[AN];omega))only[hG.get,hbox2,↓KP,EN,↓reduceIte,reduceCtorEq,Nat.reduceEqDiff,Nat.reduceAdd,Nat.reduceLeDiff,Nat.reduceMul]
        have hgB : Grew H H2 := hgA.trans hG
        clear hG hm m2 hbox hbox2 hh1 hgA m1
        generalize AV.slice H1.next 0 h.ws.length 1 = rv at *
        have hg0 : Grew H2 ((H2.alloc (.cells false [.nilslice, .nilslice])).set H2.next (.cells false [v1, v2])) := GW
        generalize hX : (H2.alloc (.cells false [.nilslice, .nilslice])).set H2.next (.cells false [v1, v2]) = HX at hg0
        have eX : HX.get H2.next = some (.cells false [v1, v2]) := by rw [← hX]; simp(maxSteps:=9999999)(disch:=first|omega|(simp only[AN];omega))only[↓KP,EN,↓reduceIte,reduceCtorEq,Nat.reduceEqDiff,Nat.reduceAdd,Nat.reduceLeDiff,Nat.reduceMul]
        have nX : HX.next = H2.next + 1 := by rw [← hX]; rfl
        have hX2 : IsSl 1 (ESl 1 EInt) (Old H2) HX v2 h.days := hh2.2.move (ESl.stays EInt.stays) fun b hb => ⟨hb, hg0.get b hb⟩
        have hrX : IsInts (Old H2) HX rv (List.replicate h.ws.length (-1)) := hrow.move EInt.stays fun b hb => ⟨hb, hg0.get b hb⟩
        obtain ⟨vd, H3, d1, d2, d3, d4⟩ := copy_mine (H := HX) (P := Old H2) (N := HX.next) (bytes := 24) (F := Old H2) (ESl.stays EInt.stays) hX2 (fun k hk => by have : k < H2.next := hk; omega) (fun cs a h => ESl.stays EInt.stays _ _ _ _ _ _ (fun b hb => ⟨⟨by have : b < H2.next := hb; omega, .inl hb⟩, rfl⟩) h) (Nat.le_refl _) ESl.isCell (by omega)
        have hr3 : IsInts (Old H2) H3 rv (List.replicate h.ws.length (-1)) := hrX.move EInt.stays fun b hb => ⟨hb, d4 b (by have : b < H2.next := hb; omega)⟩
        obtain ⟨ve, H4, p1, p2, p3, p4⟩ := d2.push (bytes := 24) (cs := [rv]) (a := List.replicate h.ws.length (-1)) (F := Old H2) (ESl.stays EInt.stays) (by omega) rfl (fun k hk => ⟨by have : k < H2.next := hk; omega, fun i n y e => by have := (d2.spine e).1; have : k < H2.next := hk; omega, .inl hk⟩) ⟨_, rfl, hr3⟩ (by simp [hrow.isCell]) (by omega)
        have e4 : H4.get H2.next = some (.cells false [v1, v2]) := by rw [p4 _ (by omega), d4 _ (by omega), eX]
        have hk4 : ∀ b, b < H2.next → H4.get b = H2.get b := fun b hb => by rw [p4 _ (by omega), d4 _ (by omega), hg0.get b hb]
        have hkJ : ∀ b, b < H2.next → (H4.set H2.next (.cells false [v1, ve])).get b = H2.get b := fun b hb => by rw [get_set_other (by omega), hk4 b hb]
        have hiJ0 : IsHouse (fun b => b < (H4.set H2.next (.cells false [v1, ve])).next ∧ b ≠ H2.next) (H4.set H2.next (.cells false [v1, ve])) v1 ve (aloneE h) := by
          refine ⟨hh2.1.move EWatcher.stays fun b hb => ⟨⟨by have : b < H2.next := hb; show b < H4.next; omega, by have : b < H2.next := hb; omega⟩, hkJ b hb⟩, ?_⟩
          exact ((p2.move (ESl.stays EInt.stays) (H' := H4.set H2.next (.cells false [v1, ve])) (fun k hk hk' => get_set_other (by rcases hk' with h | h; have : k < H2.next := h; omega; omega)) (Nat.le_refl _)).slF (ESl.stays EInt.stays)).move (ESl.stays EInt.stays) fun b hb => ⟨⟨hb.1, by rcases hb.2 with h | h; have : b < H2.next := h; omega; omega⟩, rfl⟩
        have eJ : (H4.set H2.next (.cells false [v1, ve])).get H2.next = some (.cells false [v1, ve]) := get_set_same _ _ _
        have nJ : H2.next < (H4.set H2.next (.cells false [v1, ve])).next := by show H2.next < H4.next; omega
        have hdl := hh2.2.len
        have c1 := hh2.1.isCell
        have c2 := hh2.2.isCell
        have c3 := p2.isCell
        have c4 := p2.cells?
        have c5 := d2.cells?
        have c6 := hrow.cells?
        have hgJ : Grew H2 (H4.set H2.next (.cells false [v1, ve])) := ⟨by omega, hkJ⟩
        have hsJ : Sized (aloneE h) := ⟨hs.name, hs.ws, by rw [aloneE_len]; omega⟩
        have hl5 : ∀ S, opLen false rv S = some (I h.ws.length, S) := fun S => by rw [hrow.len S, List.length_replicate]
        generalize hJ : H4.set H2.next (.cells false [v1, ve]) = J at *
        simp(maxSteps:=9999999)(disch:=first|omega|(simp only[AN];omega))only[hbox',hX,c1,c2,↓KP,EN,↓reduceIte,reduceCtorEq,Nat.reduceEqDiff,Nat.reduceAdd,Nat.reduceLeDiff,Nat.reduceMul]
        simp(maxSteps:=9999999)(disch:=first|omega|(simp only[AN];omega))only[hg0.get,hbox',d1,c5,p1,c6,e4,c4,c3,c1,hk4,hJ,eJ,hkJ,hdl,↓KP,EN,↓reduceIte,reduceCtorEq,Nat.reduceEqDiff,Nat.reduceAdd,Nat.reduceLeDiff,Nat.reduceMul]
        clear p1 p2 p3 p4 d1 d2 d3 d4 hr3 hrX hX2 hX hJ e4 hk4 eX hg0
        have hiJ : IsHouse (Old J) J v1 ve (aloneE h) := hiJ0.move fun b hb => ⟨hb.1, rfl⟩
        first|refine C_call ?_|refine C_calld ?_
        refine Number_run v1 ve (aloneE h) h.days.length hiJ hsJ fun H5 hg5 => ?_
        have hg5n:=hg5.next;try simp only[AN]at hg5n
        rw [alone_number hsm h4']
        simp(maxSteps:=9999999)(disch:=first|omega|(simp only[AN];omega))only[hg5.get,eJ,hkJ,↓KP,EN,↓reduceIte,reduceCtorEq,Nat.reduceEqDiff,Nat.reduceAdd,Nat.reduceLeDiff,Nat.reduceMul]
        refine K_draw ?_
        simp(maxSteps:=9999999)(disch:=first|omega|(simp only[AN];omega))only[hg5.get,eJ,hkJ,↓KP,EN,↓reduceIte,reduceCtorEq,Nat.reduceEqDiff,Nat.reduceAdd,Nat.reduceLeDiff,Nat.reduceMul]
        refine C_calld ?_
        refine span_run 0 39999 fun H6 hg6 => ?_
        have hg6n:=hg6.next;try simp only[AN]at hg6n
        simp(maxSteps:=9999999)(disch:=first|omega|(simp only[AN];omega))only[hg6.get,hg5.get,eJ,hkJ,eqs2,hl5,↓KP,EN,↓reduceIte,reduceCtorEq,Nat.reduceEqDiff,Nat.reduceAdd,Nat.reduceLeDiff,Nat.reduceMul]
        by_cases hw0 : (h.ws.length : Int) = 0
        · simp(maxSteps:=9999999)(disch:=first|omega|(simp only[AN];omega))only[eq_true hw0,↓KP,EN,↓reduceIte,reduceCtorEq,Nat.reduceEqDiff,Nat.reduceAdd,Nat.reduceLeDiff,Nat.reduceMul]
          first|refine C_call ?_|refine C_calld ?_
          refine Awake_run fun H7 hg7 => ?_
          have hg7n:=hg7.next;try simp only[AN]at hg7n
          simp(maxSteps:=9999999)(disch:=first|omega|(simp only[AN];omega))only[↓KP,EN,↓reduceIte,reduceCtorEq,Nat.reduceEqDiff,Nat.reduceAdd,Nat.reduceLeDiff,Nat.reduceMul]
          exact k _ GW
        · have wr : ∀ {u : Nat}, u < 256 → IntKind.i64.wrap (u : Int) = u := fun {u} hu => i64_in _ (by omega)
          have tm : ∀ {u n : Nat}, Int.tmod (u : Int) (n : Int) = ((u % n : Nat) : Int) := fun {u n} => by rw [Int.tmod_eq_emod_of_nonneg (by omega)]; omega
          have tz : ∀ {u : Nat}, Int.tmod (u : Int) 121 = ((u % 121 : Nat) : Int) := fun {u} => by rw [Int.tmod_eq_emod_of_nonneg (by omega)]; omega
          have z121 : ¬ (121 : Int) = 0 := by decide
          have hw : x % h.ws.length < h.ws.length := Nat.mod_lt _ (by omega)
          have hc : y % 121 < 121 := Nat.mod_lt _ (by omega)
          simp(maxSteps:=9999999)(disch:=first|omega|(simp only[AN];omega))only[hw0,↓KP,EN,↓reduceIte,reduceCtorEq,Nat.reduceEqDiff,Nat.reduceAdd,Nat.reduceLeDiff,Nat.reduceMul]
          refine K_draw ?_
          simp(maxSteps:=9999999)(disch:=first|omega|(simp only[AN];omega))only[hg6.get,hg5.get,eJ,hkJ,hl5,hbox',hbox2',hdl,hw0,wr hx,wr hy,tm,tz,z121,ix20,ix21,↓KP,EN,↓reduceIte,reduceCtorEq,Nat.reduceEqDiff,Nat.reduceAdd,Nat.reduceLeDiff,Nat.reduceMul]
          generalize x % h.ws.length = w at *
          generalize y % 121 = c at *
          have he2 := aloneE_err he h4'
          have hf2 := fine_of he2
          have hgK : Grew J H6 := GW
          have n6 : J.next ≤ H6.next := hgK.next
          refine C_calld ?_
          have hnew : ∀ {hlt : h.days.length < (aloneE h).days.length}, ((aloneE h).days[h.days.length]'hlt).length = h.ws.length := fun {hlt} => hf2.len _ (List.getElem_mem hlt)
          refine With_run v1 ve (aloneE h) h.days.length w c (F := fun b => b < J.next ∧ b ≠ H2.next) (fun b hb => by have := hb.1; omega) (hiJ0.move fun b hb => ⟨hb, by have := hb.1; simp(maxSteps:=9999999)(disch:=first|omega|(simp only[AN];omega))only[hgK.get,↓KP,EN,↓reduceIte,reduceCtorEq,Nat.reduceEqDiff,Nat.reduceAdd,Nat.reduceLeDiff,Nat.reduceMul]⟩) (by rw [aloneE_len]; omega) (by rw [hnew]; exact hw) (by rw [aloneE_len]; omega) (by rw [hnew]; omega) fun H7 v7 hg7 hi7 => ?_
          have hg7n := hg7.next; try simp only [AN] at hg7n
          have e7 : H7.get H2.next = some (.cells false [v1, ve]) := by simp(maxSteps:=9999999)(disch:=first|omega|(simp only[AN];omega))only[hg7.get,hg6.get,hg5.get,eJ,↓KP,EN,↓reduceIte,reduceCtorEq,Nat.reduceEqDiff,Nat.reduceAdd,Nat.reduceLeDiff,Nat.reduceMul]
          have hk7 : ∀ b, b < H2.next → (H7.set H2.next (.cells false [v1, v7])).get b = H2.get b := fun b hb => by rw [get_set_other (by omega)]; simp(maxSteps:=9999999)(disch:=first|omega|(simp only[AN];omega))only[hg7.get,hg6.get,hg5.get,hkJ,↓KP,EN,↓reduceIte,reduceCtorEq,Nat.reduceEqDiff,Nat.reduceAdd,Nat.reduceLeDiff,Nat.reduceMul]
          have c7 := hi7.2.isCell
          have hiK : IsHouse (Old (H7.set H2.next (.cells false [v1, v7]))) (H7.set H2.next (.cells false [v1, v7])) v1 v7 (withE (aloneE h) h.days.length w c) := hi7.move fun b hb => ⟨hb.1, by
            refine get_set_other ?_
            rcases hb.2 with q | q
            · exact q.2
            · omega⟩
          have hsK : Sized (withE (aloneE h) h.days.length w c) := ⟨hsJ.name, hsJ.ws, by rw [withE_len]; exact hsJ.days⟩
          have eK : (H7.set H2.next (.cells false [v1, v7])).get H2.next = some (.cells false [v1, v7]) := get_set_same _ _ _
          have nK : (H7.set H2.next (.cells false [v1, v7])).next = H7.next := rfl
          have heK : errE (withE (aloneE h) h.days.length w c) = 0 := withE_err he2 (by rw [aloneE_len]; omega) (by omega)
          have hsame := alone1_truths he h4' hw (c := c) (by omega)
          have hgL : Grew H2 (H7.set H2.next (.cells false [v1, v7])) := ⟨by rw [nK]; omega, hk7⟩
          generalize hK : H7.set H2.next (.cells false [v1, v7]) = K at *
          simp(maxSteps:=9999999)(disch:=first|omega|(simp only[AN];omega))only[e7,hl5,c1,c7,hK,↓KP,EN,↓reduceIte,reduceCtorEq,Nat.reduceEqDiff,Nat.reduceAdd,Nat.reduceLeDiff,Nat.reduceMul]
          have hhK := hh2.grow hgL
          have hbK : K.get H.next = some (.cells false [v1, v2]) := by rw [hk7 _ (by omega)]; exact hbox'
          clear hg7 hg6 hg5
          refine K_loop (fun mz ez H8 => ∃ (a : Nat) (tail : Env), ez = (0, .agg [v1, v2]) :: (1, .agg [.int .u8 x, .int .u8 y]) :: (2, .ptr H.next 0) :: (3, .ptr (H.next + 1) 0) :: (4, .bool false) :: (23, .bool false) :: (5, rv) :: (6, I h.ws.length) :: tail ∧ (tail.get 7 = some (.ptr H2.next 0)) ∧ (tail.get 10 = some (I a)) ∧ (Grew K H8) ∧ (a ≤ h.ws.length) ∧ mz = h.ws.length - a) _ ⟨0, _, rfl, ?_, ?_, ?_, ?_, rfl⟩ ?_
          iterate 4 (focus (first|(with_reducible rfl)|omega|(with_reducible(repeat first|exact Grew.refl _|assumption|apply Grew.alloc|refine Grew.set ?_ _ (by first|omega|(simp only[AN];omega)));done)|(simp(maxSteps:=9999999)(disch:=first|omega|(simp only[AN];omega))only[↓KP,EN,↓reduceIte,reduceCtorEq,Nat.reduceEqDiff,Nat.reduceAdd,Nat.reduceLeDiff,Nat.reduceMul]<;>first|omega|rfl)|(simp;done)|rfl))
          rintro mz ez H8 ⟨a, tail, rfl, h7, h10, hG, ha, hmz⟩; subst mz; have hGn := hG.next
          have n8 : H2.next ≤ K.next := hgL.next
          have n9 : H2.next < K.next := by have := hgK.next; omega
          simp(maxSteps:=9999999)(disch:=first|omega|(simp only[AN];omega))only[h7,h10,hl5,↓KP,EN,↓reduceIte,reduceCtorEq,Nat.reduceEqDiff,Nat.reduceAdd,Nat.reduceLeDiff,Nat.reduceMul]
          refine C_decide (fun hc => ?_) (fun hc => ?_)
          · have ha' : a < h.ws.length := by omega
            have e1 : IntKind.i64.wrap ((a : Int) + 1) = ((a + 1 : Nat) : Int) := i64_in _ (by omega)
            have f0 := factor_zero hsm ha'
            have fs := factor_same (h := h) (h' := withE (aloneE h) h.days.length w c) he heK rfl hsame (a : Int)
            simp(maxSteps:=9999999)(disch:=first|omega|(simp only[AN];omega))only[h7,h10,hG.get,hbK,↓KP,EN,↓reduceIte,reduceCtorEq,Nat.reduceEqDiff,Nat.reduceAdd,Nat.reduceLeDiff,Nat.reduceMul]
            first|refine C_call ?_|refine C_calld ?_
            refine Factor_run v1 v2 h a (hhK.grow GW) hs fun H9 hg9 => ?_
            have hg9n:=hg9.next;try simp only[AN]at hg9n
            rw [f0]
            simp(maxSteps:=9999999)(disch:=first|omega|(simp only[AN];omega))only[h7,h10,hg9.get,hG.get,eK,↓KP,EN,↓reduceIte,reduceCtorEq,Nat.reduceEqDiff,Nat.reduceAdd,Nat.reduceLeDiff,Nat.reduceMul]
            first|refine C_call ?_|refine C_calld ?_
            refine Factor_run v1 v7 _ a (hiK.grow GW) hsK fun H10 hg10 => ?_
            have hg10n:=hg10.next;try simp only[AN]at hg10n
            rw [fs, f0]
            simp(maxSteps:=9999999)(disch:=first|omega|(simp only[AN];omega))only[h7,h10,hg10.get,hg9.get,hG.get,eqs2,e1,↓KP,EN,↓reduceIte,reduceCtorEq,Nat.reduceEqDiff,Nat.reduceAdd,Nat.reduceLeDiff,Nat.reduceMul]
            refine ⟨_, ?_, a + 1, _, rfl, ?_, ?_, ?_, ?_, rfl⟩ <;> (first|omega|(with_reducible assumption)|(with_reducible(repeat first|exact Grew.refl _|assumption|apply Grew.alloc|refine Grew.set ?_ _ (by first|omega|(simp only[AN];omega))|refine Grew.trans ?_ hg10|refine Grew.trans ?_ hg9|refine Grew.trans ?_ hG);done)|(simp(maxSteps:=9999999)(disch:=first|omega|(simp only[AN];omega))only[h7,h10,hg10.get,hg9.get,hG.get,↓KP,EN,↓reduceIte,reduceCtorEq,Nat.reduceEqDiff,Nat.reduceAdd,Nat.reduceLeDiff,Nat.reduceMul]<;>first|omega|rfl))
          · simp(maxSteps:=9999999)(disch:=first|omega|(simp only[AN];omega))only[↓KP,EN,↓reduceIte,reduceCtorEq,Nat.reduceEqDiff,Nat.reduceAdd,Nat.reduceLeDiff,Nat.reduceMul]
            first|refine C_call ?_|refine C_calld ?_
            refine Awake_run fun H9 hg9 => ?_
            have hg9n:=hg9.next;try simp only[AN]at hg9n
            simp(maxSteps:=9999999)(disch:=first|omega|(simp only[AN];omega))only[↓KP,EN,↓reduceIte,reduceCtorEq,Nat.reduceEqDiff,Nat.reduceAdd,Nat.reduceLeDiff,Nat.reduceMul]
            exact k _ (hgB.trans (hgL.trans (hG.trans hg9)))
end Go.Proofs.Ytgncpbkedhchfaa
namespace Go.AM
theorem aop_alloc {call : ACall} {e : Env} {H H' : AH} {o : AOp} {v : AV} (hc : o.cls = .alloc) (h : aop call e H o = some (v, H')) : ∃ obj, H' = H.alloc obj := by
  cases o <;> simp only [AOp.cls, reduceCtorEq] at hc
  all_goals simp only [aop] at h
  all_goals
    try simp only [with1, withP, opAlloc, opBox, opMkslice, opMakeSlice] at h
    repeat' split at h
    all_goals first
      | (simp at h; done)
      | (simp only [Option.some.injEq, Prod.mk.injEq] at h; exact ⟨_, h.2.symm⟩)
theorem hasNat_mem : ∀ {l : List Nat} {t : Nat}, hasNat l t = true ↔ t ∈ l
  | [], t => by simp [hasNat]
  | k :: l, t => by
    simp only [hasNat, List.mem_cons]
    by_cases h : k = t
    · simp [h]
    · have h' : ¬ t = k := fun e => h e.symm
      simp [h, h', hasNat_mem]
def Chain (call : ACall) : List Step → Env → AH → Env → AH → Prop
  | [], e, H, e', H' => e = e' ∧ H = H'
  | s :: l, e, H, e', H' => s.env = e ∧ s.before = H ∧ s.o.wanted e = some s.want ∧ (s.want = true → aop call e H s.o.op = some (s.v, s.after)) ∧ (s.want = false → s.v = .tuple [] ∧ s.after = H) ∧ Chain call l (putDst e s.o.dst s.v) s.after e' H'
theorem aopsT_chain {call : ACall} : ∀ {os : List AOper} {e : Env} {H : AH} {L : List Step} {e' : Env} {H' : AH}, aopsT call os e H = some (L, e', H') → Chain call L e H e' H' ∧ L.map (·.o) = os
  | [], e, H, L, e', H', h => by
    simp only [aopsT, Option.some.injEq, Prod.mk.injEq] at h
    obtain ⟨rfl, rfl, rfl⟩ := h
    exact ⟨⟨rfl, rfl⟩, rfl⟩
  | o :: os, e, H, L, e', H', h => by
    simp only [aopsT] at h
    split at h
    · rename_i hw
      split at h
      · rename_i v H1 hop
        split at h
        · rename_i l r hl
          simp only [Option.some.injEq, Prod.mk.injEq] at h
          obtain ⟨rfl, rfl⟩ := h
          obtain ⟨h1, h2⟩ := aopsT_chain hl
          exact ⟨⟨rfl, rfl, hw, fun _ => hop, by simp, h1⟩, by simp [h2]⟩
        · simp at h
      · simp at h
    · rename_i hw
      split at h
      · rename_i l r hl
        simp only [Option.some.injEq, Prod.mk.injEq] at h
        obtain ⟨rfl, rfl⟩ := h
        obtain ⟨h1, h2⟩ := aopsT_chain hl
        exact ⟨⟨rfl, rfl, hw, by simp, fun _ => ⟨rfl, rfl⟩, h1⟩, by simp [h2]⟩
      · simp at h
    · simp at h
def envD (d : Step → Bool) : Env → List Step → Env
  | e, [] => e
  | e, s :: l => envD d (if d s then putDst e s.o.dst s.v else e) l
theorem get_putDst (e : Env) (d : Option Nat) (v : AV) (t : Nat) : (putDst e d v).get t = if d = some t then some v else e.get t := by
  cases d with
  | none => simp [putDst]
  | some k => simp [putDst, Env.get_put]
theorem envD_append (d : Step → Bool) : ∀ (l : List Step) (e : Env) (l' : List Step), envD d e (l ++ l') = envD d (envD d e l) l'
  | [], _, _ => rfl
  | s :: l, e, l' => by simp only [List.cons_append, envD]; exact envD_append d l _ l'
theorem envD_congr {d d' : Step → Bool} {t : Nat} : ∀ (l : List Step) {e e' : Env}, e.get t = e'.get t → (∀ x ∈ l, d x ≠ d' x → x.o.dst ≠ some t) → (envD d e l).get t = (envD d' e' l).get t
  | [], _, _, h, _ => h
  | s :: l, e, e', h, hx => by
    simp only [envD]
    refine envD_congr l ?_ fun x hm => hx x (by simp [hm])
    have h1 := hx s (by simp)
    by_cases hd : d s = d' s
    · rw [hd]
      cases d' s with
      | true => simp only [if_true]; rw [get_putDst, get_putDst, h]
      | false => simpa using h
    · have h2 := h1 hd
      have g1 : ∀ (c : Bool) (e : Env), (if c = true then putDst e s.o.dst s.v else e).get t = e.get t := fun c e => by
        cases c with
        | true => simp only [if_true]; rw [get_putDst, if_neg h2]
        | false => simp
      rw [g1, g1, h]
theorem envD_skip {d : Step → Bool} {t : Nat} (l : List Step) {e : Env} (h : ∀ x ∈ l, d x = true → x.o.dst ≠ some t) : (envD d e l).get t = e.get t := by
  have h0 : ∀ (l : List Step) (e : Env), envD (fun _ => false) e l = e := fun l => by
    induction l with
    | nil => intro e; rfl
    | cons s l ih => intro e; simp [envD, ih]
  rw [envD_congr (d' := fun _ => false) l (e' := e) rfl, h0]
  intro x hx hne
  exact h x hx (by cases hd : d x <;> simp_all)
theorem Chain.split {call : ACall} : ∀ {A R : List Step} {e : Env} {H : AH} {e' : Env} {H' : AH}, Chain call (A ++ R) e H e' H' → ∃ H1, Chain call A e H (envD (fun _ => true) e A) H1 ∧ Chain call R (envD (fun _ => true) e A) H1 e' H'
  | [], R, e, H, e', H', h => ⟨H, ⟨rfl, rfl⟩, h⟩
  | s :: A, R, e, H, e', H', h => by
    simp only [List.cons_append, Chain] at h
    obtain ⟨h1, h2, h3, h4, h5, h6⟩ := h
    obtain ⟨H1, k1, k2⟩ := Chain.split h6
    exact ⟨H1, ⟨h1, h2, h3, h4, h5, by simpa [envD] using k1⟩, by simpa [envD] using k2⟩
theorem Chain.end_ {call : ACall} : ∀ {A : List Step} {e : Env} {H : AH} {e' : Env} {H' : AH}, Chain call A e H e' H' → e' = envD (fun _ => true) e A
  | [], _, _, _, _, h => h.1.symm
  | s :: A, e, H, e', H', h => by
    simp only [Chain] at h
    have := Chain.end_ h.2.2.2.2.2
    simpa [envD] using this
def headOf (R : List Step) (H' : AH) : AH :=
  match R with
  | [] => H'
  | s :: _ => s.before
def effsOf (l : List Step) : List AOper := (l.filter (·.o.isEff)).map (·.o)
theorem stable_at {call : ACall} {all : List Step} {last : AH} : ∀ {A : List Step} {over : List AOper} {R : List Step}, stable call all over (A ++ R) last = true → (∀ s l, R = s :: l → s.o.isEff = true) → ∀ s ∈ all, stableIn call (headOf R last) (over ++ effsOf A) (effsOf R) s = true
  | [], over, [], h, _, s, hs => by
    simp only [List.nil_append, stable, List.all_eq_true] at h
    simpa [effsOf, headOf] using h s hs
  | [], over, r :: R, h, hR, s, hs => by
    have hr := hR r R rfl
    simp only [List.nil_append, stable, hr, if_true, Bool.and_eq_true, List.all_eq_true] at h
    have := h.1 s hs
    simpa [effsOf, headOf, hr] using this
  | a :: A, over, R, h, hR, s, hs => by
    simp only [List.cons_append, stable] at h
    by_cases ha : a.o.isEff = true
    · simp only [ha, if_true, Bool.and_eq_true] at h
      have := stable_at h.2 hR s hs
      simpa [effsOf, ha] using this
    · simp only [ha, Bool.false_eq_true, if_false] at h
      have := stable_at h hR s hs
      simpa [effsOf, ha] using this
structure Stat (P : Program) (call : ACall) (ops : Array Oper) (nt : Nat) (L : List Step) (e : Env) (H : AH) (e' : Env) (H' : AH) : Prop where
  mem : ∀ s ∈ L, ∃ o, ops[s.o.id]? = some o ∧ cOper P nt ops s.o.id s.o.pre o = some s.o
  cover : ∀ i, i < ops.size → ∃ s ∈ L, s.o.id = i
  nodup : L.Pairwise fun x y => x.o.id ≠ y.o.id
  edges : ∀ L1 s L2, L = L1 ++ s :: L2 → ∀ o, ops[s.o.id]? = some o → ∀ ed ∈ o.after, Region.binds .any ed = true → ∃ x ∈ L1, x.o.id = ed.on
  pre : ∀ s ∈ L, ∀ o, ops[s.o.id]? = some o → ∀ k, hasNat s.o.pre k = true → ∃ ed ∈ o.after, Region.binds .any ed = true ∧ (ed.on = k ∨ ∃ b ∈ L, b.o.id = ed.on ∧ hasNat b.o.pre k = true)
  pairs : L.Pairwise fun x y => pairOk x.o y.o = true
  chain : Chain call L e H e' H'
  stable : ∀ A R, L = A ++ R → (∀ s l, R = s :: l → s.o.isEff = true) → ∀ s ∈ L, stableIn call (headOf R H') (effsOf A) (effsOf R) s = true
def dn (listed : Array Bool) (s : Step) : Bool := listed.getD s.o.id false
def mkr (s : Step) : Prop := s.want = true ∧ s.o.op.cls = .alloc
structure Inv (P : Program) (base : Array Obj) (ops : Array Oper) (nt : Nat) (L : List Step) (e : Env) (H : AH) (w0 : World) (m0 : CM) (H' : AH) (listed : Array Bool) (a : Act) (w : World) (m : CM) (A R : List Step) : Prop where
  size : listed.size = ops.size
  nt : a.tmps.size = nt
  split : L = A ++ R
  doneA : ∀ s ∈ A, s.o.isEff = true → dn listed s = true
  headR : ∀ s l, R = s :: l → s.o.isEff = true ∧ dn listed s = false
  pre : ∀ s ∈ L, dn listed s = true → ∀ k, hasNat s.o.pre k = true → listed.getD k false = true
  rel : Rel P base m (headOf R H') w
  ext : Ext m0 H w0 m (headOf R H') w
  env : EnvR m (envD (dn listed) e L) a.tmps
  room : ∀ s ∈ A, mkr s → H.next ≤ s.before.next ∧ s.before.next < (headOf R H').next
  apart : ∀ s ∈ A, ∀ s' ∈ A, mkr s → mkr s' → s.o.id ≠ s'.o.id → s.before.next ≠ s'.before.next
  unreal : ∀ s ∈ A, mkr s → dn listed s = false → m s.before.next = none ∧ (headOf R H').get s.before.next = s.after.get s.before.next
section
variable {P : Program} {base : Array Obj} {m m0 : CM} {H H' : AH} {w w0 : World} {nt : Nat} {e e' : Env} {a : Act} {v : AV} {F : Fence} {n : Nat} {call : ACall} {ops : Array Oper} {L : List Step} {listed : Array Bool} {A R : List Step}
theorem dn_set {s x : Step} (hlt : s.o.id < listed.size) : dn (listed.setIfInBounds s.o.id true) x = if x.o.id = s.o.id then true else dn listed x := by
  unfold dn
  by_cases h : x.o.id = s.o.id
  · rw [h, if_pos rfl]; simp [hlt]
  · rw [if_neg h, getD_set_ne false (fun e => h e.symm)]
theorem walk_quiet (hS : Rel P base m H w) : ∀ {N : List Step} {e e1 : Env} {H H1 : AH}, Chain call N e H e1 H1 → (∀ s ∈ N, s.o.isEff = false) → Rel P base m H w → Rel P base m H1 w ∧ Ext m H w m H1 w ∧
    (∀ s ∈ N, mkr s → H.next ≤ s.before.next ∧ s.before.next < H1.next ∧ m s.before.next = none ∧ H1.get s.before.next = s.after.get s.before.next) ∧
    N.Pairwise fun x y => mkr x → mkr y → x.before.next ≠ y.before.next
  | [], e, e1, H, H1, h, _, hr => by
    obtain ⟨rfl, rfl⟩ := h
    exact ⟨hr, Ext.refl _ _ _, by simp, .nil⟩
  | s :: N, e, e1, H, H1, h, hq, hr => by
    simp only [Chain] at h
    obtain ⟨h1, h2, h3, h4, h5, h6⟩ := h
    have hne := hq s (by simp)
    have key : (s.after = H ∧ ¬ mkr s) ∨ ∃ obj, s.after = H.alloc obj := by
      cases hw : s.want with
      | false => exact .inl ⟨(h5 hw).2, fun hm => by rw [hm.1] at hw; cases hw⟩
      | true =>
        have h4 := h4 hw
        cases hcl : s.o.op.cls with
        | pure => exact .inl ⟨(aop_pure hcl h4).1, fun hm => by rw [hm.2] at hcl; cases hcl⟩
        | load => exact .inl ⟨aop_load hcl h4, fun hm => by rw [hm.2] at hcl; cases hcl⟩
        | alloc => exact .inr (aop_alloc hcl h4)
        | eff => simp [AOper.isEff, hcl] at hne
    have step : Rel P base m s.after w ∧ Ext m H w m s.after w ∧ (mkr s → s.after.next = H.next + 1) := by
      rcases key with ⟨hk, hnm⟩ | ⟨obj, hk⟩
      · rw [hk]; exact ⟨hr, Ext.refl _ _ _, fun hm => absurd hm hnm⟩
      · rw [hk]; exact ⟨hr.unreal obj, Ext.unreal' obj (hr.top _ (Nat.le_refl _)), fun _ => rfl⟩
    obtain ⟨r1, r2, r3, r4⟩ := walk_quiet hS h6 (fun x hx => hq x (by simp [hx])) step.1
    refine ⟨r1, step.2.1.trans r2, fun x hx hm => ?_, ?_⟩
    · rcases List.mem_cons.1 hx with rfl | hx
      · have hn := step.2.2 hm
        have hmn : m H.next = none := hr.top _ (Nat.le_refl _)
        rw [h2]
        refine ⟨Nat.le_refl _, ?_, hmn, ?_⟩
        · have := r2.next; omega
        · exact (r2.unreal H.next (by omega) hmn).2
      · obtain ⟨k1, k2, k3, k4⟩ := r3 x hx hm
        exact ⟨Nat.le_trans step.2.1.next k1, k2, k3, k4⟩
    · refine List.pairwise_cons.2 ⟨fun y hy hmx hmy => ?_, r4⟩
      have hn := step.2.2 hmx
      have := (r3 y hy hmy).1
      rw [h2]; omega
theorem quiet_split : ∀ (R : List Step), ∃ N R', R = N ++ R' ∧ (∀ s ∈ N, s.o.isEff = false) ∧ (∀ s l, R' = s :: l → s.o.isEff = true)
  | [] => ⟨[], [], rfl, by simp, by simp⟩
  | s :: R => by
    by_cases h : s.o.isEff = true
    · exact ⟨[], s :: R, rfl, by simp, fun x l hx => by cases hx; exact h⟩
    · obtain ⟨N, R', h1, h2, h3⟩ := quiet_split R
      refine ⟨s :: N, R', by rw [h1]; rfl, fun x hx => ?_, h3⟩
      rcases List.mem_cons.1 hx with rfl | hx
      · simpa using h
      · exact h2 x hx
theorem headOf_chain {R : List Step} {e e' : Env} {H1 H' : AH} (h : Chain call R e H1 e' H') : headOf R H' = H1 := by
  cases R with
  | nil => exact h.2.symm
  | cons s R => exact h.2.1
theorem around (hst : Stat P call ops nt L e H e' H') (hi : Inv P base ops nt L e H w0 m0 H' listed a w m A R) {L1 L2 : List Step} {s : Step} (hL : L = L1 ++ s :: L2) (hu : dn listed s = false)
    (hready : ∀ k, hasNat s.o.pre k = true → listed.getD k false = true) :
    (∀ x ∈ L1, dn listed x = false → clash x.o s.o = false ∧ (x.o.isEff && (s.o.isEff || decide (s.o.op.cls = .alloc))) = false) ∧
    (∀ y ∈ L2, dn listed y = true → clash s.o y.o = false ∧ (s.o.isEff && (y.o.isEff || decide (y.o.op.cls = .alloc))) = false) ∧
    (∀ x ∈ L, x.o.id = s.o.id → x = s) := by
  have hp := hst.pairs
  have hn := hst.nodup
  rw [hL] at hp hn
  obtain ⟨p1, p2, p3⟩ := List.pairwise_append.1 hp
  obtain ⟨n1, n2, n3⟩ := List.pairwise_append.1 hn
  obtain ⟨q1, q2⟩ := List.pairwise_cons.1 p2
  obtain ⟨o1, o2⟩ := List.pairwise_cons.1 n2
  refine ⟨fun x hx hxu => ?_, fun y hy hyd => ?_, fun x hx hid => ?_⟩
  · have := p3 x hx s (by simp)
    simp only [pairOk, Bool.or_eq_true, Bool.and_eq_true, Bool.not_eq_true'] at this
    rcases this with h | h
    · have := hready _ h
      unfold dn at hxu
      rw [this] at hxu; cases hxu
    · exact h
  · have := q1 y hy
    simp only [pairOk, Bool.or_eq_true, Bool.and_eq_true, Bool.not_eq_true'] at this
    rcases this with h | h
    · have := hi.pre y (by rw [hL]; simp [hy]) hyd _ h
      unfold dn at hu
      rw [this] at hu; cases hu
    · exact h
  · rw [hL] at hx
    rcases List.mem_append.1 hx with h | h
    · exact absurd hid (n3 x h s (by simp))
    · rcases List.mem_cons.1 h with rfl | h
      · rfl
      · exact absurd hid.symm (o1 x h)
theorem clash_reads {x s : AOper} (h : clash x s = false) : (∀ t, x.dst = some t → t ∉ s.reads ∧ s.dst ≠ some t) ∧ (∀ t, s.dst = some t → t ∉ x.reads) := by
  simp only [clash, Bool.or_eq_false_iff] at h
  refine ⟨fun t ht => ?_, fun t ht => ?_⟩
  · have := h.1
    rw [ht] at this
    simp only [Bool.or_eq_false_iff, decide_eq_false_iff_not] at this
    exact ⟨fun hm => by rw [hasNat_mem.2 hm] at this; exact absurd this.1 (by simp), this.2⟩
  · have := h.2
    rw [ht] at this
    simp only at this
    exact fun hm => by rw [hasNat_mem.2 hm] at this; cases this
theorem reads_same (hst : Stat P call ops nt L e H e' H') (hi : Inv P base ops nt L e H w0 m0 H' listed a w m A R) {L1 L2 : List Step} {s : Step} (hL : L = L1 ++ s :: L2) (hu : dn listed s = false)
    (hready : ∀ k, hasNat s.o.pre k = true → listed.getD k false = true) : ∀ t ∈ s.o.reads, (envD (dn listed) e L).get t = s.env.get t := by
  obtain ⟨h1, h2, _⟩ := around hst hi hL hu hready
  intro t ht
  have hc := hst.chain
  rw [hL] at hc
  obtain ⟨H1, c1, c2⟩ := hc.split
  have hse : s.env = envD (fun _ => true) e L1 := c2.1
  rw [hL, envD_append, envD, hu]
  simp only [Bool.false_eq_true, if_false]
  rw [envD_skip L2 fun y hy hyd hdst => ((clash_reads (h2 y hy hyd).1).2 t hdst) ht, hse]
  refine envD_congr L1 rfl fun x hx hne hdst => ?_
  have hxu : dn listed x = false := by cases hd : dn listed x <;> simp_all
  exact ((clash_reads (h1 x hx hxu).1).1 t hdst).1 ht
theorem env_done (hst : Stat P call ops nt L e H e' H') (hi : Inv P base ops nt L e H w0 m0 H' listed a w m A R) {L1 L2 : List Step} {s : Step} (hL : L = L1 ++ s :: L2) (hu : dn listed s = false)
    (hready : ∀ k, hasNat s.o.pre k = true → listed.getD k false = true) (hlt : s.o.id < listed.size) (t : Nat) :
    (envD (dn (listed.setIfInBounds s.o.id true)) e L).get t = (putDst (envD (dn listed) e L) s.o.dst s.v).get t := by
  obtain ⟨h1, h2, h3⟩ := around hst hi hL hu hready
  have hds : dn (listed.setIfInBounds s.o.id true) s = true := by rw [dn_set hlt, if_pos rfl]
  have hdx : ∀ x ∈ L, x ≠ s → dn (listed.setIfInBounds s.o.id true) x = dn listed x := fun x hx hne => by
    rw [dn_set hlt, if_neg fun hid => hne (h3 x hx hid)]
  rw [get_putDst]
  by_cases hd : s.o.dst = some t
  · rw [if_pos hd, hL, envD_append, envD, hds]
    simp only [if_true]
    rw [envD_skip L2, get_putDst, if_pos hd]
    intro y hy hyd hdst
    by_cases hys : y = s
    · have hn := hst.nodup
      rw [hL] at hn
      obtain ⟨n1, n2, n3⟩ := List.pairwise_append.1 hn
      exact (List.pairwise_cons.1 n2).1 y hy (by rw [hys])
    · rw [hdx y (by rw [hL]; simp [hy]) hys] at hyd
      exact ((clash_reads (h2 y hy hyd).1).1 t hd).2 hdst
  · rw [if_neg hd]
    refine envD_congr L rfl fun x hx hne => ?_
    by_cases hxs : x = s
    · rw [hxs]; exact hd
    · exact absurd (hdx x hx hxs) hne
theorem pairwise_sym {α : Type} {R : α → α → Prop} (hs : ∀ x y, R x y → R y x) : ∀ {l : List α}, l.Pairwise R → ∀ x ∈ l, ∀ y ∈ l, x ≠ y → R x y
  | [], _, x, hx, _, _, _ => by simp at hx
  | a :: l, h, x, hx, y, hy, hne => by
    obtain ⟨h1, h2⟩ := List.pairwise_cons.1 h
    rcases List.mem_cons.1 hx with hx1 | hx1
    · rcases List.mem_cons.1 hy with hy1 | hy1
      · exact absurd (hx1.trans hy1.symm) hne
      · rw [hx1]; exact h1 y hy1
    · rcases List.mem_cons.1 hy with hy1 | hy1
      · rw [hy1]; exact hs _ _ (h1 x hx1)
      · exact pairwise_sym hs h2 x hx1 y hy1 hne
theorem pre_done (hst : Stat P call ops nt L e H e' H') (hi : Inv P base ops nt L e H w0 m0 H' listed a w m A R) {s : Step} (hs : s ∈ L) {o : Oper} (ho : ops[s.o.id]? = some o)
    (hr : ∀ ed ∈ o.after, Region.binds .any ed = true → listed.getD ed.on false = true) : ∀ k, hasNat s.o.pre k = true → listed.getD k false = true := by
  intro k hk
  obtain ⟨ed, h1, h2, h3⟩ := hst.pre s hs o ho k hk
  have hd := hr ed h1 h2
  rcases h3 with rfl | ⟨b, hb, hid, hbk⟩
  · exact hd
  · exact hi.pre b hb (by unfold dn; rw [hid]; exact hd) k hbk
theorem Inv.quiet (hst : Stat P call ops nt L e H e' H') (hi : Inv P base ops nt L e H w0 m0 H' listed a w m A R) {L1 L2 : List Step} {s : Step} (hL : L = L1 ++ s :: L2) (hu : dn listed s = false)
    (hready : ∀ k, hasNat s.o.pre k = true → listed.getD k false = true) (hlt : s.o.id < ops.size) (hq : s.o.isEff = false) (hdst : cDst nt s.o.dst = true) {m' : CM} {w' : World} {u : Value} (hv : VR m' s.v u) (hle : m.le m')
    (hr : Rel P base m' (headOf R H') w') (hx : Ext m0 H w0 m' (headOf R H') w') (hm : ∀ r, r < (headOf R H').next → m r = none → (mkr s → s ∈ A ∧ r ≠ s.before.next) → m' r = none) :
    (mkr s → s ∈ A) → Inv P base ops nt L e H w0 m0 H' (listed.setIfInBounds s.o.id true) (a.put s.o.dst u) w' m' A R := by
  intro hsA
  have hlt' : s.o.id < listed.size := by rw [hi.size]; exact hlt
  obtain ⟨_, _, huniq⟩ := around hst hi hL hu hready
  have hAL : ∀ x ∈ A, x ∈ L := fun x h => by rw [hi.split]; simp [h]
  refine ⟨by simp [hi.size], by rw [Act.put_size]; exact hi.nt, hi.split, fun x hx he => ?_, fun x l hR => ?_, fun x hx hd k hk => ?_, hr, hx, fun t v hv' => ?_, hi.room, hi.apart, fun x hx hmk hd => ?_⟩
  · rw [dn_set hlt']; split
    · rfl
    · exact hi.doneA x hx he
  · obtain ⟨h1, h2⟩ := hi.headR x l hR
    refine ⟨h1, ?_⟩
    have hxL : x ∈ L := by rw [hi.split, hR]; simp
    rw [dn_set hlt', if_neg]
    · exact h2
    · intro hid
      rw [huniq x hxL hid] at h1
      rw [h1] at hq; cases hq
  · rw [dn_set hlt'] at hd
    by_cases hid : x.o.id = s.o.id
    · rw [huniq x hx hid] at hk
      exact getD_set_true (hready k hk)
    · rw [if_neg hid] at hd
      exact getD_set_true (hi.pre x hx hd k hk)
  · rw [env_done hst hi hL hu hready hlt'] at hv'
    exact (hi.env.mono hle).putDst (by rw [hi.nt]; exact hdst) hv t v hv'
  · rw [dn_set hlt'] at hd
    by_cases hid : x.o.id = s.o.id
    · rw [if_pos hid] at hd; cases hd
    · rw [if_neg hid] at hd
      obtain ⟨h1, h2⟩ := hi.unreal x hx hmk hd
      refine ⟨hm _ (hi.room x hx hmk).2 h1 fun hms => ⟨hsA hms, hi.apart x hx s (hsA hms) hmk hms hid⟩, h2⟩
theorem Inv.effect (hst : Stat P call ops nt L e H e' H') (hi : Inv P base ops nt L e H w0 m0 H' listed a w m A R) {s : Step} {R0 : List Step} (hR : R = s :: R0) (hu : dn listed s = false)
    (hready : ∀ k, hasNat s.o.pre k = true → listed.getD k false = true) (hlt : s.o.id < ops.size) (hq : s.o.isEff = true) (hdst : cDst nt s.o.dst = true) {m' : CM} {w' : World} {u : Value} (hv : VR m' s.v u)
    (hr : Rel P base m' s.after w') (hx : Ext m (headOf R H') w m' s.after w') :
    ∃ A' R', Inv P base ops nt L e H w0 m0 H' (listed.setIfInBounds s.o.id true) (a.put s.o.dst u) w' m' A' R' := by
  have hlt' : s.o.id < listed.size := by rw [hi.size]; exact hlt
  have hL : L = A ++ s :: R0 := by rw [hi.split, hR]
  obtain ⟨_, _, huniq⟩ := around hst hi hL hu hready
  obtain ⟨N, R', hN, hNq, hRe⟩ := quiet_split R0
  have hc := hst.chain
  rw [hL] at hc
  obtain ⟨H1, _, c2⟩ := hc.split
  have c3 := c2.2.2.2.2.2
  rw [hN] at c3
  obtain ⟨H2, c4, c5⟩ := c3.split
  have hH2 : headOf R' H' = H2 := headOf_chain c5
  obtain ⟨r1, r2, r3, r4⟩ := walk_quiet hr c4 hNq hr
  have hx2 : Ext m (headOf R H') w m' H2 w' := hx.trans r2
  have hnms : ¬ mkr s := fun hm => by
    have := hm.2
    simp only [AOper.isEff, decide_eq_true_eq] at hq
    rw [this] at hq; cases hq
  have hmem : ∀ x, x ∈ A ++ s :: N → mkr x → x ∈ A ∨ x ∈ N := fun x h hm => by
    rcases List.mem_append.1 h with h | h
    · exact .inl h
    · rcases List.mem_cons.1 h with rfl | h
      · exact absurd hm hnms
      · exact .inr h
  have hn1 := hx.next
  have hn2 := r2.next
  have hn3 := hi.ext.next
  refine ⟨A ++ s :: N, R', by simp [hi.size], by rw [Act.put_size]; exact hi.nt, by rw [hL, hN]; simp, fun x hx' he => ?_, fun x l hR' => ?_, fun x hx' hd k hk => ?_, by rw [hH2]; exact r1, by rw [hH2]; exact hi.ext.trans hx2, fun t v hv' => ?_, fun x hx' hmk => ?_, fun x hx' y hy' hmx hmy hne => ?_, fun x hx' hmk hd => ?_⟩
  · rw [dn_set hlt']
    rcases List.mem_append.1 hx' with h | h
    · split
      · rfl
      · exact hi.doneA x h he
    · rcases List.mem_cons.1 h with rfl | h
      · rw [if_pos rfl]
      · rw [hNq x h] at he; cases he
  · have hxe := hRe x l hR'
    refine ⟨hxe, ?_⟩
    have hp := hst.pairs
    have hn := hst.nodup
    rw [hL] at hp hn
    have hxR0 : x ∈ R0 := by rw [hN, hR']; simp
    have hp1 := (List.pairwise_cons.1 (List.pairwise_append.1 hp).2.1).1 x hxR0
    have hn1 := (List.pairwise_cons.1 (List.pairwise_append.1 hn).2.1).1 x hxR0
    rw [dn_set hlt', if_neg (fun h => hn1 h.symm)]
    simp only [pairOk, hq, hxe, Bool.or_eq_true, Bool.and_eq_true, Bool.not_eq_true', Bool.true_or, Bool.and_self, Bool.true_eq_false, and_false, or_false] at hp1
    cases hd : dn listed x with
    | false => rfl
    | true =>
      have := hi.pre x (by rw [hL]; simp [hxR0]) hd _ hp1
      unfold dn at hu
      rw [this] at hu; cases hu
  · rw [dn_set hlt'] at hd
    by_cases hid : x.o.id = s.o.id
    · rw [huniq x hx' hid] at hk
      exact getD_set_true (hready k hk)
    · rw [if_neg hid] at hd
      exact getD_set_true (hi.pre x hx' hd k hk)
  · rw [env_done hst hi hL hu hready hlt'] at hv'
    exact (hi.env.mono hx2.le).putDst (by rw [hi.nt]; exact hdst) hv t v hv'
  · rw [hH2]
    rcases hmem x hx' hmk with h | h
    · have := hi.room x h hmk; omega
    · have := r3 x h hmk; omega
  · rcases hmem x hx' hmx with h | h
    · rcases hmem y hy' hmy with h' | h'
      · exact hi.apart x h y h' hmx hmy hne
      · have := hi.room x h hmx; have := r3 y h' hmy; omega
    · rcases hmem y hy' hmy with h' | h'
      · have := hi.room y h' hmy; have := r3 x h hmx; omega
      · exact pairwise_sym (fun x y h a b => (h b a).symm) r4 x h y h' (fun e => hne (by rw [e])) hmx hmy
  · rw [hH2]
    rcases hmem x hx' hmk with h | h
    · rw [dn_set hlt'] at hd
      by_cases hid : x.o.id = s.o.id
      · rw [if_pos hid] at hd; cases hd
      · rw [if_neg hid] at hd
        obtain ⟨h1, h2⟩ := hi.unreal x h hmk hd
        obtain ⟨h3, h4⟩ := hx2.unreal _ (hi.room x h hmk).2 h1
        exact ⟨h3, h4.trans h2⟩
    · exact ⟨(r3 x h hmk).2.2.1, (r3 x h hmk).2.2.2⟩
theorem Inv.start (hst : Stat P call ops nt L e H e' H') (hr : Rel P base m H w) (he : EnvR m e a.tmps) (hnt : a.tmps.size = nt) : ∃ A R, Inv P base ops nt L e H w m H' (Array.replicate ops.size false) a w m A R := by
  obtain ⟨N, R', hN, hNq, hRe⟩ := quiet_split L
  have hc := hst.chain
  rw [hN] at hc
  obtain ⟨H2, c4, c5⟩ := hc.split
  have hH2 : headOf R' H' = H2 := headOf_chain c5
  obtain ⟨r1, r2, r3, r4⟩ := walk_quiet hr c4 hNq hr
  have hd0 : ∀ k, (Array.replicate ops.size false).getD k false = false := fun k => by
    simp only [Array.getD]; split <;> simp
  have hd : ∀ x, dn (Array.replicate ops.size false) x = false := fun x => hd0 _
  refine ⟨N, R', by simp, hnt, hN, fun x hx h => (by rw [hNq x hx] at h; cases h), fun x l h => ⟨hRe x l h, hd x⟩, fun x _ h => (by rw [hd] at h; cases h), by rw [hH2]; exact r1, by rw [hH2]; exact r2, fun t v hv => ?_, fun x hx hm => ?_, fun x hx y hy hmx hmy hne => ?_, fun x hx hm _ => ?_⟩
  · rw [envD_skip L (fun x _ h => by rw [hd] at h; cases h)] at hv
    exact he t v hv
  · rw [hH2]; have := r3 x hx hm; omega
  · exact pairwise_sym (fun x y h a b => (h b a).symm) r4 x hx y hy (fun e => hne (by rw [e])) hmx hmy
  · rw [hH2]; exact ⟨(r3 x hx hm).2.2.1, (r3 x hx hm).2.2.2⟩
theorem first_undone (d : Step → Bool) : ∀ (L : List Step), (∀ s ∈ L, d s = true) ∨ ∃ L1 s L2, L = L1 ++ s :: L2 ∧ (∀ x ∈ L1, d x = true) ∧ d s = false
  | [] => .inl (by simp)
  | s :: L => by
    cases hd : d s with
    | false => exact .inr ⟨[], s, L, rfl, by simp, hd⟩
    | true =>
      rcases first_undone d L with h | ⟨L1, x, L2, h1, h2, h3⟩
      · exact .inl fun x hx => by
          rcases List.mem_cons.1 hx with rfl | hx
          · exact hd
          · exact h x hx
      · refine .inr ⟨s :: L1, x, L2, by rw [h1]; rfl, fun y hy => ?_, h3⟩
        rcases List.mem_cons.1 hy with rfl | hy
        · exact hd
        · exact h2 y hy
theorem all_done (hst : Stat P call ops nt L e H e' H') (hsz : listed.size = ops.size) (h : Region.ready .any ops listed = []) : ∀ s ∈ L, dn listed s = true := by
  rcases first_undone (dn listed) L with h1 | ⟨L1, s, L2, h1, h2, h3⟩
  · exact h1
  · exfalso
    obtain ⟨o, ho, _⟩ := hst.mem s (by rw [h1]; simp)
    have : s.o.id ∈ Region.ready .any ops listed := by
      rw [mem_ready]
      refine ⟨?_, o, ho, fun ed hed hb => ?_⟩
      · have hlt : s.o.id < listed.size := by rw [hsz]; exact (Array.getElem?_eq_some_iff.1 ho).1
        unfold dn at h3
        simpa [Array.getD, hlt] using h3
      · obtain ⟨x, hx, hid⟩ := hst.edges L1 s L2 h1 o ho ed hed hb
        have := h2 x hx
        unfold dn at this
        rw [hid] at this; exact this
    rw [h] at this; simp at this
def undone (listed : Array Bool) (L : List Step) : Nat := L.countP fun s => !dn listed s
theorem undone_less {s : Step} (hs : s ∈ L) (hu : dn listed s = false) (hlt : s.o.id < listed.size) : undone (listed.setIfInBounds s.o.id true) L < undone listed L := by
  unfold undone
  induction L with
  | nil => simp at hs
  | cons x l ih =>
    have hle : ∀ l : List Step, l.countP (fun s' => !dn (listed.setIfInBounds s.o.id true) s') ≤ l.countP (fun s' => !dn listed s') := fun l => by
      refine List.countP_mono_left fun y _ hy => ?_
      rw [dn_set hlt] at hy
      split at hy
      · simp at hy
      · exact hy
    simp only [List.countP_cons]
    rcases List.mem_cons.1 hs with rfl | hs
    · have h1 : dn (listed.setIfInBounds s.o.id true) s = true := by rw [dn_set hlt, if_pos rfl]
      rw [h1, hu]
      have := hle l
      simp; omega
    · have h1 := ih hs
      have h2 : dn listed x = true → dn (listed.setIfInBounds s.o.id true) x = true := fun h => by
        rw [dn_set hlt]; split
        · rfl
        · exact h
      cases hx : dn listed x with
      | true => rw [h2 hx]; simpa using h1
      | false =>
        cases hy : dn (listed.setIfInBounds s.o.id true) x <;> simp <;> omega
theorem wanted_congr {e1 e2 : Env} {o : AOper} (h : ∀ t ∈ o.reads, e1.get t = e2.get t) : o.wanted e1 = o.wanted e2 := by
  unfold AOper.wanted
  cases hg : o.guard with
  | none => rfl
  | some p =>
    obtain ⟨t, want⟩ := p
    simp only
    rw [h t (by simp [AOper.reads, hg])]
theorem op_congr {e1 e2 : Env} {o : AOper} (h : ∀ t ∈ o.reads, e1.get t = e2.get t) : aop call e1 H o.op = aop call e2 H o.op :=
  aop_congr fun t ht => h t (by unfold AOper.reads; cases o.guard <;> simp [ht])
theorem draw_go (hS : SimCall P call) (hF : WideF F) {Q : Exit → Act → World → Prop} {a0 : Act} (hst : Stat P call ops nt L e H e' H')
    (hq : ∀ m' a' w', Rel P base m' H' w' → Ext m0 H w0 m' H' w' → EnvR m' e' a'.tmps → a'.tmps.size = nt → a'.defers = a0.defers → Q .normal a' w') :
    ∀ (fuel : Nat) (listed : Array Bool) (a : Act) (w : World) (m : CM) (A R : List Step), Inv P base ops nt L e H w0 m0 H' listed a w m A R → a.defers = a0.defers → undone listed L ≤ fuel → wpAnyIn F n P .any ops Q fuel listed a w := by
  have hnone : ∀ {listed : Array Bool} {a : Act} {w : World} {m : CM} {A R : List Step}, Inv P base ops nt L e H w0 m0 H' listed a w m A R → a.defers = a0.defers → Region.ready .any ops listed = [] → Q .normal a w := by
    intro listed a w m A R hi hdf hr
    have hall := all_done hst hi.size hr
    have hR : R = [] := by
      cases R with
      | nil => rfl
      | cons s l =>
        have h1 := (hi.headR s l rfl).2
        rw [hall s (by rw [hi.split]; simp)] at h1; cases h1
    have hrel := hi.rel
    have hext := hi.ext
    rw [hR] at hrel hext
    refine hq m a w hrel hext (fun t v hv => ?_) hi.nt hdf
    have he' := hst.chain.end_
    refine hi.env t v ?_
    rw [← hv, he']
    refine envD_congr L rfl fun x hx hne => ?_
    rw [hall x hx] at hne
    exact absurd rfl hne
  intro fuel
  induction fuel with
  | zero =>
    intro listed a w m A R hi hdf hu
    have hr : Region.ready .any ops listed = [] := by
      cases hr : Region.ready .any ops listed with
      | nil => rfl
      | cons i is =>
        exfalso
        have hmem : i ∈ Region.ready .any ops listed := by rw [hr]; simp
        rw [mem_ready] at hmem
        obtain ⟨h1, o, ho, _⟩ := hmem
        obtain ⟨s, hs, hid⟩ := hst.cover i (Array.getElem?_eq_some_iff.1 ho).1
        have h2 : dn listed s = false := by
          have hlt : i < listed.size := by rw [hi.size]; exact (Array.getElem?_eq_some_iff.1 ho).1
          unfold dn; rw [hid]
          simpa [Array.getD, hlt] using h1
        have : 0 < undone listed L := List.countP_pos_iff.2 ⟨s, hs, by simp [h2]⟩
        omega
    exact ⟨hr, hnone hi hdf hr⟩
  | succ fuel ih =>
    intro listed a w m A R hi hdf hu
    refine ⟨hnone hi hdf, fun i hmem => ?_⟩
    rw [mem_ready] at hmem
    obtain ⟨hl, o, ho, hedges⟩ := hmem
    have hlt : i < ops.size := (Array.getElem?_eq_some_iff.1 ho).1
    obtain ⟨s, hs, hid⟩ := hst.cover i hlt
    subst hid
    have hlt' : s.o.id < listed.size := by rw [hi.size]; exact hlt
    have hsu : dn listed s = false := by
      unfold dn
      simpa [Array.getD, hlt'] using hl
    obtain ⟨o', ho', hco⟩ := hst.mem s hs
    rw [ho] at ho'; cases ho'
    have hready := pre_done hst hi hs ho hedges
    obtain ⟨L1, L2, hL⟩ := List.append_of_mem hs
    obtain ⟨har1, har2, huniq⟩ := around hst hi hL hsu hready
    have hreads := reads_same hst hi hL hsu hready
    have hc := hst.chain
    rw [hL] at hc
    obtain ⟨H1, c1, c2⟩ := hc.split
    obtain ⟨k1, k2, k3, k4, k5, k6⟩ := c2
    rw [← k1] at k3 k4
    rw [← k2] at k4 k5
    have hwant : s.o.wanted (envD (dn listed) e L) = some s.want := by rw [wanted_congr hreads]; exact k3
    have hco' := hco
    rw [← hi.nt] at hco'
    have hwd := wanted_eq hi.env hco' hwant
    obtain ⟨d1, d2, d3⟩ := cOper_op hco
    have hless : undone (listed.setIfInBounds s.o.id true) L ≤ fuel := by have := undone_less hs hsu hlt'; omega
    have hdst : cDst nt s.o.dst = true := by rw [d3]; exact d2
    have hnext : ∀ {u : Value} {m' : CM} {w' : World} {A' R' : List Step}, Inv P base ops nt L e H w0 m0 H' (listed.setIfInBounds s.o.id true) (a.put s.o.dst u) w' m' A' R' → wpAnyIn F n P .any ops Q fuel (listed.setIfInBounds s.o.id true) (a.put o.dst u) w' := by
      intro u m' w' A' R' hi'
      rw [d3] at hi'
      exact ih _ _ _ _ _ _ hi' (by rw [put_defers']; exact hdf) hless
    have hin : s ∈ A ∨ s ∈ R := by
      have := hs
      rw [hi.split] at this
      exact List.mem_append.1 this
    have hheadOnly : s ∈ R → (s.o.isEff || decide (s.o.op.cls = .alloc)) = true → ∃ R0, R = s :: R0 := fun hm hc => by
      cases hRc : R with
      | nil => rw [hRc] at hm; simp at hm
      | cons x l =>
        obtain ⟨h1, h2⟩ := hi.headR x l hRc
        rw [hRc] at hm
        rcases List.mem_cons.1 hm with rfl | hm
        · exact ⟨l, rfl⟩
        · exfalso
          have hp := hst.pairs
          rw [hi.split, hRc] at hp
          have := (List.pairwise_cons.1 (List.pairwise_append.1 hp).2.1).1 s hm
          simp only [pairOk, h1, hc, Bool.true_and, Bool.not_true, Bool.and_false, Bool.or_false] at this
          have := hready _ this
          unfold dn at h2
          rw [this] at h2; cases h2
    have hefA : s.o.isEff = true → ∃ R0, R = s :: R0 := fun he => by
      rcases hin with h | h
      · have := hi.doneA s h he
        rw [hsu] at this; cases this
      · exact hheadOnly h (by simp [he])
    have hmkA : mkr s → s ∈ A := fun hm => by
      rcases hin with h | h
      · exact h
      · obtain ⟨R0, hR0⟩ := hheadOnly h (by simp [hm.2])
        have := (hi.headR s R0 hR0).1
        simp [AOper.isEff, hm.2] at this
    unfold wpOpIn
    rw [ho]
    simp only [hwd]
    cases hsw : s.want with
    | false =>
      simp only [Bool.false_eq_true, if_false]
      refine ⟨fun g _ => hF.fn g, ?_⟩
      obtain ⟨hv, haf⟩ := k5 hsw
      have hvr : VR m s.v undef := by rw [hv]; exact .tuple .nil
      cases heff : s.o.isEff with
      | false =>
        exact hnext (hi.quiet hst hL hsu hready hlt heff hdst hvr (leR m) hi.rel hi.ext (fun r _ h _ => h) (fun hm => by rw [hm.1] at hsw; cases hsw))
      | true =>
        obtain ⟨R0, hR0⟩ := hefA heff
        have hS0 : headOf R H' = s.after := by rw [hR0, haf]; rfl
        obtain ⟨A', R', hi'⟩ := hi.effect hst hR0 hsu hready hlt heff hdst hvr (by rw [← hS0]; exact hi.rel) (by rw [hS0]; exact Ext.refl _ _ _)
        exact hnext hi'
    | true =>
      simp only [if_true]
      have hop := k4 hsw
      rw [← op_congr hreads] at hop
      have d1' := d1
      rw [← hi.nt] at d1'
      cases hcl : s.o.op.cls with
      | pure =>
        have heff : s.o.isEff = false := by simp [AOper.isEff, hcl]
        have h2 := (aop_pure hcl hop).2 (headOf R H')
        refine sim_oper hS d1' hF hi.rel hi.env h2 fun u m' w' hv hr' hx' => ?_
        exact hnext (hi.quiet hst hL hsu hready hlt heff hdst hv hx'.le hr' (hi.ext.trans hx') (fun r hr hm _ => (hx'.unreal r hr hm).1) (fun hm => by rw [hm.2] at hcl; cases hcl))
      | load =>
        have heff : s.o.isEff = false := by simp [AOper.isEff, hcl]
        have h1 := hst.stable A R hi.split (fun x l h => (hi.headR x l h).1) s hs
        have hRu : ∀ x ∈ R, x.o.isEff = true → dn listed x = false := fun x hx he => by
          cases hRc : R with
          | nil => rw [hRc] at hx; simp at hx
          | cons y l =>
            obtain ⟨q1, q2⟩ := hi.headR y l hRc
            rw [hRc] at hx
            rcases List.mem_cons.1 hx with rfl | hx
            · exact q2
            · have hp := hst.pairs
              rw [hi.split, hRc] at hp
              have := (List.pairwise_cons.1 (List.pairwise_append.1 hp).2.1).1 x hx
              simp only [pairOk, q1, he, Bool.true_and, Bool.true_or, Bool.not_true, Bool.and_false, Bool.or_false] at this
              cases hd : dn listed x with
              | false => rfl
              | true =>
                have := hi.pre x (by rw [hi.split, hRc]; simp [hx]) hd _ this
                unfold dn at q2
                rw [this] at q2; cases q2
        have hadm : admits s.o (effsOf A) (effsOf R) = true := by
          simp only [admits, Bool.and_eq_true, List.all_eq_true, Bool.not_eq_true']
          refine ⟨fun x hx => ?_, fun x hx => ?_⟩
          · simp only [effsOf, List.mem_map, List.mem_filter] at hx
            obtain ⟨y, ⟨hy, hye⟩, rfl⟩ := hx
            cases hh : hasNat s.o.pre y.o.id with
            | false => rfl
            | true =>
              have q1 := hready _ hh
              have q2 := hRu y hy hye
              unfold dn at q2
              rw [q1] at q2; cases q2
          · simp only [effsOf, List.mem_map, List.mem_filter] at hx
            obtain ⟨y, ⟨hy, hye⟩, rfl⟩ := hx
            cases hh : hasNat y.o.pre s.o.id with
            | false => rfl
            | true =>
              have q1 := hi.pre y (by rw [hi.split]; simp [hy]) (hi.doneA y hy hye) _ hh
              unfold dn at hsu
              rw [q1] at hsu; cases hsu
        simp only [stableIn, hsw, hcl, hadm, decide_true, Bool.and_self, if_true] at h1
        split at h1
        · rename_i v' H2 hv'
          have hve := eqA_eq h1
          subst hve
          have h3 : H2 = headOf R H' := aop_load hcl hv'
          rw [← op_congr hreads, h3] at hv'
          refine sim_oper hS d1' hF hi.rel hi.env hv' fun u m' w' hv hr' hx' => ?_
          exact hnext (hi.quiet hst hL hsu hready hlt heff hdst (by assumption) hx'.le hr' (hi.ext.trans hx') (fun r hr hm _ => (hx'.unreal r hr hm).1) (fun hm => by rw [hm.2] at hcl; cases hcl))
        · cases h1
      | alloc =>
        have heff : s.o.isEff = false := by simp [AOper.isEff, hcl]
        have hsA := hmkA ⟨hsw, hcl⟩
        obtain ⟨hm0, hg0⟩ := hi.unreal s hsA ⟨hsw, hcl⟩ hsu
        obtain ⟨hrm1, hrm2⟩ := hi.room s hsA ⟨hsw, hcl⟩
        obtain ⟨mk, obj, hv, haf, sm, hex, u, oC, k, hrun, hmade⟩ := made_op (w := w) (m := m) (N := base.size) d1' hcl hi.rel.size hi.env hop
        have hgo : (headOf R H').get s.before.next = some obj := by rw [hg0, haf, AH.get_alloc, if_pos rfl]
        obtain ⟨hvr, hob⟩ := hmade s.before.next (CM.add m s.before.next (w.heap.size, 0, k)) (CM.add_le hm0) (CM.add_same _ _ _)
        have hr' := hi.rel.realize hrm2 hm0 (n := k) (oC := oC) (by rw [hgo]; exact hob)
        obtain ⟨e1, e2⟩ := Ext.realize (H := headOf R H') (w := w) (n := k) (oC := oC) hm0 (fun k c o n hk => (hi.rel.blk k c o n hk).1)
        have hx' : Ext m0 H w0 (CM.add m s.before.next (w.heap.size, 0, k)) (headOf R H') (w.alloc oC) := by
          refine ⟨leT hi.ext.le e1, hi.ext.next, by have := hi.ext.heap; simp; omega, fun c hc hf => ?_, fun b hb hn => ?_, hi.ext.loops, hi.ext.os⟩
          · obtain ⟨f1, f2⟩ := hi.ext.free c hc hf
            obtain ⟨f3, f4⟩ := e2 c (Nat.lt_of_lt_of_le hc hi.ext.heap) f1
            exact ⟨f3, f4.trans f2⟩
          · obtain ⟨f1, f2⟩ := hi.ext.unreal b hb hn
            exact ⟨by rw [CM.add_ne _ _ (by omega)]; exact f1, f2⟩
        have hgoal := hnext (hi.quiet hst hL hsu hready hlt heff hdst (u := u) (by rw [hv]; exact hvr) e1 hr' hx' (fun r _ hrn hne => by rw [CM.add_ne _ _ (hne ⟨hsw, hcl⟩).2]; exact hrn) (fun _ => hsA))
        refine ⟨fun g _ => hF.fn g, ?_⟩
        have hnd : ∀ c, o.op ≠ .defer c := fun c hcd => by rw [hcd] at d1; simp [cOp] at d1
        rw [Oper.semAt_eq _ _ _ hnd, hex, Sem.run_bind, hrun]
        exact hgoal
      | eff =>
        have heff : s.o.isEff = true := by simp [AOper.isEff, hcl]
        obtain ⟨R0, hR0⟩ := hefA heff
        have hS0 : headOf R H' = s.before := by rw [hR0]; rfl
        refine sim_oper hS d1' hF (by rw [← hS0]; exact hi.rel) hi.env hop fun u m' w' hv hr' hx' => ?_
        obtain ⟨A', R', hi'⟩ := hi.effect hst hR0 hsu hready hlt heff hdst hv hr' (by rw [hS0]; exact hx')
        exact hnext hi'
theorem nodupN_pw {α : Type} (f : α → Nat) : ∀ {l : List α}, nodupN (l.map f) = true → l.Pairwise fun x y => f x ≠ f y
  | [], _ => .nil
  | x :: l, h => by
    simp only [List.map_cons, nodupN, Bool.and_eq_true, Bool.not_eq_true'] at h
    refine List.pairwise_cons.2 ⟨fun y hy he => ?_, nodupN_pw f h.2⟩
    have : hasNat (l.map f) (f x) = true := hasNat_mem.2 (by rw [he]; exact List.mem_map.2 ⟨y, hy, rfl⟩)
    rw [this] at h; cases h.1
theorem pairsOk_pw : ∀ {l : List AOper}, pairsOk l = true → l.Pairwise fun x y => pairOk x y = true
  | [], _ => .nil
  | x :: l, h => by
    simp only [pairsOk, Bool.and_eq_true, List.all_eq_true] at h
    exact List.pairwise_cons.2 ⟨h.1, pairsOk_pw h.2⟩
theorem edgesOk_at : ∀ {A : List AOper} {x : AOper} {B : List AOper} {seen : List Nat}, edgesOk ops (A ++ x :: B) seen = true → ∀ o, ops[x.id]? = some o → ∀ ed ∈ o.after, Region.binds .any ed = true → ed.on ∈ seen ∨ ∃ y ∈ A, y.id = ed.on
  | [], x, B, seen, h, o, ho, ed, hed, hb => by
    simp only [List.nil_append, edgesOk, ho, Bool.and_eq_true, List.all_eq_true] at h
    have := h.1 ed (by simpa using hed)
    simp only [hb, Bool.not_true, Bool.false_or] at this
    exact .inl (hasNat_mem.1 this)
  | y :: A, x, B, seen, h, o, ho, ed, hed, hb => by
    simp only [List.cons_append, edgesOk, Bool.and_eq_true] at h
    rcases edgesOk_at h.2 o ho ed hed hb with h1 | ⟨z, hz, hid⟩
    · rcases List.mem_cons.1 h1 with h1 | h1
      · exact .inr ⟨y, by simp, h1.symm⟩
      · exact .inl h1
    · exact .inr ⟨z, by simp [hz], hid⟩
theorem stat_of {os : List AOper} (hok : drawOk ops os = true) (hmem : ∀ x ∈ os, ∃ o, ops[x.id]? = some o ∧ cOper P nt ops x.id x.pre o = some x) (hch : Chain call L e H e' H') (hmap : L.map (·.o) = os) (hstab : AM.stable call L [] L H' = true) : Stat P call ops nt L e H e' H' := by
  subst hmap
  simp only [drawOk, Bool.and_eq_true] at hok
  obtain ⟨⟨⟨⟨hcov, hnd⟩, hed⟩, hpre⟩, hpairs⟩ := hok
  rw [List.map_map] at hnd
  refine ⟨fun s hs => hmem s.o (List.mem_map.2 ⟨s, hs, rfl⟩), fun i hi => ?_, nodupN_pw (fun s : Step => s.o.id) hnd, fun L1 s L2 hL o ho ed hm hb => ?_, fun s hs o ho k hk => ?_, ?_, hch, fun A R hAR hR s hs => ?_⟩
  · simp only [List.all_eq_true, List.mem_range, List.any_eq_true, List.mem_map, decide_eq_true_eq] at hcov
    obtain ⟨x, ⟨s, hs, rfl⟩, hid⟩ := hcov i hi
    exact ⟨s, hs, hid⟩
  · rw [hL, List.map_append, List.map_cons] at hed
    rcases edgesOk_at hed o ho ed hm hb with h1 | ⟨y, hy, hid⟩
    · simp at h1
    · obtain ⟨x, hx, rfl⟩ := List.mem_map.1 hy
      exact ⟨x, hx, hid⟩
  · have := List.all_eq_true.1 hpre s.o (List.mem_map.2 ⟨s, hs, rfl⟩)
    rw [ho] at this
    have := List.all_eq_true.1 this k (hasNat_mem.1 hk)
    obtain ⟨ed, h1, h2⟩ := List.any_eq_true.1 this
    simp only [Bool.and_eq_true, Bool.or_eq_true, decide_eq_true_eq, List.any_eq_true] at h2
    refine ⟨ed, by simpa using h1, h2.1, ?_⟩
    rcases h2.2 with h3 | ⟨b, hb, h3, h4⟩
    · exact .inl h3
    · obtain ⟨x, hx, rfl⟩ := List.mem_map.1 hb
      exact .inr ⟨x, hx, h3, h4⟩
  · have := pairsOk_pw hpairs
    exact List.pairwise_map.1 this
  · have := stable_at (A := A) (over := []) (R := R) (by rw [← hAR]; exact hstab) hR s hs
    simpa using this
theorem stat_short (hst : Stat P call ops nt L e H e' H') : L.length ≤ ops.size := by
  have h1 : (L.map (·.o.id)).Nodup := List.pairwise_map.2 hst.nodup
  have h2 : ∀ i ∈ L.map (·.o.id), i ∈ List.range ops.size := fun i hi => by
    obtain ⟨s, hs, rfl⟩ := List.mem_map.1 hi
    obtain ⟨o, ho, _⟩ := hst.mem s hs
    exact List.mem_range.2 (Array.getElem?_eq_some_iff.1 ho).1
  have := List.Nodup.length_le_of_subset h1 h2
  simpa using this
theorem cDraw_mem {os : List AOper} (h : cDraw P nt ops = some os) : ∀ x ∈ os, ∃ o, ops[x.id]? = some o ∧ cOper P nt ops x.id x.pre o = some x := by
  unfold cDraw at h
  simp only at h
  split at h
  · simp only [Option.some.injEq] at h; subst h
    intro x hx
    obtain ⟨y, hy, hxy⟩ := List.mem_filterMap.1 hx
    obtain ⟨i, _, rfl⟩ := List.mem_map.1 hy
    simp only [id] at hxy
    obtain ⟨o, ho, hc⟩ := Option.bind_eq_some_iff.1 hxy
    have hid : x.id = i ∧ x.pre = ((befores ops.toList)[i]?).getD [] := by
      unfold cOper at hc
      split at hc
      · split at hc
        · split at hc
          · simp only [Option.some.injEq] at hc; subst hc; exact ⟨rfl, rfl⟩
          · split at hc
            · split at hc
              · simp only [Option.some.injEq] at hc; subst hc; exact ⟨rfl, rfl⟩
              · cases hc
            · cases hc
        · cases hc
      · cases hc
    refine ⟨o, by rw [hid.1]; exact ho, by rw [hid.1, hid.2]; exact hc⟩
  · cases h
theorem sim_draw (hS : SimCall P call) {ops : Array Oper} (hF : WideF F) (hmix : P.follows .mixedOrders = true) {Q : Exit → Act → World → Prop} {os : List AOper} {e' : Env} {id : Nat} (hok : drawOk ops os = true)
    (hmem : ∀ x ∈ os, ∃ o, ops[x.id]? = some o ∧ cOper P a.tmps.size ops x.id x.pre o = some x) (h : adraw call os e H = some (e', H'))
    (hr : Rel P base m H w) (he : EnvR m e a.tmps) (hq : ∀ m' a' w', Rel P base m' H' w' → Ext m H w m' H' w' → EnvR m' e' a'.tmps → a'.tmps.size = a.tmps.size → a'.defers = a.defers → Q .normal a' w') :
    (Code.region id ops true).wpIn F n P Q a w := by
  unfold adraw at h
  split at h
  · rename_i L e1 H1 hL
    split at h
    · rename_i hstab
      simp only [Option.some.injEq, Prod.mk.injEq] at h
      obtain ⟨rfl, rfl⟩ := h
      obtain ⟨hch, hmap⟩ := aopsT_chain hL
      have hst := stat_of hok hmem hch hmap hstab
      refine wpIn_region_any hmix ?_
      have hr1 : Rel P base m H { w with drawn := w.drawn + 1 } := hr.drew rfl
      obtain ⟨A, R, hi⟩ := Inv.start (a := a) hst hr1 he rfl
      refine draw_go (w0 := { w with drawn := w.drawn + 1 }) hS hF hst (a0 := a) (fun m' a' w' q1 q2 q3 q4 q5 => hq m' a' w' q1 ((Ext.drew (w := w) (w' := { w with drawn := w.drawn + 1 }) rfl).trans q2) q3 q4 q5) _ _ _ _ _ _ _ hi rfl ?_
      have h1 : undone (Array.replicate ops.size false) L ≤ L.length := List.countP_le_length
      have h2 : L.length ≤ ops.size := stat_short hst
      omega
    · cases h
  · cases h
end
end Go.AM
