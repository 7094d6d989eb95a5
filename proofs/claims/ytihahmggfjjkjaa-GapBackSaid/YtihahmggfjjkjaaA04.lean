/- If days are told the other way round all is the same of the same days -/
import Derived.Test.YtihahmggfjjkjaaA03
set_option linter.unusedVariables false
set_option linter.unusedSimpArgs false
namespace Go.Proofs.Ytihahmggfjjkjaa
open Go.AM Go.IntWalk Go.PL
set_option maxRecDepth 100000
set_option maxHeartbeats 4000000
set_option linter.unusedSimpArgs false
variable {H : AH} {R : AV → AH → Prop}
def offP (lo hi n : Int) : Bool := decide (n < lo) || decide (hi < n)
theorem out_run (lo hi : Int) (v : AV) (l : List Int) (hv : IsInts (Old H) H v l) (hl : l.length < 1000000) (k : R (.bool (l.any (offP lo hi))) H) : CallQ prog (.func 51 [] []) [I lo, I hi, v] H R := by
  refine CallQ_enter (fn:=c51) rfl (Nat.le_of_ble_eq_true rfl) ?_;simp(maxSteps:=9999999)(disch:=first|omega|(simp only[AN];omega))only[c51,envFrom,hv.len,↓KP,EN,↓reduceIte,reduceCtorEq,Nat.reduceEqDiff,Nat.reduceAdd,Nat.reduceLeDiff,Nat.reduceMul]
  refine K_loop (fun mz ez H1 => ∃ (i : Nat) (tail : Env), ez = (0, I lo) :: (1, I hi) :: (2, v) :: (6, .bool false) :: (9, v) :: (10, I l.length) :: (11, I i) :: tail ∧ (H1 = H) ∧ (i ≤ l.length) ∧ ((l.take i).any (offP lo hi) = false) ∧ mz = l.length - i) _ ⟨0, _, rfl, ?_, ?_, ?_, rfl⟩ ?_
  iterate 3 (focus (first|(with_reducible rfl)|omega|(with_reducible(repeat first|exact Grew.refl _|assumption|apply Grew.alloc|refine Grew.set ?_ _ (by first|omega|(simp only[AN];omega)));done)|(simp(maxSteps:=9999999)(disch:=first|omega|(simp only[AN];omega))only[↓KP,EN,↓reduceIte,reduceCtorEq,Nat.reduceEqDiff,Nat.reduceAdd,Nat.reduceLeDiff,Nat.reduceMul]<;>first|omega|rfl)|(simp;done)|rfl))
  rintro mz ez H1 ⟨i, tail, rfl, hH, hil, hno, hmz⟩; subst mz
  subst H1
  simp(maxSteps:=9999999)(disch:=first|omega|(simp only[AN];omega))only[↓KP,EN,↓reduceIte,reduceCtorEq,Nat.reduceEqDiff,Nat.reduceAdd,Nat.reduceLeDiff,Nat.reduceMul]
  refine C_decide (fun hc => ?_) (fun hc => ?_)
  · have hi' : i < l.length := by omega
    obtain ⟨p_b, p_i, p_ro, p_vs, p_lt, p⟩ := hv.rdInt rfl hi'
    have e1 : IntKind.i64.wrap ((i : Int) + 1) = ((i + 1 : Nat) : Int) := i64_in _ (by omega)
    have hyes : (l[i] < lo ∨ hi < l[i]) → (l.any (offP lo hi)) = true := fun h => by
      rw [List.any_eq_true]
      exact ⟨l[i], List.getElem_mem hi', by simpa [offP] using h⟩
    by_cases h1 : l[i] < lo
    · simp(maxSteps:=9999999)(disch:=first|omega|(simp only[AN];omega))only[p,h1,↓KP,EN,↓reduceIte,reduceCtorEq,Nat.reduceEqDiff,Nat.reduceAdd,Nat.reduceLeDiff,Nat.reduceMul]
      rw [hyes (.inl h1)] at k; exact k
    · by_cases h2 : hi < l[i]
      · simp(maxSteps:=9999999)(disch:=first|omega|(simp only[AN];omega))only[p,h1,h2,↓KP,EN,↓reduceIte,reduceCtorEq,Nat.reduceEqDiff,Nat.reduceAdd,Nat.reduceLeDiff,Nat.reduceMul]
        rw [hyes (.inr h2)] at k; exact k
      · simp(maxSteps:=9999999)(disch:=first|omega|(simp only[AN];omega))only[p,h1,h2,e1,↓KP,EN,↓reduceIte,reduceCtorEq,Nat.reduceEqDiff,Nat.reduceAdd,Nat.reduceLeDiff,Nat.reduceMul]
        refine ⟨_, ?_, i + 1, _, rfl, ?_, ?_, (by rw [any_take_succ hi', hno]; simp [offP, h1, h2]), rfl⟩ <;> (first|omega|(with_reducible assumption)|(with_reducible(repeat first|exact Grew.refl _|assumption|apply Grew.alloc|refine Grew.set ?_ _ (by first|omega|(simp only[AN];omega)));done)|(simp(maxSteps:=9999999)(disch:=first|omega|(simp only[AN];omega))only[↓KP,EN,↓reduceIte,reduceCtorEq,Nat.reduceEqDiff,Nat.reduceAdd,Nat.reduceLeDiff,Nat.reduceMul]<;>first|omega|rfl))
  · have hie : i = l.length := by omega
    subst hie
    rw [List.take_length] at hno
    rw [hno] at k
    simp(maxSteps:=9999999)(disch:=first|omega|(simp only[AN];omega))only[↓KP,EN,↓reduceIte,reduceCtorEq,Nat.reduceEqDiff,Nat.reduceAdd,Nat.reduceLeDiff,Nat.reduceMul]
    exact k
theorem one_slice (H : AH) (x : Int) : IsInts (Old (H.alloc (.cells false [I x]))) (H.alloc (.cells false [I x])) (.slice H.next 0 1 1) [x] :=
  .inr ⟨_, _, [I x], rfl, (by show H.next < H.next + 1; omega), by simp [AH.read, get_alloc_new, readN], Rows.single rfl rfl⟩
theorem two_slice (H : AH) (x y : Int) : IsInts (Old (H.alloc (.cells false [I x, I y]))) (H.alloc (.cells false [I x, I y])) (.slice H.next 0 2 1) [x, y] :=
  .inr ⟨_, _, [I x, I y], rfl, (by show H.next < H.next + 1; omega), by simp [AH.read, get_alloc_new, readN], Rows.cons (cs := [I x]) rfl rfl (Rows.single rfl rfl)⟩
theorem out1_run (lo hi x : Int) {b : Nat} (hb : b = H.next) (k : R (.bool (offP lo hi x)) (H.alloc (.cells false [I x]))) : CallQ prog (.func 51 [] []) [I lo, I hi, .slice b 0 1 1] (H.alloc (.cells false [I x])) R := by
  subst hb
  exact out_run lo hi _ [x] (one_slice H x) (by simp) (by simpa using k)
theorem out2_run (lo hi x y : Int) {b : Nat} (hb : b = H.next) (k : R (.bool (offP lo hi x || offP lo hi y)) (H.alloc (.cells false [I x, I y]))) : CallQ prog (.func 51 [] []) [I lo, I hi, .slice b 0 2 1] (H.alloc (.cells false [I x, I y])) R := by
  subst hb
  exact out_run lo hi _ [x, y] (two_slice H x y) (by simp) (by simpa using k)
theorem offP_false {lo hi n : Int} : offP lo hi n = false ↔ lo ≤ n ∧ n ≤ hi := by
  simp only [offP, Bool.or_eq_false_iff, decide_eq_false_iff_not]; omega
theorem offP_true {lo hi n : Int} : offP lo hi n = true ↔ ¬ (lo ≤ n ∧ n ≤ hi) := by
  rw [← offP_false]; cases offP lo hi n <;> simp
theorem shr_nat (b k : Nat) (hk : k < 64) : binA .shr (I b) (I k) = some (I (b / 2 ^ k : Nat)) := by
  have h1 : ¬ (k : Int) < 0 := by omega
  have h2 : min ((k : Int).toNat) IntKind.i64.bits = k := by simp only [IntKind.bits, Int.toNat_natCast]; omega
  show (if (k : Int) < 0 then none else some (I ((b : Int).fdiv (2 ^ (min ((k : Int).toNat) IntKind.i64.bits))))) = _
  rw [if_neg h1, h2]
  congr 2
  have : ((2 : Int) ^ k) = ((2 ^ k : Nat) : Int) := by simp
  rw [this, Int.fdiv_eq_ediv_of_nonneg _ (Int.natCast_nonneg _)]
  rfl
theorem and_one (x : Nat) (hx : x < 9223372036854775808) : binA .and (I x) (I 1) = some (I (x % 2 : Nat)) := by
  show (if IntKind.i64 = IntKind.i64 then some (I (IntKind.i64.wrap (BitVec.ofInt IntKind.i64.bits (x : Int) &&& BitVec.ofInt IntKind.i64.bits 1).toNat)) else none) = _
  rw [if_pos rfl]
  have h1 : (BitVec.ofInt IntKind.i64.bits (x : Int) &&& BitVec.ofInt IntKind.i64.bits 1).toNat = x % 2 := by
    have e : BitVec.ofInt 64 (x : Int) = BitVec.ofNat 64 x := BitVec.ofInt_natCast 64 x
    show (BitVec.ofInt 64 (x : Int) &&& BitVec.ofInt 64 1).toNat = x % 2
    rw [e, BitVec.toNat_and]
    have : (BitVec.ofInt 64 1).toNat = 1 := by decide
    rw [this, BitVec.toNat_ofNat, Nat.and_one_is_mod]
    omega
  rw [h1, i64_in _ (by omega)]
theorem bit_is (b d : Nat) : decide (((b / 2 ^ d % 2 : Nat) : Int) = 1) = b.testBit d := by
  rw [Nat.testBit_eq_decide_div_mod_eq, decide_eq_decide]; omega
theorem bit_not (b d : Nat) : decide (((b / 2 ^ d % 2 : Nat) : Int) = 0) = !b.testBit d := by
  rw [Nat.testBit_eq_decide_div_mod_eq]
  by_cases h : b / 2 ^ d % 2 = 1
  · rw [decide_eq_true h, decide_eq_false (by omega)]; rfl
  · rw [decide_eq_false h, decide_eq_true (by omega)]; rfl
abbrev serCells (vl vg vf : AV) (s : Series) : List AV := [vl, I s.lo, I s.hi, vg, .bool s.unseen, vf]
theorem checkG_run (bl bs : Nat) (vl vg vf : AV) (s : Series) (i : Nat) (b : Int) (e1 : H.get bl = some (.cells false [I s.len])) (e2 : H.get bs = some (.cells false (serCells vl vg vf s))) (l1 : bl < H.next) (l2 : bs < H.next) (hh : IsSer (Old H) H vl vg vf s) (hl : s.len ≤ 8)
    (k : ∀ H', Grew H H' → R (I (groupE s i b)) H') : CallQ prog (.func 53 [] [.ptr bl 0, .ptr bs 0]) [I i, I b] H R := by
  have hlen : (s.looked.length : Int) = s.len := rfl
  have hp : 2 ^ s.len ≤ 2 ^ 8 := Nat.pow_le_pow_right (by omega) hl
  have hp1 : 1 ≤ 2 ^ s.len := Nat.one_le_two_pow
  have w0 := shl_one (s.len : Int) (by omega)
  rw [Int.toNat_natCast] at w0
  have w1 : IntKind.i64.wrap (((2 ^ s.len : Nat) : Int) - 1) = ((2 ^ s.len : Nat) : Int) - 1 := by generalize 2 ^ s.len = q at *; exact i64_in _ (by omega)
  simp only [serCells] at e2
  refine CallQ_enter (fn:=c53) rfl (Nat.le_of_ble_eq_true rfl) ?_;simp(maxSteps:=9999999)(disch:=first|omega|(simp only[AN];omega))only[c53,envFrom,e1,w0,w1,↓KP,EN,↓reduceIte,reduceCtorEq,Nat.reduceEqDiff,Nat.reduceAdd,Nat.reduceLeDiff,Nat.reduceMul]
  first|refine C_call ?_|refine C_calld ?_
  refine out1_run _ _ _ rfl ?_
  cases hof : offP 1 (((2 ^ s.len : Nat) : Int) - 1) b with
  | true =>
    rw [groupE, if_pos (offP_true.1 hof)] at k
    simp(maxSteps:=9999999)(disch:=first|omega|(simp only[AN];omega))only[↓KP,EN,↓reduceIte,reduceCtorEq,Nat.reduceEqDiff,Nat.reduceAdd,Nat.reduceLeDiff,Nat.reduceMul]
    exact k _ GW
  | false =>
    have hb := offP_false.1 hof
    rw [groupE, if_neg (fun h => h hb)] at k
    obtain ⟨n, rfl⟩ : ∃ n : Nat, b = n := ⟨b.toNat, by omega⟩
    have hn : n < 256 := by generalize 2 ^ s.len = q at *; omega
    simp(maxSteps:=9999999)(disch:=first|omega|(simp only[AN];omega))only[e2,hh.l.len,↓KP,EN,↓reduceIte,reduceCtorEq,Nat.reduceEqDiff,Nat.reduceAdd,Nat.reduceLeDiff,Nat.reduceMul]
    refine K_loop (fun mz ez H1 => ∃ (d : Nat) (tail : Env), ez = (1, I n) :: (2, .ptr bl 0) :: (3, .ptr bs 0) :: (6, I 0) :: tail ∧ (tail.get 16 = some vl) ∧ (tail.get 17 = some (I s.looked.length)) ∧ (tail.get 18 = some (I d)) ∧ (Grew H H1) ∧ (d ≤ s.looked.length) ∧ ((List.range d).any (fun d => bitI (n : Int) d && !lk s d) = false) ∧ mz = s.looked.length - d) _ ⟨0, _, rfl, ?_, ?_, ?_, (by exact GW), ?_, ?_, rfl⟩ ?_
    iterate 5 (focus (first|(with_reducible rfl)|omega|(with_reducible(repeat first|exact Grew.refl _|assumption|apply Grew.alloc|refine Grew.set ?_ _ (by first|omega|(simp only[AN];omega)));done)|(simp(maxSteps:=9999999)(disch:=first|omega|(simp only[AN];omega))only[↓KP,EN,↓reduceIte,reduceCtorEq,Nat.reduceEqDiff,Nat.reduceAdd,Nat.reduceLeDiff,Nat.reduceMul]<;>first|omega|rfl)|(simp;done)|rfl))
    rintro mz ez H1 ⟨d, tail, rfl, f16, f17, f18, hG, hd, hno, hmz⟩; subst mz; have hGn := hG.next
    simp(maxSteps:=9999999)(disch:=first|omega|(simp only[AN];omega))only[f17,f18,↓KP,EN,↓reduceIte,reduceCtorEq,Nat.reduceEqDiff,Nat.reduceAdd,Nat.reduceLeDiff,Nat.reduceMul]
    refine C_decide (fun hc => ?_) (fun hc => ?_)
    · have hd' : d < s.looked.length := by omega
      obtain ⟨pb, pi, pro, pvs, plt, p⟩ := rdB hh.l (k := d) rfl hd'
      rw [lk_eq hd'] at p
      have e3 : IntKind.i64.wrap ((d : Int) + 1) = ((d + 1 : Nat) : Int) := i64_in _ (by omega)
      have s1 := shr_nat n d (by omega)
      have hdiv : n / 2 ^ d ≤ n := Nat.div_le_self _ _
      have s2 := and_one (n / 2 ^ d) (by omega)
      have hbt : n.testBit d = bitI (n : Int) d := by simp [bitI]
      have s3 := bit_is n d
      rw [hbt] at s3
      cases h1 : bitI (n : Int) d with
      | false =>
        rw [h1] at s3
        have s4 : ¬ ((n / 2 ^ d % 2 : Nat) : Int) = 1 := of_decide_eq_false s3
        simp(maxSteps:=9999999)(disch:=first|omega|(simp only[AN];omega))only[f16,f17,f18,hG.get,p,s1,s2,s4,e3,↓KP,EN,↓reduceIte,reduceCtorEq,Nat.reduceEqDiff,Nat.reduceAdd,Nat.reduceLeDiff,Nat.reduceMul]
        refine ⟨_, ?_, d + 1, _, rfl, ?_, ?_, ?_, ?_, ?_, (by rw [List.range_succ, List.any_append, hno]; simp [h1]), rfl⟩ <;> (first|omega|(with_reducible assumption)|(with_reducible(repeat first|exact Grew.refl _|assumption|apply Grew.alloc|refine Grew.set ?_ _ (by first|omega|(simp only[AN];omega)));done)|(simp(maxSteps:=9999999)(disch:=first|omega|(simp only[AN];omega))only[f16,f17,f18,↓KP,EN,↓reduceIte,reduceCtorEq,Nat.reduceEqDiff,Nat.reduceAdd,Nat.reduceLeDiff,Nat.reduceMul]<;>first|omega|rfl))
      | true =>
        rw [h1] at s3
        have s4 : ((n / 2 ^ d % 2 : Nat) : Int) = 1 := of_decide_eq_true s3
        cases h2 : lk s d with
        | true =>
          rw [h2] at p
          simp(maxSteps:=9999999)(disch:=first|omega|(simp only[AN];omega))only[f16,f17,f18,hG.get,p,s1,s2,eq_true s4,e3,↓KP,EN,↓reduceIte,reduceCtorEq,Nat.reduceEqDiff,Nat.reduceAdd,Nat.reduceLeDiff,Nat.reduceMul]
          refine ⟨_, ?_, d + 1, _, rfl, ?_, ?_, ?_, ?_, ?_, (by rw [List.range_succ, List.any_append, hno]; simp [h2]), rfl⟩ <;> (first|omega|(with_reducible assumption)|(with_reducible(repeat first|exact Grew.refl _|assumption|apply Grew.alloc|refine Grew.set ?_ _ (by first|omega|(simp only[AN];omega)));done)|(simp(maxSteps:=9999999)(disch:=first|omega|(simp only[AN];omega))only[f16,f17,f18,↓KP,EN,↓reduceIte,reduceCtorEq,Nat.reduceEqDiff,Nat.reduceAdd,Nat.reduceLeDiff,Nat.reduceMul]<;>first|omega|rfl))
        | false =>
          rw [h2] at p
          rw [if_pos (by rw [List.any_eq_true]; exact ⟨d, List.mem_range.2 hd', by simp [h1, h2]⟩)] at k
          simp(maxSteps:=9999999)(disch:=first|omega|(simp only[AN];omega))only[f16,f17,f18,hG.get,p,s1,s2,eq_true s4,e3,↓KP,EN,↓reduceIte,reduceCtorEq,Nat.reduceEqDiff,Nat.reduceAdd,Nat.reduceLeDiff,Nat.reduceMul]
          exact k _ hG
    · have hde : d = s.looked.length := by omega
      subst hde
      rw [show s.len = s.looked.length from rfl, hno] at k
      simp(maxSteps:=9999999)(disch:=first|omega|(simp only[AN];omega))only[↓KP,EN,↓reduceIte,reduceCtorEq,Nat.reduceEqDiff,Nat.reduceAdd,Nat.reduceLeDiff,Nat.reduceMul]
      exact k _ hG
end Go.Proofs.Ytihahmggfjjkjaa
namespace Go.Proofs.Ytihahmggfjjkjaa
open Go.AM Go.IntWalk Go.PL
set_option maxRecDepth 100000
set_option maxHeartbeats 4000000
set_option linter.unusedSimpArgs false
variable {H : AH} {R : AV → AH → Prop}
def failE {α : Type} (f : Nat → α → Int) (l : List α) (most : Nat) : Int × Int :=
  if most < l.length then (0, 3) else match firstErr f 0 l with
    | some (i, e) => ((i : Int), e)
    | none => (0, 0)
theorem failG_run (bl bs : Nat) (vl vg vf : AV) (s : Series) (e1 : H.get bl = some (.cells false [I s.len])) (e2 : H.get bs = some (.cells false (serCells vl vg vf s))) (l1 : bl < H.next) (l2 : bs < H.next) (hh : IsSer (Old H) H vl vg vf s) (hl : s.len ≤ 8)
    (k : ∀ H', Grew H H' → R (.tuple [I (failE (groupE s) s.groups 3).1, I (failE (groupE s) s.groups 3).2]) H') : CallQ prog (.func 52 [] []) [vg, I 3, .func 53 [] [.ptr bl 0, .ptr bs 0]] H R := by
  refine CallQ_enter (fn:=c52) rfl (Nat.le_of_ble_eq_true rfl) ?_;simp(maxSteps:=9999999)(disch:=first|omega|(simp only[AN];omega))only[c52,envFrom,hh.g.len,↓KP,EN,↓reduceIte,reduceCtorEq,Nat.reduceEqDiff,Nat.reduceAdd,Nat.reduceLeDiff,Nat.reduceMul]
  refine C_decide (fun hc => ?_) (fun hc => ?_)
  · simp(maxSteps:=9999999)(disch:=first|omega|(simp only[AN];omega))only[↓KP,EN,↓reduceIte,reduceCtorEq,Nat.reduceEqDiff,Nat.reduceAdd,Nat.reduceLeDiff,Nat.reduceMul]
    rw [failE, if_pos (by omega)] at k
    exact k _ (Grew.refl _)
  · have hw3 : s.groups.length ≤ 3 := by omega
    simp(maxSteps:=9999999)(disch:=first|omega|(simp only[AN];omega))only[hh.g.len,↓KP,EN,↓reduceIte,reduceCtorEq,Nat.reduceEqDiff,Nat.reduceAdd,Nat.reduceLeDiff,Nat.reduceMul]
    refine K_loop (fun mz ez H1 => ∃ (i : Nat) (tail : Env), ez = (0, vg) :: (1, I 3) :: (2, .func 53 [] [.ptr bl 0, .ptr bs 0]) :: (6, I 0) :: (7, I 0) :: tail ∧ (tail.get 15 = some vg) ∧ (tail.get 16 = some (I s.groups.length)) ∧ (tail.get 17 = some (I i)) ∧ (Grew H H1) ∧ (i ≤ s.groups.length) ∧ (∀ j (hj : j < s.groups.length), j < i → groupE s j s.groups[j] = 0) ∧ mz = s.groups.length - i) _ ⟨0, _, rfl, ?_, ?_, ?_, ?_, ?_, (by intro j hj h0; omega), rfl⟩ ?_
    iterate 5 (focus (first|(with_reducible rfl)|omega|(with_reducible(repeat first|exact Grew.refl _|assumption|apply Grew.alloc|refine Grew.set ?_ _ (by first|omega|(simp only[AN];omega)));done)|(simp(maxSteps:=9999999)(disch:=first|omega|(simp only[AN];omega))only[↓KP,EN,↓reduceIte,reduceCtorEq,Nat.reduceEqDiff,Nat.reduceAdd,Nat.reduceLeDiff,Nat.reduceMul]<;>first|omega|rfl)|(simp;done)|rfl))
    rintro mz ez H1 ⟨i, tail, rfl, f15, f16, f17, hG, hil, hno, hmz⟩; subst mz; have hGn := hG.next
    simp(maxSteps:=9999999)(disch:=first|omega|(simp only[AN];omega))only[f16,f17,↓KP,EN,↓reduceIte,reduceCtorEq,Nat.reduceEqDiff,Nat.reduceAdd,Nat.reduceLeDiff,Nat.reduceMul]
    refine C_decide (fun hc1 => ?_) (fun hc1 => ?_)
    · have hi' : i < s.groups.length := by omega
      obtain ⟨q_b, q_i, q_ro, q_vs, q_lt, q⟩ := hh.g.rdInt (k := i) rfl hi'
      have e3 : IntKind.i64.wrap ((i : Int) + 1) = ((i + 1 : Nat) : Int) := i64_in _ (by omega)
      simp(maxSteps:=9999999)(disch:=first|omega|(simp only[AN];omega))only[f15,f16,f17,hG.get,q,↓KP,EN,↓reduceIte,reduceCtorEq,Nat.reduceEqDiff,Nat.reduceAdd,Nat.reduceLeDiff,Nat.reduceMul]
      first|refine C_call ?_|refine C_calld ?_
      refine checkG_run bl bs vl vg vf s i s.groups[i] (by simp(maxSteps:=9999999)(disch:=first|omega|(simp only[AN];omega))only[hG.get,e1,↓KP,EN,↓reduceIte,reduceCtorEq,Nat.reduceEqDiff,Nat.reduceAdd,Nat.reduceLeDiff,Nat.reduceMul]) (by rw [hG.get _ l2]; exact e2) (by omega) (by omega) (hh.grow hG) hl fun H2 hg2 => ?_
      have hg2n:=hg2.next;try simp only[AN]at hg2n
      have hg2' : Grew H H2 := Grew.trans hG hg2
      simp(maxSteps:=9999999)(disch:=first|omega|(simp only[AN];omega))only[f15,f16,f17,↓KP,EN,↓reduceIte,reduceCtorEq,Nat.reduceEqDiff,Nat.reduceAdd,Nat.reduceLeDiff,Nat.reduceMul]
      refine C_ndecide (fun hz => ?_) (fun hz => ?_)
      rotate_left
      · simp(maxSteps:=9999999)(disch:=first|omega|(simp only[AN];omega))only[f15,f16,f17,e3,↓KP,EN,↓reduceIte,reduceCtorEq,Nat.reduceEqDiff,Nat.reduceAdd,Nat.reduceLeDiff,Nat.reduceMul]
        refine ⟨_, ?_, i + 1, _, rfl, ?_, ?_, ?_, ?_, ?_, (by intro j hj hjn; by_cases hji : j = i; (subst hji; exact hz); exact hno j hj (by omega)), rfl⟩ <;> (first|omega|(with_reducible assumption)|(with_reducible(repeat first|exact Grew.refl _|assumption|apply Grew.alloc|refine Grew.set ?_ _ (by first|omega|(simp only[AN];omega))|refine Grew.trans ?_ hg2|refine Grew.trans ?_ hG);done)|(simp(maxSteps:=9999999)(disch:=first|omega|(simp only[AN];omega))only[f15,f16,f17,hg2.get,hG.get,↓KP,EN,↓reduceIte,reduceCtorEq,Nat.reduceEqDiff,Nat.reduceAdd,Nat.reduceLeDiff,Nat.reduceMul]<;>first|omega|rfl))
      · simp(maxSteps:=9999999)(disch:=first|omega|(simp only[AN];omega))only[f15,f16,f17,↓KP,EN,↓reduceIte,reduceCtorEq,Nat.reduceEqDiff,Nat.reduceAdd,Nat.reduceLeDiff,Nat.reduceMul]
        have hz' : (groupE s) (0 + i) s.groups[i] ≠ 0 := by simpa using hz
        have hf := firstErr_some (f := groupE s) (l := s.groups) (i := 0) (k := i) hi' (fun j hj hjn => by simpa using hno j hj hjn) hz'
        rw [failE, if_neg (by omega), hf] at k
        simp only [Nat.zero_add] at k
        exact k _ hg2'
    · simp(maxSteps:=9999999)(disch:=first|omega|(simp only[AN];omega))only[↓KP,EN,↓reduceIte,reduceCtorEq,Nat.reduceEqDiff,Nat.reduceAdd,Nat.reduceLeDiff,Nat.reduceMul]
      have hf : firstErr (groupE s) 0 s.groups = none := firstErr_none fun j hj => by simpa using hno j hj (by omega)
      rw [failE, if_neg (by omega), hf] at k
      exact k _ hG
theorem idx_run (bx : Nat) (d : Int) (n : Int) (v : AV) (l : List (Int × Int)) (e1 : H.get bx = some (.cells false [I d, I n])) (hbx : bx < H.next) (hv : IsSl 2 EP (Old H) H v l) (hl : l.length < 1000000)
    (k : ∀ H' (n : Int), Grew H H' → (0 ≤ n ↔ (l.any fun x => decide (x.1 = d)) = true) → R (I n) H') : CallQ prog (.func 84 [] []) [v, .func 57 [] [.ptr bx 0]] H R := by
  refine CallQ_enter (fn:=c84) rfl (Nat.le_of_ble_eq_true rfl) ?_;simp(maxSteps:=9999999)(disch:=first|omega|(simp only[AN];omega))only[c84,envFrom,hv.len,↓KP,EN,↓reduceIte,reduceCtorEq,Nat.reduceEqDiff,Nat.reduceAdd,Nat.reduceLeDiff,Nat.reduceMul]
  refine K_loop (fun mz ez H1 => ∃ (i : Nat) (tail : Env), ez = (0, v) :: (1, .func 57 [] [.ptr bx 0]) :: (4, I 0) :: tail ∧ (tail.get 7 = some (I l.length)) ∧ (tail.get 8 = some (I i)) ∧ (Grew H H1) ∧ (i ≤ l.length) ∧ ((l.take i).any (fun x => decide (x.1 = d)) = false) ∧ mz = l.length - i) _ ⟨0, _, rfl, ?_, ?_, ?_, ?_, ?_, rfl⟩ ?_
  iterate 5 (focus (first|(with_reducible rfl)|omega|(with_reducible(repeat first|exact Grew.refl _|assumption|apply Grew.alloc|refine Grew.set ?_ _ (by first|omega|(simp only[AN];omega)));done)|(simp(maxSteps:=9999999)(disch:=first|omega|(simp only[AN];omega))only[↓KP,EN,↓reduceIte,reduceCtorEq,Nat.reduceEqDiff,Nat.reduceAdd,Nat.reduceLeDiff,Nat.reduceMul]<;>first|omega|rfl)|(simp;done)|rfl))
  rintro mz ez H1 ⟨i, tail, rfl, f7, f8, hG, hil, hno, hmz⟩; subst mz; have hGn := hG.next
  simp(maxSteps:=9999999)(disch:=first|omega|(simp only[AN];omega))only[f7,f8,↓KP,EN,↓reduceIte,reduceCtorEq,Nat.reduceEqDiff,Nat.reduceAdd,Nat.reduceLeDiff,Nat.reduceMul]
  refine C_decide (fun hc => ?_) (fun hc => ?_)
  · have hi' : i < l.length := by omega
    obtain ⟨pb, pi, pro, pvs, plt, q⟩ := rdP hv (k := i) rfl hi'
    have e3 : IntKind.i64.wrap ((i : Int) + 1) = ((i + 1 : Nat) : Int) := i64_in _ (by omega)
    have hget : l[i] ∈ l := List.getElem_mem hi'
    have hts := any_take_succ (p := fun x : Int × Int => decide (x.1 = d)) hi'
    generalize hX : l[i] = X at *
    simp(maxSteps:=9999999)(disch:=first|omega|(simp only[AN];omega))only[f7,f8,hG.get,q,↓KP,EN,↓reduceIte,reduceCtorEq,Nat.reduceEqDiff,Nat.reduceAdd,Nat.reduceLeDiff,Nat.reduceMul]
    refine C_call ?_
    by_cases hx : X.1 = d
    · have hany : (l.any fun x => decide (x.1 = d)) = true := by
        rw [List.any_eq_true]; exact ⟨X, hget, by simp [hx]⟩
      refine CallQ_enter (fn:=c57) rfl (Nat.le_of_ble_eq_true rfl) ?_;simp(maxSteps:=9999999)(disch:=first|omega|(simp only[AN];omega))only[c57,envFrom,hG.get,e1,eq_true hx,f7,f8,↓KP,EN,↓reduceIte,reduceCtorEq,Nat.reduceEqDiff,Nat.reduceAdd,Nat.reduceLeDiff,Nat.reduceMul]
      exact k _ _ GW ⟨fun _ => hany, fun _ => by omega⟩
    · have hx' : ¬ d = X.1 := fun e => hx e.symm
      refine CallQ_enter (fn:=c57) rfl (Nat.le_of_ble_eq_true rfl) ?_;simp(maxSteps:=9999999)(disch:=first|omega|(simp only[AN];omega))only[c57,envFrom,hG.get,e1,hx,f7,f8,e3,↓KP,EN,↓reduceIte,reduceCtorEq,Nat.reduceEqDiff,Nat.reduceAdd,Nat.reduceLeDiff,Nat.reduceMul]
      refine ⟨_, ?_, i + 1, _, rfl, ?_, ?_, ?_, ?_, (by rw [hts, hno]; simp [hx]), rfl⟩ <;> (first|omega|(with_reducible assumption)|(with_reducible(repeat first|exact Grew.refl _|assumption|apply Grew.alloc|refine Grew.set ?_ _ (by first|omega|(simp only[AN];omega))|refine Grew.trans ?_ hG);done)|(simp(maxSteps:=9999999)(disch:=first|omega|(simp only[AN];omega))only[f7,f8,hG.get,↓KP,EN,↓reduceIte,reduceCtorEq,Nat.reduceEqDiff,Nat.reduceAdd,Nat.reduceLeDiff,Nat.reduceMul]<;>first|omega|rfl))
  · have hie : i = l.length := by omega
    subst hie
    rw [List.take_length] at hno
    simp(maxSteps:=9999999)(disch:=first|omega|(simp only[AN];omega))only[↓KP,EN,↓reduceIte,reduceCtorEq,Nat.reduceEqDiff,Nat.reduceAdd,Nat.reduceLeDiff,Nat.reduceMul]
    exact k _ _ hG ⟨fun h => by omega, fun h => by rw [hno] at h; cases h⟩
theorem dup_run (bx : Nat) (d : Int) (n : Int) (v : AV) (l : List (Int × Int)) (e1 : H.get bx = some (.cells false [I d, I n])) (hbx : bx < H.next) (hv : IsSl 2 EP (Old H) H v l) (hl : l.length < 1000000)
    (k : ∀ H', Grew H H' → R (.bool (l.any fun x => decide (x.1 = d))) H') : CallQ prog (.func 56 [] []) [v, .func 57 [] [.ptr bx 0]] H R := by
  refine CallQ_enter (fn:=c56) rfl (Nat.le_of_ble_eq_true rfl) ?_;simp(maxSteps:=9999999)(disch:=first|omega|(simp only[AN];omega))only[c56,envFrom,↓KP,EN,↓reduceIte,reduceCtorEq,Nat.reduceEqDiff,Nat.reduceAdd,Nat.reduceLeDiff,Nat.reduceMul]
  refine C_call (idx_run bx d n v l e1 hbx hv hl fun H1 n hg hn => ?_)
  by_cases h0 : 0 ≤ n
  · simp(maxSteps:=9999999)(disch:=first|omega|(simp only[AN];omega))only[h0,↓KP,EN,↓reduceIte,reduceCtorEq,Nat.reduceEqDiff,Nat.reduceAdd,Nat.reduceLeDiff,Nat.reduceMul]
    rw [hn.1 h0] at k; exact k _ hg
  · simp(maxSteps:=9999999)(disch:=first|omega|(simp only[AN];omega))only[h0,↓KP,EN,↓reduceIte,reduceCtorEq,Nat.reduceEqDiff,Nat.reduceAdd,Nat.reduceLeDiff,Nat.reduceMul]
    rw [Bool.eq_false_iff.2 (fun h => h0 (hn.2 h))] at k; exact k _ hg
theorem checkF_run (bl bs : Nat) (vl vg vf : AV) (s : Series) (i : Nat) (hi : i < s.filled.length) (e1 : H.get bl = some (.cells false [I s.len])) (e2 : H.get bs = some (.cells false (serCells vl vg vf s))) (l1 : bl < H.next) (l2 : bs < H.next) (hh : IsSer (Old H) H vl vg vf s) (hl : s.len ≤ 8) (hf : s.filled.length ≤ 4)
    (k : ∀ H', Grew H H' → R (I (filledE s i s.filled[i])) H') : CallQ prog (.func 55 [] [.ptr bl 0, .ptr bs 0]) [I i, .agg [I s.filled[i].1, I s.filled[i].2]] H R := by
  have hlen : (s.looked.length : Int) = s.len := rfl
  have w1 : IntKind.i64.wrap ((s.len : Int) - 1) = (s.len : Int) - 1 := i64_in _ (by omega)
  obtain ⟨vt, t1, t2⟩ := hh.f.front (n := (i : Int)) (k := i) rfl (by omega)
  simp only [serCells] at e2
  generalize s.filled[i] = X at *
  refine CallQ_enter (fn:=c55) rfl (Nat.le_of_ble_eq_true rfl) ?_;simp(maxSteps:=9999999)(disch:=first|omega|(simp only[AN];omega))only[c55,envFrom,e1,w1,↓KP,EN,↓reduceIte,reduceCtorEq,Nat.reduceEqDiff,Nat.reduceAdd,Nat.reduceLeDiff,Nat.reduceMul]
  first|refine C_call ?_|refine C_calld ?_
  refine out1_run _ _ _ rfl ?_
  cases h1 : offP 0 ((s.len : Int) - 1) X.1 with
  | true =>
    rw [filledE, if_pos (offP_true.1 h1)] at k
    simp(maxSteps:=9999999)(disch:=first|omega|(simp only[AN];omega))only[↓KP,EN,↓reduceIte,reduceCtorEq,Nat.reduceEqDiff,Nat.reduceAdd,Nat.reduceLeDiff,Nat.reduceMul]
    exact k _ GW
  | false =>
    have hb := offP_false.1 h1
    obtain ⟨pb, pi, pro, pvs, plt, p⟩ := rdB hh.l (n := X.1) (k := X.1.toNat) (by omega) (by omega)
    rw [lk_eq (by omega)] at p
    rw [filledE, if_neg (fun h => h hb)] at k
    cases h2 : lk s X.1.toNat with
    | true =>
      rw [h2] at p
      rw [h2, if_pos rfl] at k
      simp(maxSteps:=9999999)(disch:=first|omega|(simp only[AN];omega))only[e2,p,↓KP,EN,↓reduceIte,reduceCtorEq,Nat.reduceEqDiff,Nat.reduceAdd,Nat.reduceLeDiff,Nat.reduceMul]
      exact k _ GW
    | false =>
      rw [h2] at p
      rw [h2, if_neg (by simp)] at k
      simp(maxSteps:=9999999)(disch:=first|omega|(simp only[AN];omega))only[e2,p,t1,↓KP,EN,↓reduceIte,reduceCtorEq,Nat.reduceEqDiff,Nat.reduceAdd,Nat.reduceLeDiff,Nat.reduceMul]
      first|refine C_call ?_|refine C_calld ?_
      refine dup_run H.next X.1 X.2 vt (s.filled.take i) (by simp(maxSteps:=9999999)(disch:=first|omega|(simp only[AN];omega))only[↓KP,EN,↓reduceIte,reduceCtorEq,Nat.reduceEqDiff,Nat.reduceAdd,Nat.reduceLeDiff,Nat.reduceMul]) (by simp(maxSteps:=9999999)(disch:=first|omega|(simp only[AN];omega))only[↓KP,EN,↓reduceIte,reduceCtorEq,Nat.reduceEqDiff,Nat.reduceAdd,Nat.reduceLeDiff,Nat.reduceMul]; omega) (t2.grow EP.stays GW) (by simp only [List.length_take]; omega) fun H1 hg1 => ?_
      have hg1n:=hg1.next;try simp only[AN]at hg1n
      cases h3 : (s.filled.take i).any (fun x => decide (x.1 = X.1)) with
      | true =>
        rw [h3, if_pos rfl] at k
        simp(maxSteps:=9999999)(disch:=first|omega|(simp only[AN];omega))only[↓KP,EN,↓reduceIte,reduceCtorEq,Nat.reduceEqDiff,Nat.reduceAdd,Nat.reduceLeDiff,Nat.reduceMul]
        exact k _ GW
      | false =>
        rw [h3, if_neg (by simp)] at k
        simp(maxSteps:=9999999)(disch:=first|omega|(simp only[AN];omega))only[hg1.get,↓KP,EN,↓reduceIte,reduceCtorEq,Nat.reduceEqDiff,Nat.reduceAdd,Nat.reduceLeDiff,Nat.reduceMul]
        first|refine C_call ?_|refine C_calld ?_
        refine out1_run _ _ _ rfl ?_
        cases h4 : offP 0 4 X.2 with
        | true =>
          rw [if_neg (offP_true.1 h4)] at k
          simp(maxSteps:=9999999)(disch:=first|omega|(simp only[AN];omega))only[↓KP,EN,↓reduceIte,reduceCtorEq,Nat.reduceEqDiff,Nat.reduceAdd,Nat.reduceLeDiff,Nat.reduceMul]
          exact k _ GW
        | false =>
          rw [if_pos (offP_false.1 h4)] at k
          simp(maxSteps:=9999999)(disch:=first|omega|(simp only[AN];omega))only[↓KP,EN,↓reduceIte,reduceCtorEq,Nat.reduceEqDiff,Nat.reduceAdd,Nat.reduceLeDiff,Nat.reduceMul]
          exact k _ GW
theorem failF_run (bl bs : Nat) (vl vg vf : AV) (s : Series) (e1 : H.get bl = some (.cells false [I s.len])) (e2 : H.get bs = some (.cells false (serCells vl vg vf s))) (l1 : bl < H.next) (l2 : bs < H.next) (hh : IsSer (Old H) H vl vg vf s) (hl : s.len ≤ 8)
    (k : ∀ H', Grew H H' → R (.tuple [I (failE (filledE s) s.filled 4).1, I (failE (filledE s) s.filled 4).2]) H') : CallQ prog (.func 54 [] []) [vf, I 4, .func 55 [] [.ptr bl 0, .ptr bs 0]] H R := by
  refine CallQ_enter (fn:=c54) rfl (Nat.le_of_ble_eq_true rfl) ?_;simp(maxSteps:=9999999)(disch:=first|omega|(simp only[AN];omega))only[c54,envFrom,hh.f.len,↓KP,EN,↓reduceIte,reduceCtorEq,Nat.reduceEqDiff,Nat.reduceAdd,Nat.reduceLeDiff,Nat.reduceMul]
  refine C_decide (fun hc => ?_) (fun hc => ?_)
  · simp(maxSteps:=9999999)(disch:=first|omega|(simp only[AN];omega))only[↓KP,EN,↓reduceIte,reduceCtorEq,Nat.reduceEqDiff,Nat.reduceAdd,Nat.reduceLeDiff,Nat.reduceMul]
    rw [failE, if_pos (by omega)] at k
    exact k _ (Grew.refl _)
  · have hw4 : s.filled.length ≤ 4 := by omega
    simp(maxSteps:=9999999)(disch:=first|omega|(simp only[AN];omega))only[hh.f.len,↓KP,EN,↓reduceIte,reduceCtorEq,Nat.reduceEqDiff,Nat.reduceAdd,Nat.reduceLeDiff,Nat.reduceMul]
    refine K_loop (fun mz ez H1 => ∃ (i : Nat) (tail : Env), ez = (0, vf) :: (1, I 4) :: (2, .func 55 [] [.ptr bl 0, .ptr bs 0]) :: (6, I 0) :: (7, I 0) :: tail ∧ (tail.get 15 = some vf) ∧ (tail.get 16 = some (I s.filled.length)) ∧ (tail.get 17 = some (I i)) ∧ (Grew H H1) ∧ (i ≤ s.filled.length) ∧ (∀ j (hj : j < s.filled.length), j < i → filledE s j s.filled[j] = 0) ∧ mz = s.filled.length - i) _ ⟨0, _, rfl, ?_, ?_, ?_, ?_, ?_, (by intro j hj h0; omega), rfl⟩ ?_
    iterate 5 (focus (first|(with_reducible rfl)|omega|(with_reducible(repeat first|exact Grew.refl _|assumption|apply Grew.alloc|refine Grew.set ?_ _ (by first|omega|(simp only[AN];omega)));done)|(simp(maxSteps:=9999999)(disch:=first|omega|(simp only[AN];omega))only[↓KP,EN,↓reduceIte,reduceCtorEq,Nat.reduceEqDiff,Nat.reduceAdd,Nat.reduceLeDiff,Nat.reduceMul]<;>first|omega|rfl)|(simp;done)|rfl))
    rintro mz ez H1 ⟨i, tail, rfl, f15, f16, f17, hG, hil, hno, hmz⟩; subst mz; have hGn := hG.next
    simp(maxSteps:=9999999)(disch:=first|omega|(simp only[AN];omega))only[f16,f17,↓KP,EN,↓reduceIte,reduceCtorEq,Nat.reduceEqDiff,Nat.reduceAdd,Nat.reduceLeDiff,Nat.reduceMul]
    refine C_decide (fun hc1 => ?_) (fun hc1 => ?_)
    · have hi' : i < s.filled.length := by omega
      obtain ⟨pb, pi, pro, pvs, plt, q⟩ := rdP hh.f (k := i) rfl hi'
      have e3 : IntKind.i64.wrap ((i : Int) + 1) = ((i + 1 : Nat) : Int) := i64_in _ (by omega)
      simp(maxSteps:=9999999)(disch:=first|omega|(simp only[AN];omega))only[f15,f16,f17,hG.get,q,↓KP,EN,↓reduceIte,reduceCtorEq,Nat.reduceEqDiff,Nat.reduceAdd,Nat.reduceLeDiff,Nat.reduceMul]
      first|refine C_call ?_|refine C_calld ?_
      refine checkF_run bl bs vl vg vf s i hi' (by simp(maxSteps:=9999999)(disch:=first|omega|(simp only[AN];omega))only[hG.get,e1,↓KP,EN,↓reduceIte,reduceCtorEq,Nat.reduceEqDiff,Nat.reduceAdd,Nat.reduceLeDiff,Nat.reduceMul]) (by rw [get_set_other (by omega), get_alloc_old (by omega), hG.get _ l2]; exact e2) (by simp(maxSteps:=9999999)(disch:=first|omega|(simp only[AN];omega))only[↓KP,EN,↓reduceIte,reduceCtorEq,Nat.reduceEqDiff,Nat.reduceAdd,Nat.reduceLeDiff,Nat.reduceMul]; omega) (by simp(maxSteps:=9999999)(disch:=first|omega|(simp only[AN];omega))only[↓KP,EN,↓reduceIte,reduceCtorEq,Nat.reduceEqDiff,Nat.reduceAdd,Nat.reduceLeDiff,Nat.reduceMul]; omega) (hh.grow GW) hl hw4 fun H2 hg2 => ?_
      have hg2n:=hg2.next;try simp only[AN]at hg2n
      have hg2' : Grew H H2 := GW
      simp(maxSteps:=9999999)(disch:=first|omega|(simp only[AN];omega))only[f15,f16,f17,↓KP,EN,↓reduceIte,reduceCtorEq,Nat.reduceEqDiff,Nat.reduceAdd,Nat.reduceLeDiff,Nat.reduceMul]
      refine C_ndecide (fun hz => ?_) (fun hz => ?_)
      rotate_left
      · simp(maxSteps:=9999999)(disch:=first|omega|(simp only[AN];omega))only[f15,f16,f17,e3,↓KP,EN,↓reduceIte,reduceCtorEq,Nat.reduceEqDiff,Nat.reduceAdd,Nat.reduceLeDiff,Nat.reduceMul]
        refine ⟨_, ?_, i + 1, _, rfl, ?_, ?_, ?_, (by exact hg2'), ?_, (by intro j hj hjn; by_cases hji : j = i; (subst hji; exact hz); exact hno j hj (by omega)), rfl⟩ <;> (first|omega|(with_reducible assumption)|(with_reducible(repeat first|exact Grew.refl _|assumption|apply Grew.alloc|refine Grew.set ?_ _ (by first|omega|(simp only[AN];omega)));done)|(simp(maxSteps:=9999999)(disch:=first|omega|(simp only[AN];omega))only[f15,f16,f17,↓KP,EN,↓reduceIte,reduceCtorEq,Nat.reduceEqDiff,Nat.reduceAdd,Nat.reduceLeDiff,Nat.reduceMul]<;>first|omega|rfl))
      · simp(maxSteps:=9999999)(disch:=first|omega|(simp only[AN];omega))only[f15,f16,f17,↓KP,EN,↓reduceIte,reduceCtorEq,Nat.reduceEqDiff,Nat.reduceAdd,Nat.reduceLeDiff,Nat.reduceMul]
        have hz' : (filledE s) (0 + i) s.filled[i] ≠ 0 := by simpa using hz
        have hf := firstErr_some (f := filledE s) (l := s.filled) (i := 0) (k := i) hi' (fun j hj hjn => by simpa using hno j hj hjn) hz'
        rw [failE, if_neg (by omega), hf] at k
        simp only [Nat.zero_add] at k
        exact k _ hg2'
    · simp(maxSteps:=9999999)(disch:=first|omega|(simp only[AN];omega))only[↓KP,EN,↓reduceIte,reduceCtorEq,Nat.reduceEqDiff,Nat.reduceAdd,Nat.reduceLeDiff,Nat.reduceMul]
      have hf : firstErr (filledE s) 0 s.filled = none := firstErr_none fun j hj => by simpa using hno j hj (by omega)
      rw [failE, if_neg (by omega), hf] at k
      exact k _ hG
theorem Check_run (vl vg vf : AV) (s : Series) (hh : IsSer (Old H) H vl vg vf s) (hs : Sized s) (k : ∀ H', Grew H H' → R (.tuple [I (checkE s).1, I (checkE s).2.1, I (checkE s).2.2]) H') : CallQ prog (.func 16 [] []) [serArg vl vg vf s] H R := by
  have hlen : (s.looked.length : Int) = s.len := rfl
  refine CallQ_enter (fn:=c16) rfl (Nat.le_of_ble_eq_true rfl) ?_;simp(maxSteps:=9999999)(disch:=first|omega|(simp only[AN];omega))only[c16,envFrom,hh.l.isCell,hh.g.isCell,hh.f.isCell,hh.l.len,↓KP,EN,↓reduceIte,reduceCtorEq,Nat.reduceEqDiff,Nat.reduceAdd,Nat.reduceLeDiff,Nat.reduceMul]
  first|refine C_call ?_|refine C_calld ?_
  refine out1_run _ _ _ rfl ?_
  cases h1 : offP 1 8 (s.looked.length : Int) with
  | true =>
    have hE : checkE s = (1, 0, 3) := by rw [checkE, if_pos (fun h => offP_true.1 h1 ⟨by omega, by omega⟩)]
    rw [hE] at k
    simp(maxSteps:=9999999)(disch:=first|omega|(simp only[AN];omega))only[↓KP,EN,↓reduceIte,reduceCtorEq,Nat.reduceEqDiff,Nat.reduceAdd,Nat.reduceLeDiff,Nat.reduceMul]
    exact k _ GW
  | false =>
    have hl := offP_false.1 h1
    have hE : checkE s = if lastE s ≠ 0 then (2, 0, lastE s) else checkG s := by rw [checkE, if_neg (fun h => h (by omega))]
    simp(maxSteps:=9999999)(disch:=first|omega|(simp only[AN];omega))only[↓KP,EN,↓reduceIte,reduceCtorEq,Nat.reduceEqDiff,Nat.reduceAdd,Nat.reduceLeDiff,Nat.reduceMul]
    first|refine C_call ?_|refine C_calld ?_
    refine out2_run _ _ _ _ rfl ?_
    cases h2 : (offP 1 8 s.lo || offP 1 8 s.hi) with
    | true =>
      have hL : lastE s = 7 := by
        have : endsE s.lo s.hi 1 8 = 7 := by
          simp only [Bool.or_eq_true, offP_true] at h2
          unfold endsE
          rw [if_neg (by omega)]
        rw [lastE, this]; rfl
      rw [hE, hL] at k
      simp(maxSteps:=9999999)(disch:=first|omega|(simp only[AN];omega))only[↓KP,EN,↓reduceIte,reduceCtorEq,Nat.reduceEqDiff,Nat.reduceAdd,Nat.reduceLeDiff,Nat.reduceMul]
      exact k _ GW
    | false =>
      have hb : (1 ≤ s.lo ∧ s.lo ≤ 8) ∧ 1 ≤ s.hi ∧ s.hi ≤ 8 := by
        simp only [Bool.or_eq_false_iff, offP_false] at h2
        exact h2
      have w1 : IntKind.i64.wrap (s.hi - s.lo) = s.hi - s.lo := i64_in _ (by omega)
      have hE2 : endsE s.lo s.hi 1 8 = if s.hi < s.lo then 2 else 0 := by
        unfold endsE
        rw [if_pos (by omega)]
      simp(maxSteps:=9999999)(disch:=first|omega|(simp only[AN];omega))only[w1,↓KP,EN,↓reduceIte,reduceCtorEq,Nat.reduceEqDiff,Nat.reduceAdd,Nat.reduceLeDiff,Nat.reduceMul]
      first|refine C_call ?_|refine C_calld ?_
      refine out1_run _ _ _ rfl ?_
      cases h3 : offP 0 2 (s.hi - s.lo) with
      | true =>
        have hL : lastE s = 2 := by
          have := offP_true.1 h3
          unfold lastE
          rw [hE2]
          by_cases h : s.hi < s.lo
          · rw [if_pos h]; rfl
          · rw [if_neg h, if_neg (by decide), if_pos (by omega)]
        rw [hE, hL] at k
        simp(maxSteps:=9999999)(disch:=first|omega|(simp only[AN];omega))only[↓KP,EN,↓reduceIte,reduceCtorEq,Nat.reduceEqDiff,Nat.reduceAdd,Nat.reduceLeDiff,Nat.reduceMul]
        exact k _ GW
      | false =>
        have hL : lastE s = 0 := by
          have := offP_false.1 h3
          unfold lastE
          rw [hE2, if_neg (show ¬ s.hi < s.lo by omega), if_neg (by decide), if_neg (by omega)]
        rw [hE, if_neg (by omega)] at k
        simp(maxSteps:=9999999)(disch:=first|omega|(simp only[AN];omega))only[↓KP,EN,↓reduceIte,reduceCtorEq,Nat.reduceEqDiff,Nat.reduceAdd,Nat.reduceLeDiff,Nat.reduceMul]
        first|refine C_call ?_|refine C_calld ?_
        refine failG_run (H.next + 1) H.next vl vg vf s (by simp(maxSteps:=9999999)(disch:=first|omega|(simp only[AN];omega))only[↓KP,EN,↓reduceIte,reduceCtorEq,Nat.reduceEqDiff,Nat.reduceAdd,Nat.reduceLeDiff,Nat.reduceMul]; rfl) (by simp(maxSteps:=9999999)(disch:=first|omega|(simp only[AN];omega))only[↓KP,EN,↓reduceIte,reduceCtorEq,Nat.reduceEqDiff,Nat.reduceAdd,Nat.reduceLeDiff,Nat.reduceMul]) (by simp(maxSteps:=9999999)(disch:=first|omega|(simp only[AN];omega))only[↓KP,EN,↓reduceIte,reduceCtorEq,Nat.reduceEqDiff,Nat.reduceAdd,Nat.reduceLeDiff,Nat.reduceMul]; omega) (by simp(maxSteps:=9999999)(disch:=first|omega|(simp only[AN];omega))only[↓KP,EN,↓reduceIte,reduceCtorEq,Nat.reduceEqDiff,Nat.reduceAdd,Nat.reduceLeDiff,Nat.reduceMul]; omega) (hh.grow GW) (by omega) fun H1 hg1 => ?_
        have hg1n:=hg1.next;try simp only[AN]at hg1n
        have hg1' : Grew H H1 := GW
        have b1 : H1.get H.next = some (.cells false (serCells vl vg vf s)) := by simp only [serCells]; simp(maxSteps:=9999999)(disch:=first|omega|(simp only[AN];omega))only[hg1.get,↓KP,EN,↓reduceIte,reduceCtorEq,Nat.reduceEqDiff,Nat.reduceAdd,Nat.reduceLeDiff,Nat.reduceMul]
        have b2 : H1.get (H.next + 1) = some (.cells false [I s.len]) := by simp(maxSteps:=9999999)(disch:=first|omega|(simp only[AN];omega))only[hg1.get,↓KP,EN,↓reduceIte,reduceCtorEq,Nat.reduceEqDiff,Nat.reduceAdd,Nat.reduceLeDiff,Nat.reduceMul]; rfl
        simp only [serCells] at b1
        by_cases hg : (failE (groupE s) s.groups 3).2 = 0
        · have hcg : checkG s = checkF s := by
            unfold failE at hg
            split at hg
            · cases hg
            · rename_i h
              split at hg
              · rename_i n e hf
                exact absurd hg (firstErr_ne hf)
              · rename_i hf
                rw [checkG, if_neg h, hf]
          rw [hcg] at k
          simp(maxSteps:=9999999)(disch:=first|omega|(simp only[AN];omega))only[hg,b1,↓KP,EN,↓reduceIte,reduceCtorEq,Nat.reduceEqDiff,Nat.reduceAdd,Nat.reduceLeDiff,Nat.reduceMul]
          first|refine C_call ?_|refine C_calld ?_
          refine failF_run (H.next + 1) H.next vl vg vf s b2 b1 (by omega) (by omega) (hh.grow hg1') (by omega) fun H2 hg2 => ?_
          have hg2n:=hg2.next;try simp only[AN]at hg2n
          by_cases hf : (failE (filledE s) s.filled 4).2 = 0
          · have hcf : checkF s = (0, 0, 0) := by
              unfold failE at hf
              split at hf
              · cases hf
              · rename_i h
                split at hf
                · rename_i n e hf'
                  exact absurd hf (firstErr_ne hf')
                · rename_i hf'
                  rw [checkF, if_neg h, hf']
            rw [hcf] at k
            simp(maxSteps:=9999999)(disch:=first|omega|(simp only[AN];omega))only[hf,↓KP,EN,↓reduceIte,reduceCtorEq,Nat.reduceEqDiff,Nat.reduceAdd,Nat.reduceLeDiff,Nat.reduceMul]
            exact k _ GW
          · have hcf : checkF s = (4, (failE (filledE s) s.filled 4).1, (failE (filledE s) s.filled 4).2) := by
              unfold failE at hf ⊢
              unfold checkF
              split
              · rfl
              · rename_i h
                rw [if_neg h] at hf
                split
                · rename_i n e hf'; rw [hf']
                · rename_i hf'
                  rw [hf'] at hf
                  exact absurd rfl hf
            rw [hcf] at k
            simp(maxSteps:=9999999)(disch:=first|omega|(simp only[AN];omega))only[hf,↓KP,EN,↓reduceIte,reduceCtorEq,Nat.reduceEqDiff,Nat.reduceAdd,Nat.reduceLeDiff,Nat.reduceMul]
            exact k _ GW
        · have hcg : checkG s = (3, (failE (groupE s) s.groups 3).1, (failE (groupE s) s.groups 3).2) := by
            unfold failE at hg ⊢
            unfold checkG
            split
            · rfl
            · rename_i h
              rw [if_neg h] at hg
              split
              · rename_i n e hf'; rw [hf']
              · rename_i hf'
                rw [hf'] at hg
                exact absurd rfl hg
          rw [hcg] at k
          simp(maxSteps:=9999999)(disch:=first|omega|(simp only[AN];omega))only[hg,↓KP,EN,↓reduceIte,reduceCtorEq,Nat.reduceEqDiff,Nat.reduceAdd,Nat.reduceLeDiff,Nat.reduceMul]
          exact k _ GW
end Go.Proofs.Ytihahmggfjjkjaa
namespace Go.AM
def Iter2 (prog : Nat → Option AFunc) (g : AV) (L : List (List AV)) (K : Nat → Prop) (Inv : AH → Prop) (J : Nat → AH → Prop) : Prop :=
  (∀ l H1 H2, Kept K l H1 H2 → J l H1 → J l H2) ∧ (∀ H o, Inv H → J H.next (H.alloc o)) ∧ (∀ H, Inv H → ∀ b, K b → b < H.next) ∧ ∀ (H : AH) (l : Nat) (Y : List (List AV) → AH → Prop) (S : AH → Prop) (R : AV → AH → Prop), (∀ b, K b → b < l) → l < H.next → J l H →
    (∀ done, On K (l + 1) (Y done)) → On K (l + 1) S →
    (∀ done a rest H1, L = done ++ a :: rest → l < H1.next → J l H1 → Y done H1 → CallQ prog (.yield l) a H1 fun v H2 => Kept K l H1 H2 ∧ ((v = .bool true ∧ Y (done ++ [a]) H2) ∨ (v = .bool false ∧ S H2))) →
    (∀ H2, H.next ≤ H2.next → J l H2 → (Y L H2 ∨ S H2) → R (.tuple []) H2) →
    Y [] H → CallQ prog g [.yield l] H R
section
variable {prog : Nat → Option AFunc} {e : Env} {H : AH} {ks : List Kont} {Q : AExit → Env → AH → Prop}
theorem K_iter2 {f : AOpd} {ps : List Nat} {as bd : ACode} {g : Nat} {fs cs : List AV} {L : List (List AV)} {K : Nat → Prop} {Inv : AH → Prop} {J : Nat → AH → Prop} (hf : f.val e = some (.func g fs cs)) (hI : Iter2 prog (.func g fs cs) L K Inv J) (hi : Inv H) (hps : ∀ a ∈ L, a.length = ps.length)
    (Y : List (List AV) → AH → Prop) (S : AExit → AH → Prop) (hY : ∀ done, On K H.next (Y done)) (hS : ∀ x, On K H.next (S x)) (h0 : Y [] H)
    (step : ∀ done a rest H1, L = done ++ a :: rest → H.next < H1.next → J H.next H1 → Y done H1 → H1.get H.next = some (.loop { state := .ready, pending := .normal, env := e, params := ps, assign := as, body := bd }) →
      WpK prog as (bindAll e ps a) H1 [] (AsgQ prog H.next bd (BodQ fun x H3 => H3.get H.next = some (.loop { state := .busy, pending := .normal, env := e, params := ps, assign := as, body := bd }) ∧ Kept K H.next H1 H3 ∧ match x with
        | .normal => Y (done ++ [a]) H3
        | x => S x H3)))
    (fin : ∀ H2, H.next < H2.next → J H.next H2 → Y L H2 → EndK prog .normal e H2 ks Q)
    (stop : ∀ x H2, x ≠ .normal → H.next < H2.next → J H.next H2 → S x H2 → EndK prog x e H2 ks Q) : WpK prog (.range f ps as bd) e H ks Q := by
  obtain ⟨hB, hA, hN, hI⟩ := hI
  have hNH := hN H hi
  let L0 : ALoop := { state := .ready, pending := .normal, env := e, params := ps, assign := as, body := bd }
  have old : ∀ {H1 : AH} {o : AObj} {b : Nat}, b < H.next → (H1.set H.next o).get b = H1.get b := fun hb => get_set_other (by omega)
  have st : ∀ {P : AH → Prop}, On K H.next P → ∀ (H3 : AH) (o : AObj), P H3 → P (H3.set H.next o) := fun hP H3 o h => hP H3 (H3.set H.next o) (Nat.le_refl _) (fun b _ hb => old hb) h
  have sb : ∀ (H3 : AH) (o : AObj), J H.next H3 → J H.next (H3.set H.next o) := fun H3 o h => hB _ H3 (H3.set H.next o) ⟨Nat.le_refl _, fun b _ hb => get_set_other (by rcases hb with q | q; have := hNH b q; omega; omega)⟩ h
  refine K_range hf (hI (H.alloc (.loop L0)) H.next (fun done H' => Y done H' ∧ H'.get H.next = some (.loop L0)) (fun H' => ∃ x, x ≠ .normal ∧ S x H' ∧ H'.get H.next = some (.loop { L0 with state := .done, pending := x })) _ hNH (by simp) (hA H _ hi) ?_ ?_ ?_ ?_ ?_)
  · rintro done H1 H2 hn hs ⟨h1, h2⟩
    exact ⟨hY done H1 H2 hn (fun b h3 h4 => hs b h3 (by omega)) h1, by rw [hs _ (fun hk => by have := hNH _ hk; omega) (by omega)]; exact h2⟩
  · rintro H1 H2 hn hs ⟨x, hx, h1, h2⟩
    exact ⟨x, hx, hS x H1 H2 hn (fun b h3 h4 => hs b h3 (by omega)) h1, by rw [hs _ (fun hk => by have := hNH _ hk; omega) (by omega)]; exact h2⟩
  · rintro done a rest H1 hL hl hi1 ⟨hy, hlo⟩
    have ha := hps a (by rw [hL]; simp)
    have hst := step done a rest H1 hL hl hi1 hy hlo
    refine CallQ_yield hlo (by simpa using ha) (hst.mono fun x e1 H2 hx => ?_)
    have hx : AsgQ prog H.next bd _ x e1 H2 := hx
    cases x with
    | exit i => exact hx.elim
    | ret => exact hx.elim
    | normal =>
      obtain ⟨L1, q1, q2, q3⟩ := hx
      refine ⟨rfl, L1, q1, q2, Wp.mono q3 fun y e3 H3 hy3 => ?_⟩
      obtain ⟨r1, r2, r3⟩ : H3.get H.next = _ ∧ Kept K H.next H1 H3 ∧ _ := hy3
      refine ⟨_, r1, ?_⟩
      have hk : ∀ o, Kept K H.next H1 (H3.set H.next o) := fun o => ⟨r2.1, fun b hb hc => by rw [get_set_other (by rcases hc with h | h; have := hNH b h; omega; omega)]; exact r2.2 b hb hc⟩
      cases y with
      | normal => exact ⟨hk _, .inl ⟨rfl, st (hY _) _ _ r3, get_set_same _ _ _⟩⟩
      | exit i => exact ⟨hk _, .inr ⟨rfl, .exit i, by simp, st (hS _) _ _ r3, get_set_same _ _ _⟩⟩
      | ret => exact ⟨hk _, .inr ⟨rfl, .ret, by simp, st (hS _) _ _ r3, get_set_same _ _ _⟩⟩
  · intro H2 hn hi2 hor
    simp only [AH.next_alloc] at hn
    rcases hor with ⟨hy, hlo⟩ | ⟨x, hx, hs, hlo⟩
    · exact ⟨L0, hlo, by simp [L0], fin _ (by simp; omega) (sb _ _ hi2) (st (hY _) _ _ hy)⟩
    · exact ⟨_, hlo, by simp, stop x _ hx (by simp; omega) (sb _ _ hi2) (st (hS _) _ _ hs)⟩
  · exact ⟨hY _ _ _ (by simp) (fun b _ hb => get_alloc_old hb) h0, get_alloc_new _ _⟩
end
end Go.AM
namespace Go.Proofs.Ytihahmggfjjkjaa
open Go.AM Go.IntWalk Go.PL
set_option maxRecDepth 100000
set_option maxHeartbeats 4000000
set_option linter.unusedSimpArgs false
variable {H : AH} {R : AV → AH → Prop}
def CacheIn (s : Series) (F : Nat → Prop) (H : AH) (es : List (AV × AV)) : Prop := ∀ kv ∈ es, ∃ bits : Nat, kv.1 = I bits ∧ IsSl 2 EP F H kv.2 (staysE s bits)
theorem eq1 (a b : Int) : eqFlatA false [.i] (I a) (I b) = some (a == b) := by simp [eqFlatA, eqCells]
theorem CacheIn.move {s : Series} {F F' : Nat → Prop} {H H' : AH} {es : List (AV × AV)} (hk : Keeps F F' H H') (h : CacheIn s F H es) : CacheIn s F' H' es := fun kv hkv => by
  obtain ⟨b, h1, h2⟩ := h kv hkv
  exact ⟨b, h1, h2.move EP.stays hk⟩
theorem CacheIn.find {s : Series} {F : Nat → Prop} {H : AH} (bits : Nat) : ∀ {es : List (AV × AV)}, CacheIn s F H es → findA false [.i] (I bits) es = some none ∨ ∃ v, findA false [.i] (I bits) es = some (some v) ∧ IsSl 2 EP F H v (staysE s bits)
  | [], _ => .inl rfl
  | (k, v) :: es, hc => by
    obtain ⟨b, hk, hv⟩ := hc (k, v) (by simp)
    simp only at hk hv
    subst hk
    simp only [findA, eq1]
    cases he : ((bits : Int) == (b : Int)) with
    | true =>
      have : bits = b := by have := eq_of_beq he; omega
      subst this
      exact .inr ⟨v, rfl, hv⟩
    | false => exact CacheIn.find bits fun kv hkv => hc kv (by simp [hkv])
theorem CacheIn.put {s : Series} {F : Nat → Prop} {H : AH} (bits : Nat) {v : AV} (hv : IsSl 2 EP F H v (staysE s bits)) : ∀ {es : List (AV × AV)}, CacheIn s F H es → ∃ es', putA false [.i] (I bits) v es = some es' ∧ CacheIn s F H es'
  | [], _ => ⟨_, rfl, fun kv hkv => by simp only [List.mem_singleton] at hkv; subst hkv; exact ⟨bits, rfl, hv⟩⟩
  | (k, v') :: es, hc => by
    obtain ⟨b, hk, hv'⟩ := hc (k, v') (by simp)
    simp only at hk hv'
    subst hk
    simp only [putA, eq1]
    cases he : ((bits : Int) == (b : Int)) with
    | true =>
      refine ⟨_, rfl, fun kv hkv => ?_⟩
      rcases List.mem_cons.1 hkv with rfl | hkv
      · exact ⟨bits, rfl, hv⟩
      · exact hc kv (by simp [hkv])
    | false =>
      obtain ⟨es', h1, h2⟩ := CacheIn.put bits hv (es := es) fun kv hkv => hc kv (by simp [hkv])
      refine ⟨(I b, v') :: es', by simp only [h1, Option.map_some], fun kv hkv => ?_⟩
      rcases List.mem_cons.1 hkv with rfl | hkv
      · exact ⟨b, rfl, hv'⟩
      · exact h2 kv hkv
structure GrewBut (m : Nat) (H H' : AH) : Prop where
  next : H.next ≤ H'.next
  get : ∀ b, b < H.next → b ≠ m → H'.get b = H.get b
theorem GrewBut.refl {m : Nat} (H : AH) : GrewBut m H H := ⟨Nat.le_refl _, fun _ _ _ => rfl⟩
theorem GrewBut.trans {m : Nat} {H H' H'' : AH} (h : GrewBut m H H') (h' : GrewBut m H' H'') : GrewBut m H H'' := ⟨Nat.le_trans h.next h'.next, fun b hb hm => (h'.get b (Nat.lt_of_lt_of_le hb h.next) hm).trans (h.get b hb hm)⟩
theorem Grew.but {m : Nat} {H H' : AH} (h : Grew H H') : GrewBut m H H' := ⟨h.next, fun b hb _ => h.get b hb⟩
abbrev Fb (N m : Nat) (G : Nat → Prop) (H : AH) : Nat → Prop := fun b => b < H.next ∧ b ≠ m ∧ (b < N ∨ G b)
structure Rdy (N p m : Nat) (G : Nat → Prop) (vl vg vf : AV) (s : Series) (but : Nat) (H : AH) : Prop where
  box : H.get p = some (.cells false [vl, I s.lo, I s.hi, vg, .bool s.unseen, vf, I but, .map m])
  hs : IsSer (fun b => b < N ∧ b ≠ m) H vl vg vf s
  plt : p < N
  mlt : m < N
  pm : p ≠ m
  nle : N ≤ H.next
  cache : ∃ es, H.get m = some (.map es) ∧ CacheIn s (Fb N m G H) H es
theorem Rdy.keep {N p m : Nat} {G : Nat → Prop} {vl vg vf : AV} {s : Series} {but : Nat} {H1 H2 : AH} (hr : Rdy N p m G vl vg vf s but H1) (hn : H1.next ≤ H2.next) (hs : ∀ b, b < H1.next → (b < N ∨ G b) → H2.get b = H1.get b) : Rdy N p m G vl vg vf s but H2 := by
  obtain ⟨a1, a2, a3, a4, a5, a6, es, b1, b2⟩ := hr
  exact ⟨by rw [hs _ (by omega) (.inl a3)]; exact a1, a2.move fun b hb => ⟨hb, hs _ (by omega) (.inl hb.1)⟩, a3, a4, a5, by omega, es, by rw [hs _ (by omega) (.inl a4)]; exact b1, b2.move fun b hb => ⟨⟨by omega, hb.2⟩, hs _ hb.1 hb.2.2⟩⟩
theorem Rdy.up {N p m : Nat} {G : Nat → Prop} {vl vg vf : AV} {s : Series} {but : Nat} {H1 H2 : AH} (hr : Rdy N p m G vl vg vf s but H1) (hg : Grew H1 H2) : Rdy N p m G vl vg vf s but H2 := hr.keep hg.next fun b hb _ => hg.get b hb
theorem Rdy.old {N p m : Nat} {G : Nat → Prop} {vl vg vf : AV} {s : Series} {but : Nat} {H : AH} (hr : Rdy N p m G vl vg vf s but H) : IsSer (Old H) H vl vg vf s := hr.hs.move fun b hb => ⟨by have := hr.nle; show b < H.next; omega, rfl⟩
theorem Rdy.put {N p m : Nat} {G : Nat → Prop} {vl vg vf : AV} {s : Series} {but : Nat} {H : AH} (hr : Rdy N p m G vl vg vf s but H) {es : List (AV × AV)} (hc : CacheIn s (Fb N m G H) H es) : Rdy N p m G vl vg vf s but (H.set m (.map es)) := by
  obtain ⟨a1, a2, a3, a4, a5, a6, _⟩ := hr
  exact ⟨by rw [get_set_other a5]; exact a1, a2.move fun b hb => ⟨hb, get_set_other hb.2⟩, a3, a4, a5, a6, es, get_set_same _ _ _, hc.move fun b hb => ⟨hb, get_set_other hb.2.1⟩⟩
theorem staysRow_skip {s : Series} {bits : Int} {lo m : Nat} : ∀ {m' : Nat}, m ≤ m' → (∀ j : Nat, m ≤ j → j < m' → fits s bits lo j = false) → staysRow s bits lo m' = staysRow s bits lo m
  | 0, h, _ => by rw [show m = 0 from by omega]
  | m' + 1, h, hj => by
    by_cases e : m = m' + 1
    · rw [e]
    · rw [staysRow_succ, if_neg (by rw [hj m' (by omega) (by omega)]; simp), List.append_nil]
      exact staysRow_skip (by omega) fun j h1 h2 => hj j h1 (by omega)
theorem fits_short {s : Series} {bits : Int} {lo hi : Nat} (h : (hi : Int) - lo + 1 < s.lo ∨ s.hi < (hi : Int) - lo + 1) : fits s bits lo hi = false := by
  unfold fits
  have : (decide (s.lo ≤ (hi : Int) - lo + 1) && decide ((hi : Int) - lo + 1 ≤ s.hi)) = false := by
    simp only [Bool.and_eq_false_iff, decide_eq_false_iff_not]; omega
  rw [this]; rfl
theorem fits_mid {s : Series} {bits : Int} {lo hi : Nat} (h : s.lo ≤ (hi : Int) - lo + 1 ∧ (hi : Int) - lo + 1 ≤ s.hi) : fits s bits lo hi = (List.range s.len).all (fitDay s bits lo hi) := by
  unfold fits
  rw [decide_eq_true h.1, decide_eq_true h.2]; rfl
theorem fitDay_off {s : Series} {bits lo hi d : Nat} (hlk : lk s d = true) : fitDay s bits lo hi d = !(bits.testBit d == offP lo hi d) := by
  have h1 : offP lo hi d = !(decide (lo ≤ d) && decide (d ≤ hi)) := by
    by_cases a : lo ≤ d
    · by_cases b : d ≤ hi
      · rw [offP_false.2 ⟨by omega, by omega⟩, decide_eq_true a, decide_eq_true b]; rfl
      · rw [offP_true.2 (by omega), decide_eq_false b, Bool.and_false]; rfl
    · rw [offP_true.2 (by omega), decide_eq_false a, Bool.false_and]; rfl
  have h2 : bitI (bits : Int) d = bits.testBit d := by simp [bitI]
  rw [fitDay, hlk, h1, h2]
  cases (decide (lo ≤ d) && decide (d ≤ hi)) <;> cases bits.testBit d <;> rfl
theorem can_run {N p m : Nat} {G : Nat → Prop} {vl vg vf : AV} {s : Series} {but : Nat} (bits : Nat) (hb : bits < 256) (hf : Fine s) (hr : Rdy N p m G vl vg vf s but H) (hl : ∀ b, H.next ≤ b → G b)
    (k : ∀ H' v, GrewBut m H H' → Rdy N p m G vl vg vf s but H' → IsSl 2 EP (Fb N m G H') H' v (staysE s bits) → R v H') : CallQ prog (.func 89 [] []) [.ptr p 0, I bits] H R := by
  obtain ⟨es, hm, hc⟩ := hr.cache
  have hpl := hr.plt
  have hml := hr.mlt
  have hnl := hr.nle
  have hbox := hr.box
  have hold := hr.old
  have hl8 := hf.len.2
  have hlast := hf.last
  have hlen : (s.looked.length : Int) = s.len := rfl
  rcases hc.find bits with hfi | ⟨v, hfi, hv⟩
  · refine CallQ_enter (fn:=c89) rfl (Nat.le_of_ble_eq_true rfl) ?_;simp(maxSteps:=9999999)(disch:=first|omega|(simp only[AN];omega))only[c89,envFrom,hbox,opLookup,eq1,beq_self_eq_true,hm,hfi,hold.l.len,↓KP,EN,↓reduceIte,reduceCtorEq,Nat.reduceEqDiff,Nat.reduceAdd,Nat.reduceLeDiff,Nat.reduceMul]
    refine K_loop (fun mz ez H1 => ∃ (d : Nat) (v7 : AV) (tail : Env), ez = (0, .ptr p 0) :: (1, I bits) :: (4, .nilslice) :: tail ∧ (tail.get 7 = some v7) ∧ (tail.get 8 = some (I s.looked.length)) ∧ (tail.get 30 = some (I s.looked.length)) ∧ (tail.get 31 = some (I d)) ∧ (Grew H H1) ∧ (Mine 2 EP (fun _ => False) H.next H1 v7 (staysTo s bits d)) ∧ (d ≤ s.len) ∧ mz = s.len - d) _ ⟨0, .nilslice, _, rfl, ?_, ?_, ?_, ?_, ?_, (by exact Mine.nil), ?_, rfl⟩ ?_
    iterate 6 (focus (first|(with_reducible rfl)|omega|(with_reducible(repeat first|exact Grew.refl _|assumption|apply Grew.alloc|refine Grew.set ?_ _ (by first|omega|(simp only[AN];omega)));done)|(simp(maxSteps:=9999999)(disch:=first|omega|(simp only[AN];omega))only[↓KP,EN,↓reduceIte,reduceCtorEq,Nat.reduceEqDiff,Nat.reduceAdd,Nat.reduceLeDiff,Nat.reduceMul]<;>first|omega|rfl)|(simp;done)|rfl))
    rintro mz ez H1 ⟨d, v7, tail, rfl, f7, f8, f30, f31, hG, hm7, hd, hmz⟩; subst mz; have hGn := hG.next
    simp(maxSteps:=9999999)(disch:=first|omega|(simp only[AN];omega))only[f30,f31,↓KP,EN,↓reduceIte,reduceCtorEq,Nat.reduceEqDiff,Nat.reduceAdd,Nat.reduceLeDiff,Nat.reduceMul]
    refine C_decide (fun hc1 => ?_) (fun hc1 => ?_)
    · have hd' : d < s.len := by omega
      have htl := staysTo_length (s := s) (bits := bits) d
      have htm : d * s.len ≤ 8 * 8 := Nat.mul_le_mul (by omega) hl8
      have w1 : IntKind.i64.wrap ((d : Int) + s.lo) = d + s.lo := i64_in _ (by omega)
      have w2 : IntKind.i64.wrap ((d : Int) + s.lo - 1) = ((d + (s.lo - 1).toNat : Nat) : Int) := by rw [i64_in _ (by omega)]; omega
      have w3 : IntKind.i64.wrap ((d : Int) + s.hi) = d + s.hi := i64_in _ (by omega)
      have hsk0 : staysRow s bits d (d + (s.lo - 1).toNat) = [] := by
        rw [staysRow_skip (m := 0) (by omega) fun j _ h2 => fits_short (.inl (by omega))]; rfl
      simp(maxSteps:=9999999)(disch:=first|omega|(simp only[AN];omega))only[f7,f8,f30,f31,hG.get,hbox,w1,w2,↓KP,EN,↓reduceIte,reduceCtorEq,Nat.reduceEqDiff,Nat.reduceAdd,Nat.reduceLeDiff,Nat.reduceMul]
      refine K_loop (fun mz ez H2 => ∃ (hi : Nat) (v7' : AV) (tail : Env), ez = (0, .ptr p 0) :: (1, I bits) :: (4, .nilslice) :: tail ∧ (tail.get 7 = some v7') ∧ (tail.get 8 = some (I s.looked.length)) ∧ (tail.get 9 = some (I d)) ∧ (tail.get 10 = some (I hi)) ∧ (tail.get 30 = some (I s.looked.length)) ∧ (tail.get 31 = some (I d)) ∧ (Grew H H2) ∧ (Mine 2 EP (fun _ => False) H.next H2 v7' (staysTo s bits d ++ staysRow s bits d hi)) ∧ (d + (s.lo - 1).toNat ≤ hi) ∧ ((hi : Int) ≤ d + s.hi) ∧ (hi ≤ s.len ∨ hi = d + (s.lo - 1).toNat) ∧ mz = 16 - hi) _ ⟨d + (s.lo - 1).toNat, v7, _, rfl, ?_, (by simp(maxSteps:=9999999)(disch:=first|omega|(simp only[AN];omega))only[f8,↓KP,EN,↓reduceIte,reduceCtorEq,Nat.reduceEqDiff,Nat.reduceAdd,Nat.reduceLeDiff,Nat.reduceMul]), ?_, ?_, (by simp(maxSteps:=9999999)(disch:=first|omega|(simp only[AN];omega))only[f30,↓KP,EN,↓reduceIte,reduceCtorEq,Nat.reduceEqDiff,Nat.reduceAdd,Nat.reduceLeDiff,Nat.reduceMul]), (by simp(maxSteps:=9999999)(disch:=first|omega|(simp only[AN];omega))only[f31,↓KP,EN,↓reduceIte,reduceCtorEq,Nat.reduceEqDiff,Nat.reduceAdd,Nat.reduceLeDiff,Nat.reduceMul]), ?_, (by rw [hsk0, List.append_nil]; exact hm7), ?_, ?_, (by exact .inr rfl), rfl⟩ ?_
      iterate 6 (focus (first|(with_reducible rfl)|omega|(with_reducible(repeat first|exact Grew.refl _|assumption|apply Grew.alloc|refine Grew.set ?_ _ (by first|omega|(simp only[AN];omega)));done)|(simp(maxSteps:=9999999)(disch:=first|omega|(simp only[AN];omega))only[↓KP,EN,↓reduceIte,reduceCtorEq,Nat.reduceEqDiff,Nat.reduceAdd,Nat.reduceLeDiff,Nat.reduceMul]<;>first|omega|rfl)|(simp;done)|rfl))
      rintro mz ez H2 ⟨hi, v7', tail, rfl, g7, g8, g9, g10, g30, g31, hG2, hm7', hlo, hhi, hmx, hmz⟩; subst mz; have hG2n := hG2.next
      simp(maxSteps:=9999999)(disch:=first|omega|(simp only[AN];omega))only[g8,g9,g10,hG2.get,hbox,w3,↓KP,EN,↓reduceIte,reduceCtorEq,Nat.reduceEqDiff,Nat.reduceAdd,Nat.reduceLeDiff,Nat.reduceMul]
      refine C_decide (fun hc2 => ?_) (fun hc2 => ?_)
      · have hhl : hi < s.len ∧ (hi : Int) < d + s.hi := by omega
        have hmid := fits_mid (s := s) (bits := bits) (lo := d) (hi := hi) (by omega)
        have e1 : IntKind.i64.wrap ((hi : Int) + 1) = ((hi + 1 : Nat) : Int) := i64_in _ (by omega)
        have hrl := staysRow_length (s := s) (bits := bits) (lo := d) (m := hi)
        simp(maxSteps:=9999999)(disch:=first|omega|(simp only[AN];omega))only[g8,g9,g10,hG2.get,hbox,hold.l.len,↓KP,EN,↓reduceIte,reduceCtorEq,Nat.reduceEqDiff,Nat.reduceAdd,Nat.reduceLeDiff,Nat.reduceMul]
        refine K_loop (fun mz ez H3 => ∃ (t : Nat) (tail : Env), ez = (0, .ptr p 0) :: (1, I bits) :: (4, .nilslice) :: tail ∧ (tail.get 7 = some v7') ∧ (tail.get 8 = some (I s.looked.length)) ∧ (tail.get 9 = some (I d)) ∧ (tail.get 10 = some (I hi)) ∧ (tail.get 30 = some (I s.looked.length)) ∧ (tail.get 31 = some (I d)) ∧ (tail.get 61 = some vl) ∧ (tail.get 62 = some (I s.looked.length)) ∧ (tail.get 63 = some (I t)) ∧ (Grew H2 H3) ∧ ((List.range t).all (fitDay s bits d hi) = true) ∧ (t ≤ s.len) ∧ mz = s.len - t) _ ⟨0, _, rfl, (by simp(maxSteps:=9999999)(disch:=first|omega|(simp only[AN];omega))only[g7,↓KP,EN,↓reduceIte,reduceCtorEq,Nat.reduceEqDiff,Nat.reduceAdd,Nat.reduceLeDiff,Nat.reduceMul]), (by simp(maxSteps:=9999999)(disch:=first|omega|(simp only[AN];omega))only[g8,↓KP,EN,↓reduceIte,reduceCtorEq,Nat.reduceEqDiff,Nat.reduceAdd,Nat.reduceLeDiff,Nat.reduceMul]), (by simp(maxSteps:=9999999)(disch:=first|omega|(simp only[AN];omega))only[g9,↓KP,EN,↓reduceIte,reduceCtorEq,Nat.reduceEqDiff,Nat.reduceAdd,Nat.reduceLeDiff,Nat.reduceMul]), (by simp(maxSteps:=9999999)(disch:=first|omega|(simp only[AN];omega))only[g10,↓KP,EN,↓reduceIte,reduceCtorEq,Nat.reduceEqDiff,Nat.reduceAdd,Nat.reduceLeDiff,Nat.reduceMul]), (by simp(maxSteps:=9999999)(disch:=first|omega|(simp only[AN];omega))only[g30,↓KP,EN,↓reduceIte,reduceCtorEq,Nat.reduceEqDiff,Nat.reduceAdd,Nat.reduceLeDiff,Nat.reduceMul]), (by simp(maxSteps:=9999999)(disch:=first|omega|(simp only[AN];omega))only[g31,↓KP,EN,↓reduceIte,reduceCtorEq,Nat.reduceEqDiff,Nat.reduceAdd,Nat.reduceLeDiff,Nat.reduceMul]), ?_, ?_, ?_, ?_, ?_, ?_, rfl⟩ ?_
        iterate 6 (focus (first|(with_reducible rfl)|omega|(with_reducible(repeat first|exact Grew.refl _|assumption|apply Grew.alloc|refine Grew.set ?_ _ (by first|omega|(simp only[AN];omega)));done)|(simp(maxSteps:=9999999)(disch:=first|omega|(simp only[AN];omega))only[↓KP,EN,↓reduceIte,reduceCtorEq,Nat.reduceEqDiff,Nat.reduceAdd,Nat.reduceLeDiff,Nat.reduceMul]<;>first|omega|rfl)|(simp;done)|rfl))
        rintro mz ez H3 ⟨t, tail, rfl, q7, q8, q9, q10, q30, q31, q61, q62, q63, hG3, hall, ht, hmz⟩; subst mz; have hG3n := hG3.next
        simp(maxSteps:=9999999)(disch:=first|omega|(simp only[AN];omega))only[q62,q63,↓KP,EN,↓reduceIte,reduceCtorEq,Nat.reduceEqDiff,Nat.reduceAdd,Nat.reduceLeDiff,Nat.reduceMul]
        refine C_decide (fun hc3 => ?_) (fun hc3 => ?_)
        · have ht' : t < s.looked.length := by omega
          obtain ⟨pb, pi, pro, pvs, plt, r⟩ := rdB hold.l (k := t) rfl ht'
          rw [lk_eq ht'] at r
          have e2 : IntKind.i64.wrap ((t : Int) + 1) = ((t + 1 : Nat) : Int) := i64_in _ (by omega)
          have hstep : (List.range (t + 1)).all (fitDay s bits d hi) = ((List.range t).all (fitDay s bits d hi) && fitDay s bits d hi t) := all_range_succ
          cases hlk : lk s t with
          | false =>
            rw [hlk] at r
            have hfd : fitDay s bits d hi t = true := by simp [fitDay, hlk]
            simp(maxSteps:=9999999)(disch:=first|omega|(simp only[AN];omega))only[q61,q62,q63,hG3.get,hG2.get,r,↓KP,EN,↓reduceIte,reduceCtorEq,Nat.reduceEqDiff,Nat.reduceAdd,Nat.reduceLeDiff,Nat.reduceMul]
            refine K_draw ?_
            simp(maxSteps:=9999999)(disch:=first|omega|(simp only[AN];omega))only[q61,q62,q63,e2,↓KP,EN,↓reduceIte,reduceCtorEq,Nat.reduceEqDiff,Nat.reduceAdd,Nat.reduceLeDiff,Nat.reduceMul]
            refine ⟨_, ?_, t + 1, _, rfl, ?_, ?_, ?_, ?_, ?_, ?_, ?_, ?_, ?_, ?_, (by rw [hstep, hall, hfd]; rfl), ?_, rfl⟩ <;> (first|omega|(with_reducible assumption)|(with_reducible(repeat first|exact Grew.refl _|assumption|apply Grew.alloc|refine Grew.set ?_ _ (by first|omega|(simp only[AN];omega))|refine Grew.trans ?_ hG3);done)|(simp(maxSteps:=9999999)(disch:=first|omega|(simp only[AN];omega))only[q7,q8,q9,q10,q30,q31,q61,q62,q63,hG3.get,↓KP,EN,↓reduceIte,reduceCtorEq,Nat.reduceEqDiff,Nat.reduceAdd,Nat.reduceLeDiff,Nat.reduceMul]<;>first|omega|rfl))
          | true =>
            rw [hlk] at r
            have hfd := fitDay_off (s := s) (bits := bits) (lo := d) (hi := hi) (d := t) hlk
            have s1 := shr_nat bits t (by omega)
            have hdiv : bits / 2 ^ t ≤ bits := Nat.div_le_self _ _
            have s2 := and_one (bits / 2 ^ t) (by omega)
            have s3 := bit_is bits t
            simp(maxSteps:=9999999)(disch:=first|omega|(simp only[AN];omega))only[q61,q62,q63,hG3.get,hG2.get,r,↓KP,EN,↓reduceIte,reduceCtorEq,Nat.reduceEqDiff,Nat.reduceAdd,Nat.reduceLeDiff,Nat.reduceMul]
            refine K_draw ?_
            simp(maxSteps:=9999999)(disch:=first|omega|(simp only[AN];omega))only[q9,q10,q61,q62,q63,s1,s2,s3,↓KP,EN,↓reduceIte,reduceCtorEq,Nat.reduceEqDiff,Nat.reduceAdd,Nat.reduceLeDiff,Nat.reduceMul]
            refine C_calld ?_
            refine out1_run _ _ _ rfl ?_
            have s4 := eqb (bits.testBit t) (offP d hi t)
            cases hx : (bits.testBit t == offP d hi t) with
            | true =>
              rw [hx] at s4 hfd
              have hno : fits s bits d hi = false := by
                rw [hmid]
                refine all_range_le (n := t + 1) (by omega) ?_
                rw [hstep, hfd, Bool.not_true, Bool.and_false]
              simp(maxSteps:=9999999)(disch:=first|omega|(simp only[AN];omega))only[q7,q8,q9,q10,q30,q31,q61,q62,q63,s3,s4,e1,↓KP,EN,↓reduceIte,reduceCtorEq,Nat.reduceEqDiff,Nat.reduceAdd,Nat.reduceLeDiff,Nat.reduceMul]
              refine ⟨_, ?_, hi + 1, v7', _, rfl, ?_, ?_, ?_, ?_, ?_, ?_, ?_, (by rw [staysRow_succ, if_neg (by rw [hno]; simp), List.append_nil]; exact hm7'.grow EP.stays GW), ?_, ?_, ?_, rfl⟩ <;> (first|omega|(with_reducible assumption)|(with_reducible(repeat first|exact Grew.refl _|assumption|apply Grew.alloc|refine Grew.set ?_ _ (by first|omega|(simp only[AN];omega))|refine Grew.trans ?_ hG3|refine Grew.trans ?_ hG2);done)|(simp(maxSteps:=9999999)(disch:=first|omega|(simp only[AN];omega))only[q7,q8,q9,q10,q30,q31,hG3.get,hG2.get,↓KP,EN,↓reduceIte,reduceCtorEq,Nat.reduceEqDiff,Nat.reduceAdd,Nat.reduceLeDiff,Nat.reduceMul]<;>first|omega|rfl))
            | false =>
              rw [hx] at s4 hfd
              simp(maxSteps:=9999999)(disch:=first|omega|(simp only[AN];omega))only[q61,q62,q63,s3,s4,e2,↓KP,EN,↓reduceIte,reduceCtorEq,Nat.reduceEqDiff,Nat.reduceAdd,Nat.reduceLeDiff,Nat.reduceMul]
              refine ⟨_, ?_, t + 1, _, rfl, ?_, ?_, ?_, ?_, ?_, ?_, ?_, ?_, ?_, ?_, (by rw [hstep, hall, hfd]; rfl), ?_, rfl⟩ <;> (first|omega|(with_reducible assumption)|(with_reducible(repeat first|exact Grew.refl _|assumption|apply Grew.alloc|refine Grew.set ?_ _ (by first|omega|(simp only[AN];omega))|refine Grew.trans ?_ hG3);done)|(simp(maxSteps:=9999999)(disch:=first|omega|(simp only[AN];omega))only[q7,q8,q9,q10,q30,q31,q61,q62,q63,hG3.get,↓KP,EN,↓reduceIte,reduceCtorEq,Nat.reduceEqDiff,Nat.reduceAdd,Nat.reduceLeDiff,Nat.reduceMul]<;>first|omega|rfl))
        · have hte : t = s.len := by omega
          subst hte
          have hyes : fits s bits d hi = true := by rw [hmid]; exact hall
          obtain ⟨vb, H5, u1, u2, u3, u4⟩ := (hm7'.grow EP.stays hG3).push (bytes := 16) (cs := [I d, I hi]) (a := ((d : Int), (hi : Int))) (F := fun _ => False) EP.stays (by omega) rfl (fun _ h => h.elim) rfl rfl (by simp only [List.length_append]; omega)
          simp(maxSteps:=9999999)(disch:=first|omega|(simp only[AN];omega))only[q7,q8,q9,q10,q30,q31,u1,e1,↓KP,EN,↓reduceIte,reduceCtorEq,Nat.reduceEqDiff,Nat.reduceAdd,Nat.reduceLeDiff,Nat.reduceMul]
          refine ⟨_, ?_, hi + 1, vb, _, rfl, ?_, ?_, ?_, ?_, ?_, ?_, (by exact ⟨by omega, fun c hc => by rw [u4 c hc, hG3.get c (by omega), hG2.get c hc]⟩), (by rw [staysRow_succ, if_pos ⟨by omega, hyes⟩, ← List.append_assoc]; exact u2), ?_, ?_, ?_, rfl⟩ <;> (first|omega|(with_reducible assumption)|(with_reducible(repeat first|exact Grew.refl _|assumption|apply Grew.alloc|refine Grew.set ?_ _ (by first|omega|(simp only[AN];omega)));done)|(simp(maxSteps:=9999999)(disch:=first|omega|(simp only[AN];omega))only[q7,q8,q9,q10,q30,q31,↓KP,EN,↓reduceIte,reduceCtorEq,Nat.reduceEqDiff,Nat.reduceAdd,Nat.reduceLeDiff,Nat.reduceMul]<;>first|omega|rfl))
      · have hrow : staysRow s bits d hi = staysRow s bits d s.len := by
          by_cases h1 : hi ≤ s.len
          · exact (staysRow_skip h1 fun j h2 h3 => fits_short (.inr (by omega))).symm
          · rw [staysRow_skip (m := s.len) (by omega) fun j h2 h3 => fits_short (.inl (by omega))]
        have e1 : IntKind.i64.wrap ((d : Int) + 1) = ((d + 1 : Nat) : Int) := i64_in _ (by omega)
        simp(maxSteps:=9999999)(disch:=first|omega|(simp only[AN];omega))only[g7,g8,g30,g31,e1,↓KP,EN,↓reduceIte,reduceCtorEq,Nat.reduceEqDiff,Nat.reduceAdd,Nat.reduceLeDiff,Nat.reduceMul]
        refine ⟨_, ?_, d + 1, v7', _, rfl, ?_, ?_, ?_, ?_, ?_, (by rw [staysTo_succ, ← hrow]; exact hm7'), ?_, rfl⟩ <;> (first|omega|(with_reducible assumption)|(with_reducible(repeat first|exact Grew.refl _|assumption|apply Grew.alloc|refine Grew.set ?_ _ (by first|omega|(simp only[AN];omega))|refine Grew.trans ?_ hG2);done)|(simp(maxSteps:=9999999)(disch:=first|omega|(simp only[AN];omega))only[g7,g8,g30,g31,hG2.get,↓KP,EN,↓reduceIte,reduceCtorEq,Nat.reduceEqDiff,Nat.reduceAdd,Nat.reduceLeDiff,Nat.reduceMul]<;>first|omega|rfl))
    · have hde : d = s.len := by omega
      subst hde
      have hr1 := hr.up hG
      have hvs : IsSl 2 EP (Fb N m G H1) H1 v7 (staysE s bits) := (hm7.slF EP.stays).move EP.stays fun b hb => ⟨⟨hb.1, by have := hb.2.elim False.elim id; omega, .inr (hl b (hb.2.elim False.elim id))⟩, rfl⟩
      obtain ⟨es', hput, hca'⟩ := (hc.move (F' := Fb N m G H1) (H' := H1) fun b hb => ⟨⟨by have := hG.next; omega, hb.2⟩, hG.get b hb.1⟩).put bits hvs
      simp(maxSteps:=9999999)(disch:=first|omega|(simp only[AN];omega))only[f7,hG.get,hbox,opUpdate,eq1,beq_self_eq_true,hm,hput,↓KP,EN,↓reduceIte,reduceCtorEq,Nat.reduceEqDiff,Nat.reduceAdd,Nat.reduceLeDiff,Nat.reduceMul]
      refine k _ _ ⟨hG.next, fun b h1 h2 => by rw [get_set_other h2]; exact hG.get b h1⟩ (hr1.put hca') (hvs.move EP.stays fun b hb => ⟨hb, get_set_other hb.2.1⟩)
  · refine CallQ_enter (fn:=c89) rfl (Nat.le_of_ble_eq_true rfl) ?_;simp(maxSteps:=9999999)(disch:=first|omega|(simp only[AN];omega))only[c89,envFrom,hbox,opLookup,eq1,beq_self_eq_true,hm,hfi,↓KP,EN,↓reduceIte,reduceCtorEq,Nat.reduceEqDiff,Nat.reduceAdd,Nat.reduceLeDiff,Nat.reduceMul]
    exact k _ _ (GrewBut.refl _) hr hv
end Go.Proofs.Ytihahmggfjjkjaa
namespace Go.Proofs.Ytihahmggfjjkjaa
open Go.AM Go.IntWalk Go.PL
set_option maxRecDepth 100000
set_option maxHeartbeats 4000000
set_option linter.unusedSimpArgs false
variable {H : AH} {R : AV → AH → Prop}
theorem nobody_run (k : ∀ H', Grew H H' → R (.agg [I 0, I (-1)]) H') : CallQ prog (.func 74 [] []) [] H R := by
  refine CallQ_enter (fn:=c74) rfl (Nat.le_of_ble_eq_true rfl) ?_;simp(maxSteps:=9999999)(disch:=first|omega|(simp only[AN];omega))only[c74,envFrom,↓KP,EN,↓reduceIte,reduceCtorEq,Nat.reduceEqDiff,Nat.reduceAdd,Nat.reduceLeDiff,Nat.reduceMul]
  exact k _ GW
def arr8 (f : Nat → Int) : List AV := [I (f 0), I (f 1), I (f 2), I (f 3), I (f 4), I (f 5), I (f 6), I (f 7)]
theorem arr8_get {f : Nat → Int} {d : Nat} (h : d < 8) : (arr8 f)[d]? = some (I (f d)) := by
  match d, h with
  | 0, _ => rfl
  | 1, _ => rfl
  | 2, _ => rfl
  | 3, _ => rfl
  | 4, _ => rfl
  | 5, _ => rfl
  | 6, _ => rfl
  | 7, _ => rfl
theorem arr8_set {f : Nat → Int} {d : Nat} (h : d < 8) (x : Int) : writeN (arr8 f) d [I x] = some (arr8 fun e => if e = d then x else f e) := by
  match d, h with
  | 0, _ => rfl
  | 1, _ => rfl
  | 2, _ => rfl
  | 3, _ => rfl
  | 4, _ => rfl
  | 5, _ => rfl
  | 6, _ => rfl
  | 7, _ => rfl
theorem arr8_congr {f g : Nat → Int} (h : ∀ d, d < 8 → f d = g d) : arr8 f = arr8 g := by
  simp only [arr8, h 0 (by omega), h 1 (by omega), h 2 (by omega), h 3 (by omega), h 4 (by omega), h 5 (by omega), h 6 (by omega), h 7 (by omega)]
theorem idx8 (b : Nat) {n : Int} {d : Nat} (hn : n = d) (h : d < 8) : ∀ S, opIdxArr 8 1 (.ptr b 0) (.int .i64 n) S = some (.ptr b d, S) := fun S => by
  subst hn
  simp [opIdxArr, natOf, h]
def okS (x : Int × Int) : Prop := 0 ≤ x.1 ∧ x.1 ≤ x.2 + 1 ∧ x.2 ≤ 7
def cntE (q : List (Int × Int)) (d : Nat) : Int := (q.countP (inS d) : Nat)
def spanCells (a b c d : Int × Int) : List AV := [I a.1, I a.2, I b.1, I b.2, I c.1, I c.2, I d.1, I d.2]
theorem at4 (a b c d : Int × Int) {i : Nat} (h : i < 4) : ∀ S, opAt 4 2 true (.agg (spanCells a b c d)) (.int .i64 i) S = some (.agg [I (getP [a, b, c, d] i).1, I (getP [a, b, c, d] i).2], S) := fun S => by
  match i, h with
  | 0, _ => rfl
  | 1, _ => rfl
  | 2, _ => rfl
  | 3, _ => rfl
theorem numbers_run' (v0 : AV) (a b c d : Int × Int) (hq : ∀ x ∈ [a, b, c, d], okS x) (k : ∀ H', Grew H H' → R (.agg (arr8 (cntE [a, b, c, d]))) H') : CallQ prog (.func 90 [] []) [v0, .agg (spanCells a b c d)] H R := by
  have hat := fun (i : Nat) (h : i < 4) => at4 a b c d h
  generalize hQ : [a, b, c, d] = Q at *
  have hQl : Q.length = 4 := by rw [← hQ]; rfl
  simp only [spanCells] at hat ⊢
  refine CallQ_enter (fn:=c90) rfl (Nat.le_of_ble_eq_true rfl) ?_;simp(maxSteps:=9999999)(disch:=first|omega|(simp only[AN];omega))only[c90,envFrom,↓KP,EN,↓reduceIte,reduceCtorEq,Nat.reduceEqDiff,Nat.reduceAdd,Nat.reduceLeDiff,Nat.reduceMul]
  refine K_loop (fun mz ez H1 => ∃ (i : Nat) (tail : Env), ez = (1, .agg (spanCells a b c d)) :: (3, .ptr H.next 0) :: (4, .ptr (H.next + 1) 0) :: (8, .agg (spanCells a b c d)) :: tail ∧ (tail.get 9 = some (I i)) ∧ (Grew H H1) ∧ (H.next + 1 < H1.next) ∧ (H1.get (H.next + 1) = some (.cells false (arr8 (cntE (Q.take i))))) ∧ (i ≤ 4) ∧ mz = 4 - i) _ ⟨0, _, rfl, ?_, (by exact GW), ?_, (by simp(maxSteps:=9999999)(disch:=first|omega|(simp only[AN];omega))only[↓KP,EN,↓reduceIte,reduceCtorEq,Nat.reduceEqDiff,Nat.reduceAdd,Nat.reduceLeDiff,Nat.reduceMul]; rfl), ?_, rfl⟩ ?_
  iterate 3 (focus (first|(with_reducible rfl)|omega|(with_reducible(repeat first|exact Grew.refl _|assumption|apply Grew.alloc|refine Grew.set ?_ _ (by first|omega|(simp only[AN];omega)));done)|(simp(maxSteps:=9999999)(disch:=first|omega|(simp only[AN];omega))only[↓KP,EN,↓reduceIte,reduceCtorEq,Nat.reduceEqDiff,Nat.reduceAdd,Nat.reduceLeDiff,Nat.reduceMul]<;>first|omega|rfl)|(simp;done)|rfl))
  rintro mz ez H1 ⟨i, tail, rfl, f9, hG, hlt, h4, hi, hmz⟩; subst mz; have hGn := hG.next
  simp only [spanCells]
  simp(maxSteps:=9999999)(disch:=first|omega|(simp only[AN];omega))only[f9,↓KP,EN,↓reduceIte,reduceCtorEq,Nat.reduceEqDiff,Nat.reduceAdd,Nat.reduceLeDiff,Nat.reduceMul]
  refine C_decide (fun hc => ?_) (fun hc => ?_)
  · have hi' : i < Q.length := by omega
    have hx := hq Q[i] (List.getElem_mem hi')
    have hs := fun (e : Nat) => countP_take_succ (p := inS (e : Int)) hi'
    have hat' := hat i (by omega)
    rw [getP_eq hi'] at hat'
    generalize hX : Q[i] = X at *
    obtain ⟨X1, X2⟩ := X
    obtain ⟨x1, x2, x3⟩ := hx
    simp only at x1 x2 x3 hat'
    obtain ⟨x0, rfl⟩ : ∃ x0 : Nat, X1 = x0 := ⟨X1.toNat, by omega⟩
    have e1 : IntKind.i64.wrap ((i : Int) + 1) = ((i + 1 : Nat) : Int) := i64_in _ (by omega)
    simp(maxSteps:=9999999)(disch:=first|omega|(simp only[AN];omega))only[f9,hat',↓KP,EN,↓reduceIte,reduceCtorEq,Nat.reduceEqDiff,Nat.reduceAdd,Nat.reduceLeDiff,Nat.reduceMul]
    refine K_loop (fun mz ez H2 => ∃ (y : Nat) (tail : Env), ez = (1, .agg (spanCells a b c d)) :: (3, .ptr H.next 0) :: (4, .ptr (H.next + 1) 0) :: (8, .agg (spanCells a b c d)) :: tail ∧ (tail.get 9 = some (I i)) ∧ (tail.get 6 = some (.ptr H1.next 0)) ∧ (tail.get 7 = some (I y)) ∧ (Grew H H2) ∧ (H1.next < H2.next) ∧ (H2.get H1.next = some (.cells false [I x0, I X2])) ∧ (H2.get (H.next + 1) = some (.cells false (arr8 fun e => cntE (Q.take i) e + if (x0 : Int) ≤ e ∧ (e : Int) < y then 1 else 0))) ∧ (x0 ≤ y) ∧ ((y : Int) ≤ X2 + 1) ∧ mz = (X2 + 1 - y).toNat) _ ⟨x0, _, rfl, (by simp(maxSteps:=9999999)(disch:=first|omega|(simp only[AN];omega))only[f9,↓KP,EN,↓reduceIte,reduceCtorEq,Nat.reduceEqDiff,Nat.reduceAdd,Nat.reduceLeDiff,Nat.reduceMul]), ?_, ?_, (by exact GW), ?_, ?_, (by simp(maxSteps:=9999999)(disch:=first|omega|(simp only[AN];omega))only[h4,↓KP,EN,↓reduceIte,reduceCtorEq,Nat.reduceEqDiff,Nat.reduceAdd,Nat.reduceLeDiff,Nat.reduceMul]; rw [arr8_congr]; intro e _; rw [if_neg (by omega)]; omega), ?_, (by omega), rfl⟩ ?_
    iterate 5 (focus (first|(with_reducible rfl)|omega|(with_reducible(repeat first|exact Grew.refl _|assumption|apply Grew.alloc|refine Grew.set ?_ _ (by first|omega|(simp only[AN];omega)));done)|(simp(maxSteps:=9999999)(disch:=first|omega|(simp only[AN];omega))only[↓KP,EN,↓reduceIte,reduceCtorEq,Nat.reduceEqDiff,Nat.reduceAdd,Nat.reduceLeDiff,Nat.reduceMul]<;>first|omega|rfl)|(simp;done)|rfl))
    rintro mz ez H2 ⟨y, tail, rfl, g9, g6, g7, hG2, hlt2, h6, h42, hy1, hy2, hmz⟩; subst mz; have hG2n := hG2.next
    simp only [spanCells]
    simp(maxSteps:=9999999)(disch:=first|omega|(simp only[AN];omega))only[g6,g7,h6,↓KP,EN,↓reduceIte,reduceCtorEq,Nat.reduceEqDiff,Nat.reduceAdd,Nat.reduceLeDiff,Nat.reduceMul]
    refine C_decide (fun hc2 => ?_) (fun hc2 => ?_)
    · have hy8 : y < 8 := by omega
      have hix := idx8 (H.next + 1) (n := (y : Int)) rfl hy8
      have hgt := arr8_get (f := fun e => cntE (Q.take i) e + if (x0 : Int) ≤ e ∧ (e : Int) < y then 1 else 0) hy8
      simp only [if_neg (show ¬ ((x0 : Int) ≤ (y : Int) ∧ (y : Int) < y) by omega)] at hgt
      have hcl : 0 ≤ cntE (Q.take i) y ∧ cntE (Q.take i) y ≤ 4 := by
        have := List.countP_le_length (p := inS (y : Int)) (l := Q.take i)
        simp only [List.length_take] at this
        unfold cntE; omega
      have e2 : IntKind.i64.wrap (cntE (Q.take i) y + 0 + 1) = cntE (Q.take i) y + 1 := by rw [i64_in _ (by omega)]; omega
      have e3 : IntKind.i64.wrap ((y : Int) + 1) = ((y + 1 : Nat) : Int) := i64_in _ (by omega)
      have hst := arr8_set (f := fun e => cntE (Q.take i) e + if (x0 : Int) ≤ e ∧ (e : Int) < y then 1 else 0) hy8 (cntE (Q.take i) y + 1)
      have hnew : (arr8 fun e => if e = y then cntE (Q.take i) y + 1 else cntE (Q.take i) e + if (x0 : Int) ≤ e ∧ (e : Int) < y then 1 else 0) = arr8 fun e => cntE (Q.take i) e + if (x0 : Int) ≤ e ∧ (e : Int) < (y + 1 : Nat) then 1 else 0 := arr8_congr fun e _ => by
        by_cases h : e = y
        · subst h; rw [if_pos rfl, if_pos (by omega)]
        · rw [if_neg h]
          congr 1
          by_cases h2 : (x0 : Int) ≤ e ∧ (e : Int) < y
          · rw [if_pos h2, if_pos (by omega)]
          · rw [if_neg h2, if_neg (by omega)]
      rw [hnew] at hst
      simp(maxSteps:=9999999)(disch:=first|omega|(simp only[AN];omega))only[g6,g7,g9,hix,h42,hgt,e2,hst,e3,↓KP,EN,↓reduceIte,reduceCtorEq,Nat.reduceEqDiff,Nat.reduceAdd,Nat.reduceLeDiff,Nat.reduceMul]
      refine ⟨_, ?_, y + 1, _, rfl, ?_, ?_, ?_, ?_, ?_, ?_, ?_, ?_, ?_, rfl⟩ <;> (first|omega|(with_reducible assumption)|(with_reducible(repeat first|exact Grew.refl _|assumption|apply Grew.alloc|refine Grew.set ?_ _ (by first|omega|(simp only[AN];omega))|refine Grew.trans ?_ hG2);done)|(simp(maxSteps:=9999999)(disch:=first|omega|(simp only[AN];omega))only[g6,g7,g9,h6,hG2.get,↓KP,EN,↓reduceIte,reduceCtorEq,Nat.reduceEqDiff,Nat.reduceAdd,Nat.reduceLeDiff,Nat.reduceMul]<;>first|omega|rfl))
    · have hye : (y : Int) = X2 + 1 := by omega
      simp(maxSteps:=9999999)(disch:=first|omega|(simp only[AN];omega))only[g9,e1,↓KP,EN,↓reduceIte,reduceCtorEq,Nat.reduceEqDiff,Nat.reduceAdd,Nat.reduceLeDiff,Nat.reduceMul]
      refine ⟨_, ?_, i + 1, _, rfl, ?_, ?_, ?_, (by rw [h42]; congr 2; refine arr8_congr fun e _ => ?_; rw [cntE, cntE, hs e]; (by_cases h : (x0 : Int) ≤ e ∧ (e : Int) < y); (rw [if_pos h, if_pos (by simp only [inS, Bool.and_eq_true, decide_eq_true_eq]; omega)]; rfl); (rw [if_neg h, if_neg (by simp only [inS, Bool.and_eq_true, decide_eq_true_eq]; omega)]; rfl)), ?_, rfl⟩ <;> (first|omega|(with_reducible assumption)|(with_reducible(repeat first|exact Grew.refl _|assumption|apply Grew.alloc|refine Grew.set ?_ _ (by first|omega|(simp only[AN];omega))|refine Grew.trans ?_ hG2);done)|(simp(maxSteps:=9999999)(disch:=first|omega|(simp only[AN];omega))only[g9,hG2.get,↓KP,EN,↓reduceIte,reduceCtorEq,Nat.reduceEqDiff,Nat.reduceAdd,Nat.reduceLeDiff,Nat.reduceMul]<;>first|omega|rfl))
  · have hie : i = 4 := by omega
    subst hie
    rw [List.take_of_length_le (by omega)] at h4
    simp only [arr8] at h4
    simp(maxSteps:=9999999)(disch:=first|omega|(simp only[AN];omega))only[h4,↓KP,EN,↓reduceIte,reduceCtorEq,Nat.reduceEqDiff,Nat.reduceAdd,Nat.reduceLeDiff,Nat.reduceMul]
    exact k _ GW
def soK8 (s : Series) (but : Nat) (f : Nat → Int) (k : Nat) : Bool := but.testBit k || decide (f (s.filled.getD k (0, 0)).1.toNat = (s.filled.getD k (0, 0)).2)
def soF (s : Series) (but : Nat) (f : Nat → Int) : Bool := (List.range s.filled.length).all (soK8 s but f)
theorem so_run {N p m : Nat} {G : Nat → Prop} {vl vg vf : AV} {s : Series} {but : Nat} (f : Nat → Int) (hb : but < 1000) (hf : Fine s) (hr : Rdy N p m G vl vg vf s but H)
    (k : ∀ H', Grew H H' → R (.bool (soF s but f)) H') : CallQ prog (.func 87 [.ptr p 0] []) [.agg (arr8 f)] H R := by
  have hbox := hr.box
  have hpl := hr.plt
  have hnl := hr.nle
  have hold := hr.old
  have hl8 := hf.len.2
  have hfl := hf.fl
  simp only [arr8]
  refine CallQ_enter (fn:=c87) rfl (Nat.le_of_ble_eq_true rfl) ?_;simp(maxSteps:=9999999)(disch:=first|omega|(simp only[AN];omega))only[c87,envFrom,hbox,hold.f.len,↓KP,EN,↓reduceIte,reduceCtorEq,Nat.reduceEqDiff,Nat.reduceAdd,Nat.reduceLeDiff,Nat.reduceMul]
  refine K_loop (fun mz ez H1 => ∃ (j : Nat) (tail : Env), ez = (0, .ptr p 0) :: (1, .agg (arr8 f)) :: (3, .ptr H.next 0) :: (4, .bool false) :: tail ∧ (tail.get 11 = some vf) ∧ (tail.get 12 = some (I s.filled.length)) ∧ (tail.get 13 = some (I j)) ∧ (Grew H H1) ∧ (H.next < H1.next) ∧ (H1.get H.next = some (.cells false (arr8 f))) ∧ ((List.range j).all (soK8 s but f) = true) ∧ (j ≤ s.filled.length) ∧ mz = s.filled.length - j) _ ⟨0, _, rfl, ?_, ?_, ?_, ?_, ?_, (by simp(maxSteps:=9999999)(disch:=first|omega|(simp only[AN];omega))only[↓KP,EN,↓reduceIte,reduceCtorEq,Nat.reduceEqDiff,Nat.reduceAdd,Nat.reduceLeDiff,Nat.reduceMul]; rfl), ?_, ?_, rfl⟩ ?_
  iterate 7 (focus (first|(with_reducible rfl)|omega|(with_reducible(repeat first|exact Grew.refl _|assumption|apply Grew.alloc|refine Grew.set ?_ _ (by first|omega|(simp only[AN];omega)));done)|(simp(maxSteps:=9999999)(disch:=first|omega|(simp only[AN];omega))only[↓KP,EN,↓reduceIte,reduceCtorEq,Nat.reduceEqDiff,Nat.reduceAdd,Nat.reduceLeDiff,Nat.reduceMul]<;>first|omega|rfl)|(simp;done)|rfl))
  rintro mz ez H1 ⟨j, tail, rfl, f11, f12, f13, hG, hlt, h3, hno, hj, hmz⟩; subst mz; have hGn := hG.next
  simp(maxSteps:=9999999)(disch:=first|omega|(simp only[AN];omega))only[f12,f13,↓KP,EN,↓reduceIte,reduceCtorEq,Nat.reduceEqDiff,Nat.reduceAdd,Nat.reduceLeDiff,Nat.reduceMul]
  refine C_decide (fun hc => ?_) (fun hc => ?_)
  · have hj' : j < s.filled.length := by omega
    obtain ⟨pb, pi, pro, pvs, plt, q⟩ := rdP hold.f (k := j) rfl hj'
    have hfj := hf.f _ (List.getElem_mem hj')
    have hk8 : soK8 s but f j = (but.testBit j || decide (f s.filled[j].1.toNat = s.filled[j].2)) := by simp [soK8, hj']
    have hstep : (List.range (j + 1)).all (soK8 s but f) = ((List.range j).all (soK8 s but f) && soK8 s but f j) := all_range_succ
    generalize s.filled[j] = X at *
    have hd8 : X.1.toNat < 8 := by omega
    have hix := idx8 H.next (n := X.1) (d := X.1.toNat) (by omega) hd8
    have hgt := arr8_get (f := f) hd8
    have e1 : IntKind.i64.wrap ((j : Int) + 1) = ((j + 1 : Nat) : Int) := i64_in _ (by omega)
    have s1 := shr_nat but j (by omega)
    have hdiv : but / 2 ^ j ≤ but := Nat.div_le_self _ _
    have s2 := and_one (but / 2 ^ j) (by omega)
    have s3 := bit_not but j
    simp(maxSteps:=9999999)(disch:=first|omega|(simp only[AN];omega))only[f11,f12,f13,hG.get,q,↓KP,EN,↓reduceIte,reduceCtorEq,Nat.reduceEqDiff,Nat.reduceAdd,Nat.reduceLeDiff,Nat.reduceMul]
    refine K_draw ?_
    cases hbt : but.testBit j with
    | true =>
      rw [hbt] at s3 hk8
      have s4 : ¬ ((but / 2 ^ j % 2 : Nat) : Int) = 0 := of_decide_eq_false s3
      rw [Bool.true_or] at hk8
      simp(maxSteps:=9999999)(disch:=first|omega|(simp only[AN];omega))only[f11,f12,f13,hG.get,hbox,s1,s2,s4,e1,↓KP,EN,↓reduceIte,reduceCtorEq,Nat.reduceEqDiff,Nat.reduceAdd,Nat.reduceLeDiff,Nat.reduceMul]
      refine ⟨_, ?_, j + 1, _, rfl, ?_, ?_, ?_, ?_, ?_, ?_, (by rw [hstep, hno, hk8]; rfl), ?_, rfl⟩ <;> (first|omega|(with_reducible assumption)|(with_reducible(repeat first|exact Grew.refl _|assumption|apply Grew.alloc|refine Grew.set ?_ _ (by first|omega|(simp only[AN];omega))|refine Grew.trans ?_ hG);done)|(simp(maxSteps:=9999999)(disch:=first|omega|(simp only[AN];omega))only[f11,f12,f13,h3,hG.get,↓KP,EN,↓reduceIte,reduceCtorEq,Nat.reduceEqDiff,Nat.reduceAdd,Nat.reduceLeDiff,Nat.reduceMul]<;>first|omega|rfl))
    | false =>
      rw [hbt] at s3 hk8
      have s4 : ((but / 2 ^ j % 2 : Nat) : Int) = 0 := of_decide_eq_true s3
      rw [Bool.false_or] at hk8
      by_cases hx : f X.1.toNat = X.2
      · rw [decide_eq_true hx] at hk8
        simp(maxSteps:=9999999)(disch:=first|omega|(simp only[AN];omega))only[f11,f12,f13,hG.get,hbox,s1,s2,eq_true s4,hix,h3,hgt,hx,e1,↓KP,EN,↓reduceIte,reduceCtorEq,Nat.reduceEqDiff,Nat.reduceAdd,Nat.reduceLeDiff,Nat.reduceMul]
        refine ⟨_, ?_, j + 1, _, rfl, ?_, ?_, ?_, ?_, ?_, ?_, (by rw [hstep, hno, hk8]; rfl), ?_, rfl⟩ <;> (first|omega|(with_reducible assumption)|(with_reducible(repeat first|exact Grew.refl _|assumption|apply Grew.alloc|refine Grew.set ?_ _ (by first|omega|(simp only[AN];omega))|refine Grew.trans ?_ hG);done)|(simp(maxSteps:=9999999)(disch:=first|omega|(simp only[AN];omega))only[f11,f12,f13,h3,hG.get,↓KP,EN,↓reduceIte,reduceCtorEq,Nat.reduceEqDiff,Nat.reduceAdd,Nat.reduceLeDiff,Nat.reduceMul]<;>first|omega|rfl))
      · rw [decide_eq_false hx] at hk8
        have : soF s but f = false := all_range_le (n := j + 1) (by omega) (by rw [hstep, hk8, Bool.and_false])
        rw [this] at k
        simp(maxSteps:=9999999)(disch:=first|omega|(simp only[AN];omega))only[f11,f12,f13,hG.get,hbox,s1,s2,eq_true s4,hix,h3,hgt,hx,e1,↓KP,EN,↓reduceIte,reduceCtorEq,Nat.reduceEqDiff,Nat.reduceAdd,Nat.reduceLeDiff,Nat.reduceMul]
        exact k _ GW
  · have hje : j = s.filled.length := by omega
    subst hje
    have : soF s but f = true := hno
    rw [this] at k
    simp(maxSteps:=9999999)(disch:=first|omega|(simp only[AN];omega))only[↓KP,EN,↓reduceIte,reduceCtorEq,Nat.reduceEqDiff,Nat.reduceAdd,Nat.reduceLeDiff,Nat.reduceMul]
    exact k _ hG
end Go.Proofs.Ytihahmggfjjkjaa
namespace Go.Proofs.Ytihahmggfjjkjaa
open Go.AM Go.IntWalk Go.PL
set_option maxRecDepth 100000
set_option maxHeartbeats 4000000
set_option linter.unusedSimpArgs false
variable {H : AH} {R : AV → AH → Prop}
def nob : Int × Int := (0, -1)
def getN (l : List (Int × Int)) (k : Nat) : Int × Int := l.getD k nob
def sp (t : Truth) : List (Int × Int) := [getN t.1 0, getN t.1 1, getN t.1 2, t.2.getD nob]
def flat (q : List (Int × Int)) : List AV := q.flatMap fun x => [I x.1, I x.2]
def argT (t : Truth) : List AV := [.agg (flat (sp t)), .agg (arr8 (cntE (sp t)))]
def okB (s : Series) (but : Nat) (t : Truth) : Bool := soF s but (cntE (sp t))
def truthsB (s : Series) (but : Nat) : List Truth := (allE s).filter (okB s but)
abbrev yields (s : Series) (but : Nat) : List (List AV) := (truthsB s but).map argT
def compl (s : Series) : List Int → List (Int × Int) → List (List (Int × Int))
  | [], pre => [pre]
  | b :: bs, pre => (staysE s b).flatMap fun x => compl s bs (pre ++ [x])
theorem compl_fold (s : Series) : ∀ (bs : List Int) (out : List (List (Int × Int))), bs.foldl (gStep s) out = out.flatMap (compl s bs)
  | [], out => by
    simp only [List.foldl_nil]
    induction out with
    | nil => rfl
    | cons a out ih => rw [List.flatMap_cons, ← ih]; rfl
  | b :: bs, out => by
    rw [List.foldl_cons, compl_fold s bs, gStep, List.flatMap_assoc]
    congr 1
    funext o
    simp only [compl, List.flatMap_map]
theorem gAll_compl (s : Series) : gAll s = compl s s.groups [] := by rw [gAll, compl_fold]; simp
def from_ (s : Series) (but : Nat) (pre : List (Int × Int)) : List Truth := ((compl s (s.groups.drop pre.length) pre).flatMap fun g => (moreE s).map fun m => (g, m)).filter (okB s but)
theorem truthsB_from (s : Series) (but : Nat) : truthsB s but = from_ s but [] := by rw [truthsB, allE, gAll_compl]; rfl
theorem from_step {s : Series} {but : Nat} {pre : List (Int × Int)} (hk : pre.length < s.groups.length) : from_ s but pre = (staysE s s.groups[pre.length]).flatMap fun x => from_ s but (pre ++ [x]) := by
  unfold from_
  rw [List.drop_eq_getElem_cons hk]
  simp only [compl, List.flatMap_assoc, List.filter_flatMap, List.length_append, List.length_singleton]
theorem from_end {s : Series} {but : Nat} {pre : List (Int × Int)} (hk : pre.length = s.groups.length) : from_ s but pre = ((moreE s).map fun m => (pre, m)).filter (okB s but) := by
  unfold from_
  rw [List.drop_of_length_le (by omega)]
  simp [compl]
theorem Rdy.weak {N p m : Nat} {G G' : Nat → Prop} {vl vg vf : AV} {s : Series} {but : Nat} (hr : Rdy N p m G vl vg vf s but H) (h : ∀ b, G b → G' b) : Rdy N p m G' vl vg vf s but H := by
  obtain ⟨a1, a2, a3, a4, a5, a6, es, b1, b2⟩ := hr
  exact ⟨a1, a2, a3, a4, a5, a6, es, b1, b2.move fun b hb => ⟨⟨hb.1, hb.2.1, hb.2.2.imp_right (h b)⟩, rfl⟩⟩
theorem Rdy.sharp {N p m : Nat} {G : Nat → Prop} {vl vg vf : AV} {s : Series} {but : Nat} (hr : Rdy N p m G vl vg vf s but H) : Rdy N p m (fun b => G b ∧ b ≠ H.next) vl vg vf s but H := by
  obtain ⟨a1, a2, a3, a4, a5, a6, es, b1, b2⟩ := hr
  exact ⟨a1, a2, a3, a4, a5, a6, es, b1, b2.move fun b hb => ⟨⟨hb.1, hb.2.1, hb.2.2.imp_right fun h => ⟨h, by omega⟩⟩, rfl⟩⟩
structure Jn (N p m bh : Nat) (G : Nat → Prop) (vl vg vf : AV) (s : Series) (but : Nat) (B H : AH) : Prop where
  base : ∀ b, b < N → b ≠ m → H.get b = B.get b
  rdy : Rdy N p m G vl vg vf s but H
  bhn : N ≤ bh
  box : H.get bh = some (.cells false [.ptr p 0])
  lt : bh < H.next
abbrev Kh (N bh : Nat) : Nat → Prop := fun b => b < N ∨ b = bh
theorem Kh.not {N bh b : Nat} (h : ¬ Kh N bh b) : N ≤ b ∧ b ≠ bh := by
  simp only [Kh, not_or] at h; omega
section
variable {N p m bh : Nat} {G G' : Nat → Prop} {vl vg vf : AV} {s : Series} {but : Nat} {B H1 H2 : AH}
theorem Jn.keep (hr : Jn N p m bh G vl vg vf s but B H1) (hn : H1.next ≤ H2.next) (hs : ∀ b, b < H1.next → (b < N ∨ b = bh ∨ G b) → H2.get b = H1.get b) : Jn N p m bh G vl vg vf s but B H2 := by
  obtain ⟨a, b, c, d, e⟩ := hr
  have := b.nle
  exact ⟨fun k h1 h2 => by rw [hs k (by omega) (.inl h1)]; exact a k h1 h2, b.keep hn fun k h1 h2 => hs k h1 (h2.imp_right .inr), c, by rw [hs _ e (.inr (.inl rfl))]; exact d, by omega⟩
theorem Jn.up (hr : Jn N p m bh G vl vg vf s but B H1) (hg : Grew H1 H2) : Jn N p m bh G vl vg vf s but B H2 := hr.keep hg.next fun b hb _ => hg.get b hb
theorem Jn.weak (hr : Jn N p m bh G vl vg vf s but B H1) (h : ∀ b, G b → G' b) : Jn N p m bh G' vl vg vf s but B H1 := ⟨hr.base, hr.rdy.weak h, hr.bhn, hr.box, hr.lt⟩
theorem Jn.sharp (hr : Jn N p m bh G vl vg vf s but B H1) : Jn N p m bh (fun b => G b ∧ b ≠ H1.next) vl vg vf s but B H1 := ⟨hr.base, hr.rdy.sharp, hr.bhn, hr.box, hr.lt⟩
theorem Jn.can (hr : Jn N p m bh G vl vg vf s but B H1) (hg : GrewBut m H1 H2) (h2 : Rdy N p m G vl vg vf s but H2) : Jn N p m bh G vl vg vf s but B H2 := by
  have h1 := hr.rdy.nle
  have h3 := hr.rdy.mlt
  have h4 := hr.bhn
  have h5 := hr.lt
  have := hg.next
  exact ⟨fun k a b => by rw [hg.get k (by omega) b]; exact hr.base k a b, h2, hr.bhn, by rw [hg.get _ h5 (by omega)]; exact hr.box, by omega⟩
end
structure Run (l bh bf bn bd by_ p : Nat) (H : AH) : Prop where
  lt : l < bf ∧ l < bn ∧ l < bd ∧ l < by_
  ne : bf ≠ bn ∧ bf ≠ bd ∧ bf ≠ by_
  bnd : bf < H.next ∧ bn < H.next ∧ bd < H.next ∧ by_ < H.next
  next : H.get bn = some (.cells false [.func 88 [] [.ptr bh 0, .ptr bf 0, .ptr bn 0, .ptr bd 0, .ptr by_ 0]])
  so : H.get bd = some (.cells false [.func 87 [.ptr p 0] []])
  yld : H.get by_ = some (.cells false [.yield l])
theorem Run.keep {l bh bf bn bd by_ p : Nat} {H1 H2 : AH} (hr : Run l bh bf bn bd by_ p H1) (hn : H1.next ≤ H2.next) (hs : ∀ b, l < b → b < H1.next → b ≠ bf → H2.get b = H1.get b) : Run l bh bf bn bd by_ p H2 := by
  obtain ⟨⟨a1, a2, a3, a4⟩, ⟨b1, b2, b3⟩, ⟨c1, c2, c3, c4⟩, d1, d2, d3⟩ := hr
  exact ⟨⟨a1, a2, a3, a4⟩, ⟨b1, b2, b3⟩, ⟨by omega, by omega, by omega, by omega⟩, by rw [hs _ a2 c2 (Ne.symm b1)]; exact d1, by rw [hs _ a3 c3 (Ne.symm b2)]; exact d2, by rw [hs _ a4 c4 (Ne.symm b3)]; exact d3⟩
theorem flat_write {x : Int × Int} : ∀ {q : List (Int × Int)} {k : Nat}, k < q.length → writeN (flat q) (k * 2) [I x.1, I x.2] = some (flat (q.set k x))
  | [], _, h => by simp at h
  | a :: q, 0, _ => by simp [flat, writeN, writeN_nil]
  | a :: q, k + 1, h => by
    have ih := flat_write (x := x) (q := q) (k := k) (by simpa using h)
    rw [show (k + 1) * 2 = k * 2 + 1 + 1 from by omega]
    simp only [flat, List.flatMap_cons, List.cons_append, List.nil_append, writeN, List.set_cons_succ] at ih ⊢
    rw [ih]; rfl
structure Fac (n bf : Nat) (pre : List (Int × Int)) (H : AH) : Prop where
  ex : ∃ q : List (Int × Int), q.length = 4 ∧ q.take pre.length = pre ∧ (∀ j, n ≤ j → j < 3 → getN q j = nob) ∧ H.get bf = some (.cells false (flat q))
theorem Fac.push {n bf : Nat} {pre : List (Int × Int)} {H : AH} (hf : Fac n bf pre H) (hn : pre.length < n) (h3 : n ≤ 3) (x : Int × Int) : ∃ vs vs', H.get bf = some (.cells false vs) ∧ writeN vs (pre.length * 2) [I x.1, I x.2] = some vs' ∧ Fac n bf (pre ++ [x]) (H.set bf (.cells false vs')) := by
  obtain ⟨q, h1, h2, h4, h5⟩ := hf
  refine ⟨_, _, h5, flat_write (by omega), ⟨q.set pre.length x, by simp [h1], ?_, fun j hj h3 => ?_, get_set_same _ _ _⟩⟩
  · rw [List.length_append, List.length_singleton, List.take_succ_eq_append_getElem (by simp; omega), List.getElem_set_self, List.take_set_of_le (Nat.le_refl _), h2]
  · have := h4 j hj h3
    unfold getN at this ⊢
    rw [List.getD_eq_getElem?_getD, List.getElem?_set_ne (by omega), ← List.getD_eq_getElem?_getD]; exact this
theorem Fac.pop {n bf : Nat} {pre : List (Int × Int)} {x : Int × Int} {H : AH} (hf : Fac n bf (pre ++ [x]) H) : Fac n bf pre H := by
  obtain ⟨q, h1, h2, h4, h5⟩ := hf
  refine ⟨q, h1, ?_, h4, h5⟩
  have := congrArg (List.take pre.length) h2
  rw [List.take_take, Nat.min_eq_left (by simp)] at this
  simpa using this
theorem Fac.same {n bf : Nat} {pre : List (Int × Int)} {H H' : AH} (hf : Fac n bf pre H) (h : H'.get bf = H.get bf) : Fac n bf pre H' := by
  obtain ⟨q, h1, h2, h4, h5⟩ := hf
  exact ⟨q, h1, h2, h4, by rw [h]; exact h5⟩
theorem Fac.last {n bf : Nat} {pre : List (Int × Int)} {H : AH} (hf : Fac n bf pre H) (hn : pre.length = n) (h3 : n ≤ 3) (m : Option (Int × Int)) : ∃ vs, H.get bf = some (.cells false vs) ∧ writeN vs 6 [I (m.getD nob).1, I (m.getD nob).2] = some (flat (sp (pre, m))) ∧ Fac n bf pre (H.set bf (.cells false (flat (sp (pre, m))))) := by
  obtain ⟨q, h1, h2, h4, h5⟩ := hf
  have hq : ∀ j, j < 3 → getN q j = getN pre j := fun j hj => by
    by_cases hjn : j < n
    · have := congrArg (fun l : List (Int × Int) => l.getD j nob) h2
      simp only [List.getD_eq_getElem?_getD, List.getElem?_take] at this
      rw [if_pos (by omega)] at this
      simpa [getN, List.getD_eq_getElem?_getD] using this
    · rw [h4 j (by omega) hj]
      simp [getN, List.getD_eq_getElem?_getD, List.getElem?_eq_none (show pre.length ≤ j by omega)]
  have hset : q.set 3 (m.getD nob) = sp (pre, m) := by
    match q, h1 with
    | [a, b, c, d], _ =>
      have e0 := hq 0 (by omega)
      have e1 := hq 1 (by omega)
      have e2 := hq 2 (by omega)
      simp only [sp, ← e0, ← e1, ← e2]; rfl
  refine ⟨_, h5, by rw [← hset]; exact flat_write (k := 3) (by omega), ⟨sp (pre, m), rfl, ?_, fun j hj h3' => ?_, get_set_same _ _ _⟩⟩
  · rw [← hset, List.take_set_of_le (by omega)]; exact h2
  · have := h4 j hj h3'
    rw [← hset]
    unfold getN at this ⊢
    rw [List.getD_eq_getElem?_getD, List.getElem?_set_ne (by omega), ← List.getD_eq_getElem?_getD]; exact this
theorem okS_stays {s : Series} {bits : Int} (hl : s.len ≤ 8) {x : Int × Int} (h : x ∈ staysE s bits) : okS x := by
  obtain ⟨lo, hi, h1, h2, _, rfl⟩ := mem_stays.1 h
  exact ⟨by simp, by simp only; omega, by simp only; omega⟩
theorem okS_nob : okS nob := ⟨by decide, by decide, by decide⟩
theorem okS_getN {l : List (Int × Int)} (h : ∀ x ∈ l, okS x) (k : Nat) : okS (getN l k) := by
  unfold getN
  rw [List.getD_eq_getElem?_getD]
  by_cases hk : k < l.length
  · rw [List.getElem?_eq_getElem hk]; exact h _ (List.getElem_mem hk)
  · rw [List.getElem?_eq_none (by omega)]; exact okS_nob
theorem okS_more {s : Series} (hl : s.len ≤ 8) {m : Option (Int × Int)} (h : m ∈ moreE s) : okS (m.getD nob) := by
  rcases mem_moreE.1 h with rfl | ⟨_, x, hx, rfl⟩
  · exact okS_nob
  · exact okS_stays hl hx
theorem okS_sp {pre : List (Int × Int)} {m : Option (Int × Int)} (h1 : ∀ x ∈ pre, okS x) (h2 : okS (m.getD nob)) : ∀ x ∈ sp (pre, m), okS x := by
  intro x hx
  simp only [sp, List.mem_cons, List.not_mem_nil, or_false] at hx
  rcases hx with rfl | rfl | rfl | rfl
  · exact okS_getN h1 _
  · exact okS_getN h1 _
  · exact okS_getN h1 _
  · exact h2
theorem pNumbers_run (v0 : AV) (t : Truth) (hq : ∀ x ∈ sp t, okS x) (k : ∀ H', Grew H H' → R (.agg (arr8 (cntE (sp t)))) H') : CallQ prog (.func 90 [] []) [v0, .agg (flat (sp t))] H R := numbers_run' v0 _ _ _ _ hq k
end Go.Proofs.Ytihahmggfjjkjaa
namespace Go.Proofs.Ytihahmggfjjkjaa
open Go.AM Go.IntWalk Go.PL
set_option maxRecDepth 100000
set_option maxHeartbeats 4000000
set_option linter.unusedSimpArgs false
variable {H : AH} {R : AV → AH → Prop}
theorem moreN_eq {s : Series} : (moreE s).map (·.getD nob) = nob :: (if s.unseen then staysE s 0 else []) := by
  unfold moreE
  split
  · simp only [List.map_cons, List.map_map, Option.getD_none]
    congr 1
    exact List.map_id _
  · rfl
theorem eight_flat (t : Truth) : flat (sp t) = [I (getN t.1 0).1, I (getN t.1 0).2, I (getN t.1 1).1, I (getN t.1 1).2, I (getN t.1 2).1, I (getN t.1 2).2, I (t.2.getD nob).1, I (t.2.getD nob).2] := rfl
section
variable {N p m bh l bf bn bd by_ : Nat} {vl vg vf : AV} {s : Series} {but : Nat} {B : AH}
def NextEnd (N p m bh l bf : Nat) (vl vg vf : AV) (s : Series) (but : Nat) (B : AH) (Y : List (List AV) → AH → Prop) (S : AH → Prop) (pre : List (Int × Int)) (all : List (List AV)) (H1 : AH) (R : AV → AH → Prop) : Prop :=
  ∀ v H2, H1.next ≤ H2.next → Jn N p m bh (fun b => l < b ∧ b ≠ bf) vl vg vf s but B H2 → (∀ b, l < b → b < H1.next → b ≠ bf → H2.get b = H1.get b) → Fac s.groups.length bf pre H2 →
    ((v = .bool true ∧ Y all H2) ∨ (v = .bool false ∧ S H2)) → R v H2
theorem next_end (hfine : Fine s) (hbut : but < 1000) (hl : bh < l)
    (Y : List (List AV) → AH → Prop) (S : AH → Prop) (hY : ∀ done, On (Kh N bh) (l + 1) (Y done))
    (hy : ∀ done a rest H1, yields s but = done ++ a :: rest → l < H1.next → Jn N p m bh (fun b => l < b) vl vg vf s but B H1 → Y done H1 →
      CallQ prog (.yield l) a H1 fun v H2 => Kept (Kh N bh) l H1 H2 ∧ ((v = .bool true ∧ Y (done ++ [a]) H2) ∨ (v = .bool false ∧ S H2)))
    (pre : List (Int × Int)) (done rest : List (List AV)) (H1 : AH) (hk : pre.length = s.groups.length) (hpre : ∀ x ∈ pre, okS x)
    (hL : yields s but = done ++ (from_ s but pre).map argT ++ rest) (hlt : l < H1.next) (hr : Jn N p m bh (fun b => l < b ∧ b ≠ bf) vl vg vf s but B H1) (hrun : Run l bh bf bn bd by_ p H1) (hfac : Fac s.groups.length bf pre H1) (hyd : Y done H1)
    (kk : NextEnd N p m bh l bf vl vg vf s but B Y S pre (done ++ (from_ s but pre).map argT) H1 R) :
    CallQ prog (.func 88 [] [.ptr bh 0, .ptr bf 0, .ptr bn 0, .ptr bd 0, .ptr by_ 0]) [I pre.length] H1 R := by
  have hl8 := hfine.len.2
  have hg3 := hfine.gl
  have hold := hr.rdy.old
  have hbox := hr.box
  have hbox2 := hr.rdy.box
  have hn1 := hrun.bnd
  have hn2 := hrun.lt
  have hbhlt := hr.lt
  have hpl := hr.rdy.plt
  have hbn := hr.bhn
  have hml := hr.rdy.mlt
  have hnl := hr.rdy.nle
  have hfl : ¬ (s.groups.length : Int) < s.groups.length := by omega
  have hend := from_end (but := but) hk
  have hml65 : (moreE s).length ≤ 65 := by
    rw [moreE_eq, List.length_cons, List.length_map]
    have := moreS_length hl8
    omega
  rw [hk]
  refine CallQ_enter (fn:=c88) rfl (Nat.le_of_ble_eq_true rfl) ?_;simp(maxSteps:=9999999)(disch:=first|omega|(simp only[AN];omega))only[c88,envFrom,hbox,hbox2,hold.g.len,hfl,↓KP,EN,↓reduceIte,reduceCtorEq,Nat.reduceEqDiff,Nat.reduceAdd,Nat.reduceLeDiff,Nat.reduceMul]
  first|refine C_call ?_|refine C_calld ?_
  refine nobody_run fun H2 hg2 => ?_
  have hg2n:=hg2.next;try simp only[AN]at hg2n
  simp(maxSteps:=9999999)(disch:=first|omega|(simp only[AN];omega))only[hg2.get,hbox,hbox2,↓KP,EN,↓reduceIte,reduceCtorEq,Nat.reduceEqDiff,Nat.reduceAdd,Nat.reduceLeDiff,Nat.reduceMul]
  have hr2 := ((hr.up hg2).sharp).up ((Grew.refl H2).alloc (.cells false [I 0, I (-1)]))
  have hm0 : Mine 2 EP (fun _ => False) H1.next (H2.alloc (.cells false [I 0, I (-1)])) (.slice H2.next 0 1 2) [nob] := .inr ⟨H2.next, 0, [I 0, I (-1)], [I 0, I (-1)], rfl, by omega, by simp, get_alloc_new _ _, rfl, Rows.single rfl rfl⟩
  have hs2 : ∀ b, b < H1.next → (H2.alloc (.cells false [I 0, I (-1)])).get b = H1.get b := fun b hb => by simp(maxSteps:=9999999)(disch:=first|omega|(simp only[AN];omega))only[hg2.get,↓KP,EN,↓reduceIte,reduceCtorEq,Nat.reduceEqDiff,Nat.reduceAdd,Nat.reduceLeDiff,Nat.reduceMul]
  have hn2' : H2.next < (H2.alloc (.cells false [I 0, I (-1)])).next := by simp
  generalize hH3 : H2.alloc (.cells false [I 0, I (-1)]) = H3 at *
  refine C_join (fun e' H' => ∃ (v10 : AV) (tail : Env), e' = (0, I s.groups.length) :: (1, .ptr bh 0) :: (2, .ptr bf 0) :: (3, .ptr bn 0) :: (4, .ptr bd 0) :: (5, .ptr by_ 0) :: (7, .bool false) :: tail ∧ tail.get 10 = some v10 ∧ H1.next ≤ H'.next ∧ Jn N p m bh (fun b => l < b ∧ b ≠ bf) vl vg vf s but B H' ∧ (∀ b, N ≤ b → b < H1.next → H'.get b = H1.get b) ∧ Mine 2 EP (fun _ => False) H1.next H' v10 ((moreE s).map (·.getD nob))) ?_ ?_
  · have hmn := moreN_eq (s := s)
    cases hu : s.unseen with
    | true =>
      rw [hu, if_pos rfl] at hmn
      simp(maxSteps:=9999999)(disch:=first|omega|(simp only[AN];omega))only[hr2.box,↓KP,EN,↓reduceIte,reduceCtorEq,Nat.reduceEqDiff,Nat.reduceAdd,Nat.reduceLeDiff,Nat.reduceMul]
      first|refine C_call ?_|refine C_calld ?_
      refine can_run 0 (by omega) hfine hr2.rdy (fun b hb => ⟨⟨by omega, by omega⟩, by omega⟩) fun H4 v hg4 hr4 hv => ?_
      have hg4n := hg4.next
      have hst := staysE_length (s := s) (bits := ((0 : Nat) : Int)) hl8
      have hm4 : Mine 2 EP (fun _ => False) H1.next H4 (.slice H2.next 0 1 2) [nob] := hm0.move EP.stays (fun k hk hp => hg4.get k hk (by have := hp.elim False.elim id; omega)) hg4n
      have hj4 := hr2.can hg4 hr4
      obtain ⟨cells, hsr, hrow⟩ := hv.src
      obtain ⟨v', H5, u1, u2, u3, u4⟩ := hm4.append (bytes := 16) (x := v) (l2 := staysE s ((0 : Nat) : Int)) EP.stays (by omega) hv.lenA hsr (hrow.mono fun cs a h => h) (hrow.allCell (fun cs a h => EP.isCell _ _ _ _ h)) (by simp only [List.length_singleton, roomA]; omega)
      have hj5 : Jn N p m bh (fun b => l < b ∧ b ≠ bf) vl vg vf s but B H5 := (hj4.keep u3 fun b hb hc => u4 b hb (fun i n y e => by
        simp only [AV.slice.injEq] at e
        rcases hc with h | h | h
        · omega
        · omega
        · exact h.2 e.1.symm)).weak fun b h => h.1
      simp(maxSteps:=9999999)(disch:=first|omega|(simp only[AN];omega))only[u1,↓KP,EN,↓reduceIte,reduceCtorEq,Nat.reduceEqDiff,Nat.reduceAdd,Nat.reduceLeDiff,Nat.reduceMul]
      refine K_joined ⟨v', _, rfl, by simp(maxSteps:=9999999)(disch:=first|omega|(simp only[AN];omega))only[↓KP,EN,↓reduceIte,reduceCtorEq,Nat.reduceEqDiff,Nat.reduceAdd,Nat.reduceLeDiff,Nat.reduceMul], by omega, hj5, fun b h1 h2 => ?_, by rw [hmn]; exact u2⟩
      rw [u4 b (by omega) (fun i n y e => by simp only [AV.slice.injEq] at e; omega), hg4.get b (by omega) (by omega), hs2 b h2]
    | false =>
      rw [hu, if_neg (by simp)] at hmn
      simp(maxSteps:=9999999)(disch:=first|omega|(simp only[AN];omega))only[↓KP,EN,↓reduceIte,reduceCtorEq,Nat.reduceEqDiff,Nat.reduceAdd,Nat.reduceLeDiff,Nat.reduceMul]
      exact K_joined ⟨.slice H2.next 0 1 2, _, rfl, by simp(maxSteps:=9999999)(disch:=first|omega|(simp only[AN];omega))only[↓KP,EN,↓reduceIte,reduceCtorEq,Nat.reduceEqDiff,Nat.reduceAdd,Nat.reduceLeDiff,Nat.reduceMul], by omega, hr2.weak fun b h => h.1, fun b _ h2 => hs2 b h2, by rw [hmn]; exact hm0⟩
  · rintro e' Hj ⟨v10, tail, rfl, f10, hnj, hrj, hsj, hmj⟩
    have hslj := hmj.slF EP.stays
    have hx := fun (i : Nat) (hi : i < (moreE s).length) => okS_more hl8 (List.getElem_mem hi)
    have hYj : Y done Hj := hY done H1 Hj hnj (fun b h1 h2 => hsj b (Kh.not h1).1 (by omega)) hyd
    have hfacj : Fac s.groups.length bf pre Hj := hfac.same (hsj _ (by omega) hn1.1)
    have hlenm : ((moreE s).map (·.getD nob)).length = (moreE s).length := List.length_map _
    rw [hend] at kk hL
    generalize hM : moreE s = M at *
    simp(maxSteps:=9999999)(disch:=first|omega|(simp only[AN];omega))only[f10,hmj.len,hlenm,↓KP,EN,↓reduceIte,reduceCtorEq,Nat.reduceEqDiff,Nat.reduceAdd,Nat.reduceLeDiff,Nat.reduceMul]
    refine K_loop (fun mz ez H5 => ∃ (j : Nat) (tail : Env), ez = (0, I s.groups.length) :: (1, .ptr bh 0) :: (2, .ptr bf 0) :: (3, .ptr bn 0) :: (4, .ptr bd 0) :: (5, .ptr by_ 0) :: (7, .bool false) :: tail ∧ (tail.get 57 = some v10) ∧ (tail.get 58 = some (I M.length)) ∧ (tail.get 59 = some (I j)) ∧ (Hj.next ≤ H5.next) ∧ (Jn N p m bh (fun b => l < b ∧ b ≠ bf) vl vg vf s but B H5) ∧ (∀ b, l < b → b < Hj.next → b ≠ bf → H5.get b = Hj.get b) ∧ (Fac s.groups.length bf pre H5) ∧ (Y (done ++ (((M.take j).map fun m => (pre, m)).filter (okB s but)).map argT) H5) ∧ (j ≤ M.length) ∧ mz = M.length - j) _ ⟨0, _, rfl, ?_, ?_, ?_, ?_, ?_, (by intro b _ _ _; rfl), ?_, (by simpa using hYj), ?_, rfl⟩ ?_
    iterate 7 (focus (first|(with_reducible rfl)|omega|(with_reducible(repeat first|exact Grew.refl _|assumption|apply Grew.alloc|refine Grew.set ?_ _ (by first|omega|(simp only[AN];omega)));done)|(simp(maxSteps:=9999999)(disch:=first|omega|(simp only[AN];omega))only[↓KP,EN,↓reduceIte,reduceCtorEq,Nat.reduceEqDiff,Nat.reduceAdd,Nat.reduceLeDiff,Nat.reduceMul]<;>first|omega|rfl)|(simp;done)|rfl))
    rintro mz ez H5 ⟨j, tail, rfl, f57, f58, f59, hn5, hr5, hs5, hf5, hy5, hj, hmz⟩; subst mz
    simp(maxSteps:=9999999)(disch:=first|omega|(simp only[AN];omega))only[f58,f59,↓KP,EN,↓reduceIte,reduceCtorEq,Nat.reduceEqDiff,Nat.reduceAdd,Nat.reduceLeDiff,Nat.reduceMul]
    refine C_decide (fun hc => ?_) (fun hc => ?_)
    · have hrun5 : Run l bh bf bn bd by_ p H5 := hrun.keep (by omega) fun b h1 h2 h3 => by rw [hs5 b h1 (by omega) h3, hsj b (by omega) h2]
      have hn5' := hrun5.bnd
      have hne5 := hrun5.ne
      have hj' : j < M.length := by omega
      have e1 : IntKind.i64.wrap ((j : Int) + 1) = ((j + 1 : Nat) : Int) := i64_in _ (by omega)
      have hsl5 : IsSl 2 EP (Old H5) H5 v10 (M.map (·.getD nob)) := hslj.move EP.stays fun b hb => ⟨by show b < H5.next; omega, hs5 b (by have := hb.2.elim False.elim id; omega) hb.1 (by have := hb.2.elim False.elim id; omega)⟩
      obtain ⟨pb, pi, pro, pvs, plt, q⟩ := rdP hsl5 (k := j) rfl (by rw [hlenm]; exact hj')
      simp only [List.getElem_map] at q
      have hox := hx j hj'
      obtain ⟨vs, w1, w2, w3⟩ := hf5.last hk hg3 M[j]
      have hix : ∀ S, opIdxArr 4 2 (.ptr bf 0) (.int .i64 3) S = some (.ptr bf 6, S) := fun S => rfl
      have hfe : (M.take (j + 1)).map (fun m => (pre, m)) = (M.take j).map (fun m => (pre, m)) ++ [(pre, M[j])] := map_take_succ hj'
      have hsplit : M = M.take j ++ (M[j] :: M.drop (j + 1)) := by rw [← List.drop_eq_getElem_cons hj', List.take_append_drop]
      have hbx5 := hr5.box
      have hbx52 := hr5.rdy.box
      have hlt5 := hr5.lt
      have hsp := okS_sp hpre hox
      have hef := eight_flat (pre, M[j])
      generalize M[j] = mj at *
      rw [hef] at w2 w3
      simp(maxSteps:=9999999)(disch:=first|omega|(simp only[AN];omega))only[f57,f58,f59,q,hix,w1,w2,hbx5,hbx52,↓KP,EN,↓reduceIte,reduceCtorEq,Nat.reduceEqDiff,Nat.reduceAdd,Nat.reduceLeDiff,Nat.reduceMul]
      generalize hHs : ((H5.alloc (.cells false [.int .i64 0, .int .i64 0])).set H5.next (.cells false [I (mj.getD nob).1, I (mj.getD nob).2])).set bf _ = Hs
      have hsn : H5.next < Hs.next := by rw [← hHs]; simp(maxSteps:=9999999)(disch:=first|omega|(simp only[AN];omega))only[↓KP,EN,↓reduceIte,reduceCtorEq,Nat.reduceEqDiff,Nat.reduceAdd,Nat.reduceLeDiff,Nat.reduceMul]; omega
      have hss : ∀ b, b < H5.next → b ≠ bf → Hs.get b = H5.get b := fun b h1 h2 => by rw [← hHs]; simp(maxSteps:=9999999)(disch:=first|omega|(simp only[AN];omega))only[↓KP,EN,↓reduceIte,reduceCtorEq,Nat.reduceEqDiff,Nat.reduceAdd,Nat.reduceLeDiff,Nat.reduceMul]
      have hbs : Hs.get bf = some (.cells false (flat (sp (pre, mj)))) := by rw [← hHs, hef]; simp(maxSteps:=9999999)(disch:=first|omega|(simp only[AN];omega))only[↓KP,EN,↓reduceIte,reduceCtorEq,Nat.reduceEqDiff,Nat.reduceAdd,Nat.reduceLeDiff,Nat.reduceMul]
      have hrs : Jn N p m bh (fun b => l < b ∧ b ≠ bf) vl vg vf s but B Hs := hr5.keep (by omega) fun b h1 h2 => hss b h1 (by rcases h2 with h | h | h; omega; omega; exact h.2)
      have hfs : Fac s.groups.length bf pre Hs := w3.same (by rw [hbs, hef]; simp(maxSteps:=9999999)(disch:=first|omega|(simp only[AN];omega))only[↓KP,EN,↓reduceIte,reduceCtorEq,Nat.reduceEqDiff,Nat.reduceAdd,Nat.reduceLeDiff,Nat.reduceMul])
      clear hHs
      first|refine C_call ?_|refine C_calld ?_
      refine pNumbers_run _ (pre, mj) hsp fun H6 hg6 => ?_
      have hg6n:=hg6.next;try simp only[AN]at hg6n
      simp only [arr8]
      simp(maxSteps:=9999999)(disch:=first|omega|(simp only[AN];omega))only[hg6.get,hss,hrun5.so,↓KP,EN,↓reduceIte,reduceCtorEq,Nat.reduceEqDiff,Nat.reduceAdd,Nat.reduceLeDiff,Nat.reduceMul]
      have hr6 := hrs.up hg6
      have hbx6 := hr6.box
      first|refine C_call ?_|refine C_calld ?_
      refine so_run (cntE (sp (pre, mj))) hbut hfine ((hr6.up GW).rdy) fun H7 hg7 => ?_
      have hg7n := hg7.next; simp only [AN] at hg7n
      have hr7 := (hr6.up (H2 := (H6.alloc (.cells false [I 0, I 0, I 0, I 0, I 0, I 0, I 0, I 0])).set H6.next (.cells false (arr8 (cntE (sp (pre, mj)))))) GW).up hg7
      have hk7 : ∀ b, b < Hs.next → H7.get b = Hs.get b := fun b hb => by simp(maxSteps:=9999999)(disch:=first|omega|(simp only[AN];omega))only[hg7.get,hg6.get,↓KP,EN,↓reduceIte,reduceCtorEq,Nat.reduceEqDiff,Nat.reduceAdd,Nat.reduceLeDiff,Nat.reduceMul]
      have hs7 : ∀ b, l < b → b < Hj.next → b ≠ bf → H7.get b = Hj.get b := fun b h1 h2 h3 => by rw [hk7 b (by omega), hss b (by omega) h3, hs5 b h1 h2 h3]
      have hf7 : Fac s.groups.length bf pre H7 := hfs.same (hk7 _ (by omega))
      have hy7 : Y (done ++ (((M.take j).map fun m => (pre, m)).filter (okB s but)).map argT) H7 := hY _ H5 H7 (by omega) (fun b h1 h2 => by rw [hk7 b (by omega), hss b (by omega) (by omega)]) hy5
      have hfil : (((M.take (j + 1)).map fun m => (pre, m)).filter (okB s but)).map argT = (((M.take j).map fun m => (pre, m)).filter (okB s but)).map argT ++ (if okB s but (pre, mj) then [argT (pre, mj)] else []) := by
        rw [hfe, List.filter_append, List.map_append, List.filter_cons, List.filter_nil]
        split <;> rfl
      cases hok : soF s but (cntE (sp (pre, mj))) with
      | false =>
        rw [if_neg (by rw [okB, hok]; simp), List.append_nil] at hfil
        simp(maxSteps:=9999999)(disch:=first|omega|(simp only[AN];omega))only[f57,f58,f59,e1,↓KP,EN,↓reduceIte,reduceCtorEq,Nat.reduceEqDiff,Nat.reduceAdd,Nat.reduceLeDiff,Nat.reduceMul]
        refine ⟨_, ?_, j + 1, _, rfl, ?_, ?_, ?_, (by omega), (by exact hr7), (by exact hs7), (by exact hf7), (by rw [hfil]; exact hy7), ?_, rfl⟩ <;> (first|omega|(with_reducible assumption)|(with_reducible(repeat first|exact Grew.refl _|assumption|apply Grew.alloc|refine Grew.set ?_ _ (by first|omega|(simp only[AN];omega)));done)|(simp(maxSteps:=9999999)(disch:=first|omega|(simp only[AN];omega))only[f57,f58,f59,↓KP,EN,↓reduceIte,reduceCtorEq,Nat.reduceEqDiff,Nat.reduceAdd,Nat.reduceLeDiff,Nat.reduceMul]<;>first|omega|rfl))
      | true =>
        rw [if_pos (by rw [okB, hok])] at hfil
        have hbf7 : H7.get bf = some (.cells false (flat (sp (pre, mj)))) := by rw [hk7 _ (by omega), hbs]
        have hy7' : H7.get by_ = some (.cells false [.yield l]) := by rw [hk7 _ (by omega), hss _ (by omega) (by omega)]; exact hrun5.yld
        have hcs : H7.get H6.next = some (.cells false (arr8 (cntE (sp (pre, mj))))) := by simp(maxSteps:=9999999)(disch:=first|omega|(simp only[AN];omega))only[hg7.get,↓KP,EN,↓reduceIte,reduceCtorEq,Nat.reduceEqDiff,Nat.reduceAdd,Nat.reduceLeDiff,Nat.reduceMul]; rfl
        rw [eight_flat] at hbf7
        simp only [arr8] at hcs
        simp(maxSteps:=9999999)(disch:=first|omega|(simp only[AN];omega))only[f57,f58,f59,hbf7,hy7',hcs,↓KP,EN,↓reduceIte,reduceCtorEq,Nat.reduceEqDiff,Nat.reduceAdd,Nat.reduceLeDiff,Nat.reduceMul]
        first|refine C_call ?_|refine C_calld ?_
        refine (hy (done ++ (((M.take j).map fun m => (pre, m)).filter (okB s but)).map argT) (argT (pre, mj)) ((((M.drop (j + 1)).map fun m => (pre, m)).filter (okB s but)).map argT ++ rest) H7 ?_ (by omega) (hr7.weak fun b h => h.1) hy7).mono fun v H8 hv => ?_
        · rw [hL]
          conv => lhs; rw [hsplit]
          rw [List.map_append, List.map_cons, List.filter_append, List.filter_cons, if_pos (by rw [okB, hok])]
          simp only [List.map_append, List.map_cons, List.append_assoc, List.cons_append]
        · obtain ⟨⟨k1, k2⟩, hor⟩ := hv
          have hr8 : Jn N p m bh (fun b => l < b ∧ b ≠ bf) vl vg vf s but B H8 := hr7.keep k1 fun b h1 h2 => k2 b h1 (by rcases h2 with h | h | h; exact .inl (.inl h); exact .inl (.inr h); exact .inr h.1)
          have hs8 : ∀ b, l < b → b < Hj.next → b ≠ bf → H8.get b = Hj.get b := fun b h1 h2 h3 => by rw [k2 b (by omega) (.inr h1), hs7 b h1 h2 h3]
          have hf8 : Fac s.groups.length bf pre H8 := hf7.same (k2 _ (by omega) (.inr (by omega)))
          rcases hor with ⟨rfl, hyt⟩ | ⟨rfl, hSt⟩
          · simp(maxSteps:=9999999)(disch:=first|omega|(simp only[AN];omega))only[f57,f58,f59,e1,↓KP,EN,↓reduceIte,reduceCtorEq,Nat.reduceEqDiff,Nat.reduceAdd,Nat.reduceLeDiff,Nat.reduceMul]
            refine ⟨_, ?_, j + 1, _, rfl, ?_, ?_, ?_, (by omega), (by exact hr8), (by exact hs8), (by exact hf8), (by rw [hfil, ← List.append_assoc]; exact hyt), ?_, rfl⟩ <;> (first|omega|(with_reducible assumption)|(with_reducible(repeat first|exact Grew.refl _|assumption|apply Grew.alloc|refine Grew.set ?_ _ (by first|omega|(simp only[AN];omega)));done)|(simp(maxSteps:=9999999)(disch:=first|omega|(simp only[AN];omega))only[f57,f58,f59,↓KP,EN,↓reduceIte,reduceCtorEq,Nat.reduceEqDiff,Nat.reduceAdd,Nat.reduceLeDiff,Nat.reduceMul]<;>first|omega|rfl))
          · simp(maxSteps:=9999999)(disch:=first|omega|(simp only[AN];omega))only[↓KP,EN,↓reduceIte,reduceCtorEq,Nat.reduceEqDiff,Nat.reduceAdd,Nat.reduceLeDiff,Nat.reduceMul]
            exact kk _ _ (by omega) hr8 (fun b h1 h2 h3 => by rw [hs8 b h1 (by omega) h3, hsj b (by omega) h2]) hf8 (.inr ⟨rfl, hSt⟩)
    · have hje : j = M.length := by omega
      subst hje
      rw [List.take_length] at hy5
      simp(maxSteps:=9999999)(disch:=first|omega|(simp only[AN];omega))only[↓KP,EN,↓reduceIte,reduceCtorEq,Nat.reduceEqDiff,Nat.reduceAdd,Nat.reduceLeDiff,Nat.reduceMul]
      exact kk _ _ (by omega) hr5 (fun b h1 h2 h3 => by rw [hs5 b h1 (by omega) h3, hsj b (by omega) h2]) hf5 (.inl ⟨rfl, hy5⟩)
end
end Go.Proofs.Ytihahmggfjjkjaa
namespace Go.Proofs.Ytihahmggfjjkjaa
open Go.AM Go.IntWalk Go.PL
set_option maxRecDepth 100000
set_option maxHeartbeats 4000000
set_option linter.unusedSimpArgs false
variable {H : AH} {R : AV → AH → Prop}
variable {N p m bh l bf bn bd by_ : Nat} {vl vg vf : AV} {s : Series} {but : Nat} {B : AH}
theorem next_run (hfine : Fine s) (hbut : but < 1000) (hl : bh < l)
    (Y : List (List AV) → AH → Prop) (S : AH → Prop) (hY : ∀ done, On (Kh N bh) (l + 1) (Y done))
    (hy : ∀ done a rest H1, yields s but = done ++ a :: rest → l < H1.next → Jn N p m bh (fun b => l < b) vl vg vf s but B H1 → Y done H1 →
      CallQ prog (.yield l) a H1 fun v H2 => Kept (Kh N bh) l H1 H2 ∧ ((v = .bool true ∧ Y (done ++ [a]) H2) ∨ (v = .bool false ∧ S H2))) :
    ∀ (k : Nat) (pre : List (Int × Int)) (done rest : List (List AV)) (H1 : AH) (R : AV → AH → Prop), pre.length + k = s.groups.length → (∀ x ∈ pre, okS x) →
      yields s but = done ++ (from_ s but pre).map argT ++ rest → l < H1.next → Jn N p m bh (fun b => l < b ∧ b ≠ bf) vl vg vf s but B H1 → Run l bh bf bn bd by_ p H1 → Fac s.groups.length bf pre H1 → Y done H1 →
      NextEnd N p m bh l bf vl vg vf s but B Y S pre (done ++ (from_ s but pre).map argT) H1 R →
      CallQ prog (.func 88 [] [.ptr bh 0, .ptr bf 0, .ptr bn 0, .ptr bd 0, .ptr by_ 0]) [I pre.length] H1 R := by
  intro k
  have hl8 := hfine.len.2
  have hg3 := hfine.gl
  induction k with
  | zero =>
    intro pre done rest H1 R hk hpre hL hlt hr hrun hfac hyd kk
    exact next_end hfine hbut hl Y S hY hy pre done rest H1 (by omega) hpre hL hlt hr hrun hfac hyd kk
  | succ k ih =>
    intro pre done rest H1 R hk hpre hL hlt hr hrun hfac hyd kk
    have hp : pre.length < s.groups.length := by omega
    have hold := hr.rdy.old
    obtain ⟨q_b, q_i, q_ro, q_vs, q_lt, q⟩ := hold.g.rdInt (k := pre.length) rfl hp
    have hgr := hfine.g _ (List.getElem_mem hp)
    have hpw : 2 ^ s.len ≤ 2 ^ 8 := Nat.pow_le_pow_right (by omega) hl8
    have hgr2 : 1 ≤ s.groups[pre.length] ∧ s.groups[pre.length] ≤ 255 := by generalize 2 ^ s.len = q at *; omega
    clear hgr
    have hone := from_step (but := but) hp
    generalize hgn : s.groups[pre.length] = g at *
    obtain ⟨gn, rfl⟩ : ∃ n : Nat, g = n := ⟨g.toNat, by omega⟩
    have hc : (pre.length : Int) < s.groups.length := by omega
    have hbox := hr.box
    have hbox2 := hr.rdy.box
    have hn1 := hrun.bnd
    have hn2 := hrun.lt
    have hbhlt := hr.lt
    have hpl := hr.rdy.plt
    have hbn := hr.bhn
    have hml := hr.rdy.mlt
    have hnl := hr.rdy.nle
    have hst := staysE_length (s := s) (bits := (gn : Int)) hl8
    have hok := fun x (h : x ∈ staysE s (gn : Int)) => okS_stays hl8 h
    refine CallQ_enter (fn:=c88) rfl (Nat.le_of_ble_eq_true rfl) ?_;simp(maxSteps:=9999999)(disch:=first|omega|(simp only[AN];omega))only[c88,envFrom,hbox,hbox2,hold.g.len,hc,↓KP,EN,↓reduceIte,reduceCtorEq,Nat.reduceEqDiff,Nat.reduceAdd,Nat.reduceLeDiff,Nat.reduceMul]
    refine K_draw ?_
    simp(maxSteps:=9999999)(disch:=first|omega|(simp only[AN];omega))only[hbox,hbox2,q,↓KP,EN,↓reduceIte,reduceCtorEq,Nat.reduceEqDiff,Nat.reduceAdd,Nat.reduceLeDiff,Nat.reduceMul]
    refine C_calld ?_
    refine can_run gn (by omega) hfine hr.rdy (fun b hb => ⟨by omega, by omega⟩) fun Hc v hgc hrc hv => ?_
    have hgcn := hgc.next
    have hjc := hr.can hgc hrc
    generalize hX : staysE s (gn : Int) = X at *
    have hyc : Y done Hc := hY done H1 Hc hgcn (fun b h1 h2 => hgc.get b (by omega) (by have := (Kh.not h1).1; omega)) hyd
    simp(maxSteps:=9999999)(disch:=first|omega|(simp only[AN];omega))only[hv.len,↓KP,EN,↓reduceIte,reduceCtorEq,Nat.reduceEqDiff,Nat.reduceAdd,Nat.reduceLeDiff,Nat.reduceMul]
    refine K_loop (fun mz ez H2 => ∃ (i : Nat) (tail : Env), ez = (0, I pre.length) :: (1, .ptr bh 0) :: (2, .ptr bf 0) :: (3, .ptr bn 0) :: (4, .ptr bd 0) :: (5, .ptr by_ 0) :: (7, .bool false) :: tail ∧ (tail.get 31 = some v) ∧ (tail.get 32 = some (I X.length)) ∧ (tail.get 33 = some (I i)) ∧ (Hc.next ≤ H2.next) ∧ (Jn N p m bh (fun b => l < b ∧ b ≠ bf) vl vg vf s but B H2) ∧ (∀ b, l < b → b < Hc.next → b ≠ bf → H2.get b = Hc.get b) ∧ (Fac s.groups.length bf pre H2) ∧ (i ≤ X.length) ∧ (Y (done ++ ((X.take i).flatMap fun x => from_ s but (pre ++ [x])).map argT) H2) ∧ mz = X.length - i) _ ⟨0, _, rfl, ?_, ?_, ?_, ?_, ?_, (by intro b _ _ _; rfl), (by exact hfac.same (hgc.get _ hn1.1 (by omega))), ?_, (by simpa using hyc), rfl⟩ ?_
    iterate 6 (focus (first|(with_reducible rfl)|omega|(with_reducible(repeat first|exact Grew.refl _|assumption|apply Grew.alloc|refine Grew.set ?_ _ (by first|omega|(simp only[AN];omega)));done)|(simp(maxSteps:=9999999)(disch:=first|omega|(simp only[AN];omega))only[↓KP,EN,↓reduceIte,reduceCtorEq,Nat.reduceEqDiff,Nat.reduceAdd,Nat.reduceLeDiff,Nat.reduceMul]<;>first|omega|rfl)|(simp;done)|rfl))
    rintro mz ez H2 ⟨i, tail, rfl, f31, f32, f33, hn, hr2, hs2, hf2, hi, hy2, hmz⟩; subst mz
    simp(maxSteps:=9999999)(disch:=first|omega|(simp only[AN];omega))only[f32,f33,↓KP,EN,↓reduceIte,reduceCtorEq,Nat.reduceEqDiff,Nat.reduceAdd,Nat.reduceLeDiff,Nat.reduceMul]
    refine C_decide (fun hci => ?_) (fun hci => ?_)
    · have hi' : i < X.length := by omega
      have e1 : IntKind.i64.wrap ((i : Int) + 1) = ((i + 1 : Nat) : Int) := i64_in _ (by omega)
      have hv2 : IsSl 2 EP (Old H2) H2 v X := hv.move EP.stays fun b hb => ⟨by show b < H2.next; omega, by
        rcases hb.2.2 with h | h
        · rw [hr2.base b h hb.2.1, hjc.base b h hb.2.1]
        · exact hs2 b h.1 hb.1 h.2⟩
      obtain ⟨pb, pi, pro, pvs, plt, r⟩ := rdP hv2 (k := i) rfl hi'
      have hxo := hok _ (List.getElem_mem hi')
      have hsplit : X = X.take i ++ (X[i] :: X.drop (i + 1)) := by rw [← List.drop_eq_getElem_cons hi', List.take_append_drop]
      have htk : (X.take (i + 1)).flatMap (fun x => from_ s but (pre ++ [x])) = (X.take i).flatMap (fun x => from_ s but (pre ++ [x])) ++ from_ s but (pre ++ [X[i]]) := flatMap_take_succ hi'
      generalize X[i] = x at *
      obtain ⟨vs, vs', w1, w2, w3⟩ := hf2.push hp hg3 x
      have hrun2 : Run l bh bf bn bd by_ p H2 := hrun.keep (by omega) fun b h1 h2 h3 => by rw [hs2 b h1 (by omega) h3, hgc.get b h2 (by omega)]
      have hb2 := hrun2.bnd
      have hne := hrun2.ne
      have hix : ∀ S, opIdxArr 4 2 (.ptr bf 0) (I pre.length) S = some (.ptr bf (pre.length * 2), S) := fun S => by
        have : pre.length < 4 := by omega
        simp [opIdxArr, natOf, this]
      have hnx := hrun2.next
      have e2 : IntKind.i64.wrap ((pre.length : Int) + 1) = ((pre ++ [x]).length : Int) := by rw [i64_in _ (by omega)]; simp
      simp(maxSteps:=9999999)(disch:=first|omega|(simp only[AN];omega))only[f31,f32,f33,r,hix,w1,w2,hnx,e2,↓KP,EN,↓reduceIte,reduceCtorEq,Nat.reduceEqDiff,Nat.reduceAdd,Nat.reduceLeDiff,Nat.reduceMul]
      generalize hHs : ((H2.alloc (.cells false [.int .i64 0, .int .i64 0])).set H2.next (.cells false [I x.1, I x.2])).set bf (.cells false vs') = Hs
      have hsn : H2.next < Hs.next := by rw [← hHs]; simp(maxSteps:=9999999)(disch:=first|omega|(simp only[AN];omega))only[↓KP,EN,↓reduceIte,reduceCtorEq,Nat.reduceEqDiff,Nat.reduceAdd,Nat.reduceLeDiff,Nat.reduceMul]; omega
      have hss : ∀ b, b < H2.next → b ≠ bf → Hs.get b = H2.get b := fun b h1 h2 => by rw [← hHs]; simp(maxSteps:=9999999)(disch:=first|omega|(simp only[AN];omega))only[↓KP,EN,↓reduceIte,reduceCtorEq,Nat.reduceEqDiff,Nat.reduceAdd,Nat.reduceLeDiff,Nat.reduceMul]
      have hfs : Fac s.groups.length bf (pre ++ [x]) Hs := w3.same (by rw [← hHs]; simp(maxSteps:=9999999)(disch:=first|omega|(simp only[AN];omega))only[↓KP,EN,↓reduceIte,reduceCtorEq,Nat.reduceEqDiff,Nat.reduceAdd,Nat.reduceLeDiff,Nat.reduceMul])
      have hrs : Jn N p m bh (fun b => l < b ∧ b ≠ bf) vl vg vf s but B Hs := hr2.keep (by omega) fun b h1 h2 => hss b h1 (by rcases h2 with h | h | h; omega; omega; exact h.2)
      clear hHs
      first|refine C_call ?_|refine C_calld ?_
      refine ih (pre ++ [x]) (done ++ ((X.take i).flatMap fun x => from_ s but (pre ++ [x])).map argT) (((X.drop (i + 1)).flatMap fun x => from_ s but (pre ++ [x])).map argT ++ rest) Hs _ (by simp; omega) (fun y hy' => ?_) ?_ (by omega) hrs (hrun2.keep (by omega) fun b _ h2 h3 => hss b h2 h3) hfs (hY _ H2 Hs (by omega) (fun b h1 h2 => hss b (by omega) (by omega)) hy2) fun v' H3 hn3 hr3 hs3 hf3 hor => ?_
      · rcases List.mem_append.1 hy' with h1 | h1
        · exact hpre _ h1
        · simp only [List.mem_singleton] at h1; subst h1; exact hxo
      · rw [hL, hone]
        conv => lhs; rw [hsplit]
        simp only [List.flatMap_append, List.flatMap_cons, List.map_append, List.append_assoc]
      · have hs4 : ∀ b, l < b → b < Hc.next → b ≠ bf → H3.get b = Hc.get b := fun b h1 h2 h3 => by rw [hs3 b h1 (by omega) h3, hss b (by omega) h3, hs2 b h1 h2 h3]
        rcases hor with ⟨rfl, hy3⟩ | ⟨rfl, hS3⟩
        · simp(maxSteps:=9999999)(disch:=first|omega|(simp only[AN];omega))only[f31,f32,f33,e1,↓KP,EN,↓reduceIte,reduceCtorEq,Nat.reduceEqDiff,Nat.reduceAdd,Nat.reduceLeDiff,Nat.reduceMul]
          refine ⟨_, ?_, i + 1, _, rfl, ?_, ?_, ?_, (by omega), (by exact hr3), (by exact hs4), (by exact hf3.pop), ?_, (by rw [htk, List.map_append, ← List.append_assoc]; exact hy3), rfl⟩ <;> (first|omega|(with_reducible assumption)|(with_reducible(repeat first|exact Grew.refl _|assumption|apply Grew.alloc|refine Grew.set ?_ _ (by first|omega|(simp only[AN];omega)));done)|(simp(maxSteps:=9999999)(disch:=first|omega|(simp only[AN];omega))only[f31,f32,f33,↓KP,EN,↓reduceIte,reduceCtorEq,Nat.reduceEqDiff,Nat.reduceAdd,Nat.reduceLeDiff,Nat.reduceMul]<;>first|omega|rfl))
        · simp(maxSteps:=9999999)(disch:=first|omega|(simp only[AN];omega))only[↓KP,EN,↓reduceIte,reduceCtorEq,Nat.reduceEqDiff,Nat.reduceAdd,Nat.reduceLeDiff,Nat.reduceMul]
          exact kk _ _ (by omega) hr3 (fun b h1 h2 h3 => by rw [hs4 b h1 (by omega) h3, hgc.get b h2 (by omega)]) hf3.pop (.inr ⟨rfl, hS3⟩)
    · have hie : i = X.length := by omega
      subst hie
      rw [List.take_length, ← hone] at hy2
      simp(maxSteps:=9999999)(disch:=first|omega|(simp only[AN];omega))only[↓KP,EN,↓reduceIte,reduceCtorEq,Nat.reduceEqDiff,Nat.reduceAdd,Nat.reduceLeDiff,Nat.reduceMul]
      exact kk _ _ (by omega) hr2 (fun b h1 h2 h3 => by rw [hs2 b h1 (by omega) h3, hgc.get b h2 (by omega)]) hf2 (.inl ⟨rfl, hy2⟩)
def Inv (N p m bh : Nat) (vl vg vf : AV) (s : Series) (but : Nat) (B H : AH) : Prop := Jn N p m bh (fun _ => False) vl vg vf s but B H
theorem Rdy.off {G : Nat → Prop} (hr : Rdy N p m G vl vg vf s but H) {c : Nat} (hc : H.next ≤ c) : Rdy N p m (fun b => G b ∧ b ≠ c) vl vg vf s but H := by
  obtain ⟨a1, a2, a3, a4, a5, a6, es, b1, b2⟩ := hr
  exact ⟨a1, a2, a3, a4, a5, a6, es, b1, b2.move fun b hb => ⟨⟨hb.1, hb.2.1, hb.2.2.imp_right fun h => ⟨h, by omega⟩⟩, rfl⟩⟩
theorem Jn.off {G : Nat → Prop} (hr : Jn N p m bh G vl vg vf s but B H) {c : Nat} (hc : H.next ≤ c) : Jn N p m bh (fun b => G b ∧ b ≠ c) vl vg vf s but B H := ⟨hr.base, hr.rdy.off hc, hr.bhn, hr.box, hr.lt⟩
def nobs (i : Nat) : List (Int × Int) := (List.range 4).map fun j => if j < i then nob else (0, 0)
theorem nobs_set {i : Nat} (h : i < 4) : (nobs i).set i nob = nobs (i + 1) := by
  match i, h with
  | 0, _ => rfl
  | 1, _ => rfl
  | 2, _ => rfl
  | 3, _ => rfl
theorem truths_iter (hfine : Fine s) (hbut : but < 1000) : Iter2 prog (.func 86 [] [.ptr bh 0]) (yields s but) (Kh N bh) (Inv N p m bh vl vg vf s but B) (fun l => Jn N p m bh (fun b => l < b) vl vg vf s but B) := by
  refine ⟨fun l H1 H2 hk hj => hj.keep hk.1 fun b h1 h2 => hk.2 b h1 (by rcases h2 with h | h | h; exact .inl (.inl h); exact .inl (.inr h); exact .inr h), fun H o hi => (hi.up ((Grew.refl H).alloc o)).weak fun b h => h.elim, fun H hr b hb => ?_, fun H l Y S R hNl hl hi hY hS hy hfin h0 => ?_⟩
  · have h1 := hr.lt
    have h2 := hr.rdy.nle
    rcases hb with h | h <;> omega
  · have hbhlt := hi.lt
    have hbl : bh < l := hNl _ (.inr rfl)
    have hbox := hi.box
    have hnl := hi.rdy.nle
    refine CallQ_enter (fn:=c86) rfl (Nat.le_of_ble_eq_true rfl) ?_;simp(maxSteps:=9999999)(disch:=first|omega|(simp only[AN];omega))only[c86,envFrom,hbox,↓KP,EN,↓reduceIte,reduceCtorEq,Nat.reduceEqDiff,Nat.reduceAdd,Nat.reduceLeDiff,Nat.reduceMul]
    refine K_loop (fun mz ez H1 => ∃ (i : Nat) (tail : Env), ez = (0, .yield l) :: (1, .ptr bh 0) :: (2, .ptr H.next 0) :: tail ∧ (tail.get 3 = some (.ptr (H.next + 1) 0)) ∧ (tail.get 4 = some (.ptr (H.next + 1 + 1) 0)) ∧ (tail.get 9 = some (I i)) ∧ (Grew H H1) ∧ (H.next + 1 + 1 < H1.next) ∧ (H1.get H.next = some (.cells false [.yield l])) ∧ (H1.get (H.next + 1) = some (.cells false [.func 87 [.ptr p 0] []])) ∧ (H1.get (H.next + 1 + 1) = some (.cells false (flat (nobs i)))) ∧ (i ≤ 4) ∧ mz = 4 - i) _ ⟨0, _, rfl, ?_, ?_, ?_, (by exact GW), ?_, ?_, ?_, (by simp(maxSteps:=9999999)(disch:=first|omega|(simp only[AN];omega))only[↓KP,EN,↓reduceIte,reduceCtorEq,Nat.reduceEqDiff,Nat.reduceAdd,Nat.reduceLeDiff,Nat.reduceMul]; rfl), ?_, rfl⟩ ?_
    iterate 7 (focus (first|(with_reducible rfl)|omega|(with_reducible(repeat first|exact Grew.refl _|assumption|apply Grew.alloc|refine Grew.set ?_ _ (by first|omega|(simp only[AN];omega)));done)|(simp(maxSteps:=9999999)(disch:=first|omega|(simp only[AN];omega))only[↓KP,EN,↓reduceIte,reduceCtorEq,Nat.reduceEqDiff,Nat.reduceAdd,Nat.reduceLeDiff,Nat.reduceMul]<;>first|omega|rfl)|(simp;done)|rfl))
    rintro mz ez H1 ⟨i, tail, rfl, f3, f4, f9, hG, hlt, h2, h3, h4, hi4, hmz⟩; subst mz; have hGn := hG.next
    simp(maxSteps:=9999999)(disch:=first|omega|(simp only[AN];omega))only[f9,↓KP,EN,↓reduceIte,reduceCtorEq,Nat.reduceEqDiff,Nat.reduceAdd,Nat.reduceLeDiff,Nat.reduceMul]
    refine C_decide (fun hc => ?_) (fun hc => ?_)
    · have hi' : i < 4 := by omega
      have e1 : IntKind.i64.wrap ((i : Int) + 1) = ((i + 1 : Nat) : Int) := i64_in _ (by omega)
      have hw := flat_write (x := nob) (q := nobs i) (k := i) (by simp [nobs]; omega)
      rw [nobs_set hi'] at hw
      have hix : ∀ S, opIdxArr 4 2 (.ptr (H.next + 1 + 1) 0) (I i) S = some (.ptr (H.next + 1 + 1) (i * 2), S) := fun S => by simp [opIdxArr, natOf, hi']
      simp only [nob] at hw
      simp(maxSteps:=9999999)(disch:=first|omega|(simp only[AN];omega))only[f3,f4,f9,↓KP,EN,↓reduceIte,reduceCtorEq,Nat.reduceEqDiff,Nat.reduceAdd,Nat.reduceLeDiff,Nat.reduceMul]
      first|refine C_call ?_|refine C_calld ?_
      refine nobody_run fun H2 hg2 => ?_
      have hg2n:=hg2.next;try simp only[AN]at hg2n
      simp(maxSteps:=9999999)(disch:=first|omega|(simp only[AN];omega))only[f3,f4,f9,hix,hg2.get,h4,hw,e1,↓KP,EN,↓reduceIte,reduceCtorEq,Nat.reduceEqDiff,Nat.reduceAdd,Nat.reduceLeDiff,Nat.reduceMul]
      refine ⟨_, ?_, i + 1, _, rfl, ?_, ?_, ?_, ?_, ?_, ?_, ?_, ?_, ?_, rfl⟩ <;> (first|omega|(with_reducible assumption)|(with_reducible(repeat first|exact Grew.refl _|assumption|apply Grew.alloc|refine Grew.set ?_ _ (by first|omega|(simp only[AN];omega))|refine Grew.trans ?_ hg2|refine Grew.trans ?_ hG);done)|(simp(maxSteps:=9999999)(disch:=first|omega|(simp only[AN];omega))only[f3,f4,f9,hg2.get,h2,h3,hg2.get,hG.get,↓KP,EN,↓reduceIte,reduceCtorEq,Nat.reduceEqDiff,Nat.reduceAdd,Nat.reduceLeDiff,Nat.reduceMul]<;>first|omega|rfl))
    · have hie : i = 4 := by omega
      subst hie
      simp(maxSteps:=9999999)(disch:=first|omega|(simp only[AN];omega))only[f3,f4,↓KP,EN,↓reduceIte,reduceCtorEq,Nat.reduceEqDiff,Nat.reduceAdd,Nat.reduceLeDiff,Nat.reduceMul]
      have hr1 := (hi.off (c := H.next + 1 + 1) (by omega)).up hG
      generalize hHs : (H1.alloc (.cells false [.nilfunc])).set H1.next (.cells false [.func 88 [] [.ptr bh 0, .ptr (H.next + 1 + 1) 0, .ptr H1.next 0, .ptr (H.next + 1) 0, .ptr H.next 0]]) = Hs
      have hsn : H1.next < Hs.next := by rw [← hHs]; simp(maxSteps:=9999999)(disch:=first|omega|(simp only[AN];omega))only[↓KP,EN,↓reduceIte,reduceCtorEq,Nat.reduceEqDiff,Nat.reduceAdd,Nat.reduceLeDiff,Nat.reduceMul]; omega
      have hss : ∀ b, b < H1.next → Hs.get b = H1.get b := fun b h1 => by rw [← hHs]; simp(maxSteps:=9999999)(disch:=first|omega|(simp only[AN];omega))only[↓KP,EN,↓reduceIte,reduceCtorEq,Nat.reduceEqDiff,Nat.reduceAdd,Nat.reduceLeDiff,Nat.reduceMul]
      have hsb : Hs.get H1.next = some (.cells false [.func 88 [] [.ptr bh 0, .ptr (H.next + 1 + 1) 0, .ptr H1.next 0, .ptr (H.next + 1) 0, .ptr H.next 0]]) := by rw [← hHs]; simp(maxSteps:=9999999)(disch:=first|omega|(simp only[AN];omega))only[↓KP,EN,↓reduceIte,reduceCtorEq,Nat.reduceEqDiff,Nat.reduceAdd,Nat.reduceLeDiff,Nat.reduceMul]
      clear hHs
      first|refine C_call ?_|refine C_calld ?_
      refine next_run (p := p) (bf := H.next + 1 + 1) (bn := H1.next) (bd := H.next + 1) (by_ := H.next) hfine hbut hbl Y S hY hy s.groups.length [] [] [] Hs _ (by simp) (by simp) (by simp [yields, truthsB_from]) (by omega) (hr1.up ⟨by omega, hss⟩) ⟨by omega, by omega, by omega, hsb, by rw [hss _ (by omega)]; exact h3, by rw [hss _ (by omega)]; exact h2⟩ ⟨nobs 4, rfl, rfl, fun j _ hj => ?_, by rw [hss _ (by omega)]; exact h4⟩ ?_ fun v H2 hn hr hs hf hor => ?_
      · match j, hj with
        | 0, _ => rfl
        | 1, _ => rfl
        | 2, _ => rfl
      · exact hY _ H _ (by omega) (fun b h1 h2 => by rw [hss b (by omega), hG.get b (by omega)]) h0
      · simp(maxSteps:=9999999)(disch:=first|omega|(simp only[AN];omega))only[↓KP,EN,↓reduceIte,reduceCtorEq,Nat.reduceEqDiff,Nat.reduceAdd,Nat.reduceLeDiff,Nat.reduceMul]
        refine hfin _ (by omega) (hr.weak fun b h => h.1) ?_
        rw [yields, truthsB_from]
        rcases hor with ⟨_, h1⟩ | ⟨_, h1⟩
        · exact .inl (by simpa using h1)
        · exact .inr h1
end Go.Proofs.Ytihahmggfjjkjaa
namespace Go.Proofs.Ytihahmggfjjkjaa
open Go.AM Go.IntWalk Go.PL
set_option maxRecDepth 100000
set_option maxHeartbeats 4000000
set_option linter.unusedSimpArgs false
variable {H : AH} {R : AV → AH → Prop}
abbrev Held (p m : Nat) (vl vg vf : AV) (s : Series) (but : Nat) (H : AH) : Prop := Rdy H.next p m (fun _ => False) vl vg vf s but H
theorem Rdy.all {N p m : Nat} {G : Nat → Prop} {vl vg vf : AV} {s : Series} {but : Nat} (hr : Rdy N p m G vl vg vf s but H) : Held p m vl vg vf s but H := by
  obtain ⟨a1, a2, a3, a4, a5, a6, es, b1, b2⟩ := hr
  exact ⟨a1, a2.move fun b hb => ⟨⟨by omega, hb.2⟩, rfl⟩, by omega, by omega, a5, Nat.le_refl _, es, b1, b2.move fun b hb => ⟨⟨hb.1, hb.2.1, .inl hb.1⟩, rfl⟩⟩
section
variable {p m : Nat} {vl vg vf : AV} {s : Series} {but : Nat}
theorem Rdy.inv {N : Nat} {B : AH} (hr : Rdy N p m (fun _ => False) vl vg vf s but H) {bh : Nat} (h1 : ∀ b, b < N → b ≠ m → H.get b = B.get b) (h2 : N ≤ bh) (h3 : H.get bh = some (.cells false [.ptr p 0])) (h4 : bh < H.next) : Inv N p m bh vl vg vf s but B H := ⟨h1, hr, h2, h3, h4⟩
theorem truths_run (p : Nat) (k : R (.func 86 [] [.ptr H.next 0]) (H.alloc (.cells false [.ptr p 0]))) : CallQ prog (.func 75 [] []) [.ptr p 0] H R := by
  refine CallQ_enter (fn:=c75) rfl (Nat.le_of_ble_eq_true rfl) ?_;simp(maxSteps:=9999999)(disch:=first|omega|(simp only[AN];omega))only[c75,envFrom,↓KP,EN,↓reduceIte,reduceCtorEq,Nat.reduceEqDiff,Nat.reduceAdd,Nat.reduceLeDiff,Nat.reduceMul]
  exact k
theorem look_run (vl vg vf : AV) (s : Series) (but : Nat) (hh : IsSer (Old H) H vl vg vf s) (k : ∀ H' p m, Grew H H' → H.next ≤ m → Held p m vl vg vf s but H' → R (.ptr p 0) H') : CallQ prog (.func 77 [] []) [serArg vl vg vf s, I but] H R := by
  refine CallQ_enter (fn:=c77) rfl (Nat.le_of_ble_eq_true rfl) ?_;simp(maxSteps:=9999999)(disch:=first|omega|(simp only[AN];omega))only[c77,envFrom,hh.l.isCell,hh.g.isCell,hh.f.isCell,↓KP,EN,↓reduceIte,reduceCtorEq,Nat.reduceEqDiff,Nat.reduceAdd,Nat.reduceLeDiff,Nat.reduceMul]
  have hg : Grew H (((H.alloc (.cells false [vl, I s.lo, I s.hi, vg, .bool s.unseen, vf])).alloc (.map [])).alloc (.cells false [vl, I s.lo, I s.hi, vg, .bool s.unseen, vf, I but, .map (H.next + 1)])) := GW
  refine k _ _ (H.next + 1) hg (by omega) ⟨by simp(maxSteps:=9999999)(disch:=first|omega|(simp only[AN];omega))only[↓KP,EN,↓reduceIte,reduceCtorEq,Nat.reduceEqDiff,Nat.reduceAdd,Nat.reduceLeDiff,Nat.reduceMul], hh.move fun b hb => ⟨⟨by show b < H.next + 1 + 1 + 1; have : b < H.next := hb; omega, by have : b < H.next := hb; omega⟩, hg.get b hb⟩, by simp(maxSteps:=9999999)(disch:=first|omega|(simp only[AN];omega))only[↓KP,EN,↓reduceIte,reduceCtorEq,Nat.reduceEqDiff,Nat.reduceAdd,Nat.reduceLeDiff,Nat.reduceMul]; omega, by simp(maxSteps:=9999999)(disch:=first|omega|(simp only[AN];omega))only[↓KP,EN,↓reduceIte,reduceCtorEq,Nat.reduceEqDiff,Nat.reduceAdd,Nat.reduceLeDiff,Nat.reduceMul]; omega, by omega, Nat.le_refl _, [], by simp(maxSteps:=9999999)(disch:=first|omega|(simp only[AN];omega))only[↓KP,EN,↓reduceIte,reduceCtorEq,Nat.reduceEqDiff,Nat.reduceAdd,Nat.reduceLeDiff,Nat.reduceMul], fun _ h => by cases h⟩
theorem some_run (hfine : Fine s) (hbut : but < 1000) (hr : Held p m vl vg vf s but H) (k : ∀ H', GrewBut m H H' → Held p m vl vg vf s but H' → R (.bool (decide (0 < (truthsB s but).length))) H') : CallQ prog (.func 78 [] []) [.ptr p 0] H R := by
  have hml := hr.mlt
  refine CallQ_enter (fn:=c78) rfl (Nat.le_of_ble_eq_true rfl) ?_;simp(maxSteps:=9999999)(disch:=first|omega|(simp only[AN];omega))only[c78,envFrom,↓KP,EN,↓reduceIte,reduceCtorEq,Nat.reduceEqDiff,Nat.reduceAdd,Nat.reduceLeDiff,Nat.reduceMul]
  first|refine C_call ?_|refine C_calld ?_
  refine truths_run p ?_
  simp(maxSteps:=9999999)(disch:=first|omega|(simp only[AN];omega))only[↓KP,EN,↓reduceIte,reduceCtorEq,Nat.reduceEqDiff,Nat.reduceAdd,Nat.reduceLeDiff,Nat.reduceMul]
  have hr1 := hr.up (((Grew.refl H).alloc (.cells false [.bool false])).alloc (.cells false [.ptr p 0]))
  generalize hB : (H.alloc (.cells false [.bool false])).alloc (.cells false [.ptr p 0]) = B at hr1
  have e0 : B.get H.next = some (.cells false [.bool false]) := by rw [← hB]; simp(maxSteps:=9999999)(disch:=first|omega|(simp only[AN];omega))only[↓KP,EN,↓reduceIte,reduceCtorEq,Nat.reduceEqDiff,Nat.reduceAdd,Nat.reduceLeDiff,Nat.reduceMul]
  have e1 : B.get (H.next + 1) = some (.cells false [.ptr p 0]) := by rw [← hB]; simp(maxSteps:=9999999)(disch:=first|omega|(simp only[AN];omega))only[↓KP,EN,↓reduceIte,reduceCtorEq,Nat.reduceEqDiff,Nat.reduceAdd,Nat.reduceLeDiff,Nat.reduceMul]
  have old : ∀ b, b < H.next → B.get b = H.get b := fun b hb => by rw [← hB]; simp(maxSteps:=9999999)(disch:=first|omega|(simp only[AN];omega))only[↓KP,EN,↓reduceIte,reduceCtorEq,Nat.reduceEqDiff,Nat.reduceAdd,Nat.reduceLeDiff,Nat.reduceMul]
  have hBn : B.next = H.next + 1 + 1 := by rw [← hB]; rfl
  have hi := hr1.inv (B := B) (bh := H.next + 1) (fun _ _ _ => rfl) (by omega) e1 (by omega)
  have fin : ∀ (H2 : AH) (x : Bool), H.next ≤ H2.next → Jn H.next p m (H.next + 1) (fun b => B.next < b) vl vg vf s but B H2 → x = decide (0 < (truthsB s but).length) → R (.bool x) H2 := fun H2 x hn hj hx => by
    rw [hx]
    exact k H2 ⟨hn, fun b hb hm => by rw [hj.base b hb hm, old b hb]⟩ hj.rdy.all
  refine K_iter2 (L := yields s but) (K := Kh H.next (H.next + 1)) (Inv := Inv H.next p m (H.next + 1) vl vg vf s but B) (J := fun l => Jn H.next p m (H.next + 1) (fun b => l < b) vl vg vf s but B) rfl (truths_iter hfine hbut) hi (fun a ha => ?_)
    (fun done H2 => done = [] ∧ H2.get H.next = some (.cells false [.bool false]))
    (fun x H2 => x = .ret ∧ yields s but ≠ [] ∧ H2.get H.next = some (.cells false [.bool true])) ?_ ?_ ?_ ?_ ?_ ?_
  · obtain ⟨t, _, rfl⟩ := List.mem_map.1 ha; rfl
  · rintro done H1 H2 hn hs ⟨h1, h2⟩
    exact ⟨h1, by rw [hs _ (by simp only [Kh]; omega) (by omega)]; exact h2⟩
  · rintro x H1 H2 hn hs ⟨h1, h0, h2⟩
    exact ⟨h1, h0, by rw [hs _ (by simp only [Kh]; omega) (by omega)]; exact h2⟩
  · exact ⟨rfl, e0⟩
  · rintro done a rest H1 hL hlt hj ⟨rfl, h2⟩ hlo
    obtain ⟨t, _, rfl⟩ : ∃ t, t ∈ truthsB s but ∧ argT t = a := List.mem_map.1 (by rw [← yields, hL]; simp)
    simp(maxSteps:=9999999)(disch:=first|omega|(simp only[AN];omega))only[K7,hlo,argT,h2,↓KP,EN,↓reduceIte,reduceCtorEq,Nat.reduceEqDiff,Nat.reduceAdd,Nat.reduceLeDiff,Nat.reduceMul]
    refine ⟨⟨by simp(maxSteps:=9999999)(disch:=first|omega|(simp only[AN];omega))only[↓KP,EN,↓reduceIte,reduceCtorEq,Nat.reduceEqDiff,Nat.reduceAdd,Nat.reduceLeDiff,Nat.reduceMul]; omega, fun b hb hc => ?_⟩, ?_⟩
    · simp only [Kh] at hc
      simp(maxSteps:=9999999)(disch:=first|omega|(simp only[AN];omega))only[↓KP,EN,↓reduceIte,reduceCtorEq,Nat.reduceEqDiff,Nat.reduceAdd,Nat.reduceLeDiff,Nat.reduceMul]
    · rw [hL]; simp
  · rintro H2 hn hj ⟨hd, h2⟩
    simp(maxSteps:=9999999)(disch:=first|omega|(simp only[AN];omega))only[h2,↓KP,EN,↓reduceIte,reduceCtorEq,Nat.reduceEqDiff,Nat.reduceAdd,Nat.reduceLeDiff,Nat.reduceMul]
    refine fin _ _ (by show H.next ≤ H2.next; omega) (hj.keep (Nat.le_refl _) fun b hb hc => get_set_other (by omega)) ?_
    have : truthsB s but = [] := by simpa [yields] using hd
    rw [this]; rfl
  · rintro x H2 hx hn hj ⟨rfl, h0, h2⟩
    simp(maxSteps:=9999999)(disch:=first|omega|(simp only[AN];omega))only[h2,↓KP,EN,↓reduceIte,reduceCtorEq,Nat.reduceEqDiff,Nat.reduceAdd,Nat.reduceLeDiff,Nat.reduceMul]
    exact fin _ _ (by omega) hj (by
      symm; rw [decide_eq_true_eq, List.length_pos_iff]
      intro e; apply h0; simp [yields, e])
end
end Go.Proofs.Ytihahmggfjjkjaa
namespace Go.Proofs.Ytihahmggfjjkjaa
open Go.AM Go.IntWalk Go.PL
set_option maxRecDepth 100000
set_option maxHeartbeats 4000000
set_option linter.unusedSimpArgs false
variable {H : AH} {R : AV → AH → Prop}
theorem inS_nob (d : Nat) : inS (d : Int) nob = false := by
  show (decide ((0 : Int) ≤ d) && decide ((d : Int) ≤ -1)) = false
  rw [decide_eq_false (show ¬ (d : Int) ≤ -1 by omega), Bool.and_false]
theorem cnt_on {t : Truth} (h : t.1.length ≤ 3) (d : Nat) : cntE (sp t) d = onE t d := by
  obtain ⟨g, m⟩ := t
  have hm : ∀ (l : List (Int × Int)), (l ++ [m.getD nob]).countP (inS d) = (l ++ m.toList).countP (inS d) := fun l => by
    cases m with
    | none => simp [inS_nob]
    | some x => rfl
  have hz : ∀ (l : List (Int × Int)), (nob :: l).countP (inS d) = l.countP (inS d) := fun l => by
    rw [List.countP_cons, inS_nob]; rfl
  unfold cntE onE
  congr 1
  match g, h with
  | [], _ =>
    have := hm []
    simp only [sp, getN, List.getD_nil, List.nil_append, hz] at this ⊢
    simpa using this
  | [a], _ =>
    have := hm [a]
    show (a :: nob :: nob :: [m.getD nob]).countP (inS d) = _
    rw [List.countP_cons, hz, hz]
    simp only [List.cons_append, List.nil_append, List.countP_cons] at this ⊢
    omega
  | [a, b], _ =>
    have := hm [a, b]
    show (a :: b :: nob :: [m.getD nob]).countP (inS d) = _
    rw [List.countP_cons, List.countP_cons, hz]
    simp only [List.cons_append, List.nil_append, List.countP_cons] at this ⊢
    omega
  | [a, b, c], _ => exact hm [a, b, c]
theorem truthsB_eq {s : Series} (hf : Fine s) {but : Nat} {bl : List Int} (h : ∀ k, k < s.filled.length → but.testBit k = decide ((k : Int) ∈ bl)) : truthsB s but = truthsE s bl := by
  refine List.filter_congr fun t ht => ?_
  have hl : t.1.length ≤ 3 := by rw [allE_mem ht]; exact hf.gl
  rw [okB, soF, soE_eq, Bool.eq_iff_iff, List.all_eq_true, List.all_eq_true]
  refine forall_congr' fun k => forall_congr' fun hk => ?_
  have hk' : k < s.filled.length := by simpa using hk
  have hd := hf.f _ (List.getElem_mem hk')
  simp only [soK8, soK, h k hk', List.getD_eq_getElem?_getD, List.getElem?_eq_getElem hk', Option.getD_some]
  rw [cnt_on hl, show (((s.filled[k].1).toNat : Nat) : Int) = s.filled[k].1 from by omega]
theorem truthsB_zero {s : Series} (hf : Fine s) : truthsB s 0 = truthsE s [] := truthsB_eq hf fun k _ => by simp
def pairsOff : List Int → Bool
  | n :: b :: rest => offP 0 (b - 1) n || pairsOff rest
  | _ => false
def enterErr (s : Series) (l : List Int) : Int :=
  if errE s ≠ 0 then errE s else if pairsOff l = true then 4 else if truthsE s [] = [] then 8 else 0
theorem enter_run (vl vg vf va : AV) (s : Series) (l : List Int) (hh : IsSer (Old H) H vl vg vf s) (hs : Sized s) (hl : IsInts (Old H) H va l) (hll : l.length ≤ 1000) (hb : ∀ j (hj : j < l.length), j % 2 = 1 → 0 ≤ l[j] ∧ l[j] ≤ 9223372036854775807)
    (k0 : enterErr s l ≠ 0 → ∀ H', Grew H H' → R (.tuple [.nilptr, I (enterErr s l)]) H')
    (k1 : enterErr s l = 0 → Fine s → truthsE s [] ≠ [] → ∀ H' p m, Grew H H' → H.next ≤ m → Held p m vl vg vf s 0 H' → R (.tuple [.ptr p 0, I 0]) H') : CallQ prog (.func 61 [] []) [serArg vl vg vf s, va] H R := by
  have hg0 : Grew H (H.alloc (.cells false [vl, I s.lo, I s.hi, vg, .bool s.unseen, vf])) := GW
  refine CallQ_enter (fn:=c61) rfl (Nat.le_of_ble_eq_true rfl) ?_;simp(maxSteps:=9999999)(disch:=first|omega|(simp only[AN];omega))only[c61,envFrom,hh.l.isCell,hh.g.isCell,hh.f.isCell,↓KP,EN,↓reduceIte,reduceCtorEq,Nat.reduceEqDiff,Nat.reduceAdd,Nat.reduceLeDiff,Nat.reduceMul]
  refine C_call (Check_run vl vg vf s (hh.grow hg0) hs fun H1 hg1 => ?_)
  have hg1n := hg1.next; simp only [AH.next_alloc] at hg1n
  have hg1' := hg0.trans hg1
  have hbox : H1.get H.next = some (.cells false [vl, I s.lo, I s.hi, vg, .bool s.unseen, vf]) := by simp(maxSteps:=9999999)(disch:=first|omega|(simp only[AN];omega))only[hg1.get,↓KP,EN,↓reduceIte,reduceCtorEq,Nat.reduceEqDiff,Nat.reduceAdd,Nat.reduceLeDiff,Nat.reduceMul]
  by_cases he : (checkE s).2.2 = 0
  · have he' : errE s = 0 := he
    have hfine := fine_of he'
    simp(maxSteps:=9999999)(disch:=first|omega|(simp only[AN];omega))only[he,↓KP,EN,↓reduceIte,reduceCtorEq,Nat.reduceEqDiff,Nat.reduceAdd,Nat.reduceLeDiff,Nat.reduceMul]
    refine K_loop (fun mz ez H2 => ∃ (i : Nat) (tail : Env), ez = (0, serArg vl vg vf s) :: (1, va) :: (2, .ptr H.next 0) :: (4, .nilptr) :: (5, I 0) :: (8, I 0) :: tail ∧ (tail.get 9 = some (I i)) ∧ (Grew H1 H2) ∧ (i ≤ l.length) ∧ (i % 2 = 0) ∧ (pairsOff (l.drop i) = pairsOff l) ∧ mz = l.length - i) _ ⟨0, _, rfl, ?_, ?_, ?_, ?_, ?_, rfl⟩ ?_
    iterate 5 (focus (first|(with_reducible rfl)|omega|(with_reducible(repeat first|exact Grew.refl _|assumption|apply Grew.alloc|refine Grew.set ?_ _ (by first|omega|(simp only[AN];omega)));done)|(simp(maxSteps:=9999999)(disch:=first|omega|(simp only[AN];omega))only[↓KP,EN,↓reduceIte,reduceCtorEq,Nat.reduceEqDiff,Nat.reduceAdd,Nat.reduceLeDiff,Nat.reduceMul]<;>first|omega|rfl)|(simp;done)|rfl))
    rintro mz ez H2 ⟨i, tail, rfl, f9, hG, hil, hev, hpo, hmz⟩; subst mz; have hGn := hG.next
    have e1 : IntKind.i64.wrap ((i : Int) + 1) = ((i + 1 : Nat) : Int) := i64_in _ (by omega)
    have e2 : IntKind.i64.wrap ((i : Int) + 2) = ((i + 2 : Nat) : Int) := i64_in _ (by omega)
    simp(maxSteps:=9999999)(disch:=first|omega|(simp only[AN];omega))only[f9,e1,hl.len,↓KP,EN,↓reduceIte,reduceCtorEq,Nat.reduceEqDiff,Nat.reduceAdd,Nat.reduceLeDiff,Nat.reduceMul]
    refine C_decide (fun hc => ?_) (fun hc => ?_)
    · have hi1 : i + 1 < l.length := by omega
      obtain ⟨q_b, q_i, q_ro, q_vs, q_lt, q⟩ := hl.rdInt (n := ((i + 1 : Nat) : Int)) rfl hi1
      obtain ⟨r_b, r_i, r_ro, r_vs, r_lt, r⟩ := hl.rdInt (n := (i : Int)) rfl (show i < l.length by omega)
      have hbi := hb (i + 1) hi1 (by omega)
      have e3 : IntKind.i64.wrap (l[i + 1] - 1) = l[i + 1] - 1 := i64_in _ (by omega)
      have hdrop : pairsOff (l.drop i) = (offP 0 (l[i + 1] - 1) l[i] || pairsOff (l.drop (i + 2))) := by
        rw [List.drop_eq_getElem_cons (show i < l.length by omega), List.drop_eq_getElem_cons hi1, pairsOff]
      simp(maxSteps:=9999999)(disch:=first|omega|(simp only[AN];omega))only[↓KP,EN,↓reduceIte,reduceCtorEq,Nat.reduceEqDiff,Nat.reduceAdd,Nat.reduceLeDiff,Nat.reduceMul]
      refine K_draw ?_
      simp(maxSteps:=9999999)(disch:=first|omega|(simp only[AN];omega))only[f9,e1,e3,hG.get,hg1.get,q,r,↓KP,EN,↓reduceIte,reduceCtorEq,Nat.reduceEqDiff,Nat.reduceAdd,Nat.reduceLeDiff,Nat.reduceMul]
      refine C_calld ?_
      refine out1_run _ _ _ rfl ?_
      cases hx : offP 0 (l[i + 1] - 1) l[i] with
      | true =>
        have : enterErr s l = 4 := by rw [enterErr, if_neg (by omega), if_pos (by rw [← hpo, hdrop, hx]; rfl)]
        rw [this] at k0
        simp(maxSteps:=9999999)(disch:=first|omega|(simp only[AN];omega))only[f9,e1,e3,hG.get,hg1.get,q,r,↓KP,EN,↓reduceIte,reduceCtorEq,Nat.reduceEqDiff,Nat.reduceAdd,Nat.reduceLeDiff,Nat.reduceMul]
        exact k0 (by decide) _ GW
      | false =>
        simp(maxSteps:=9999999)(disch:=first|omega|(simp only[AN];omega))only[f9,e1,e2,e3,hG.get,hg1.get,q,r,↓KP,EN,↓reduceIte,reduceCtorEq,Nat.reduceEqDiff,Nat.reduceAdd,Nat.reduceLeDiff,Nat.reduceMul]
        refine ⟨_, ?_, i + 2, _, rfl, ?_, ?_, ?_, ?_, (by rw [← hpo, hdrop, hx]; rfl), rfl⟩ <;> (first|omega|(with_reducible assumption)|(with_reducible(repeat first|exact Grew.refl _|assumption|apply Grew.alloc|refine Grew.set ?_ _ (by first|omega|(simp only[AN];omega))|refine Grew.trans ?_ hG);done)|(simp(maxSteps:=9999999)(disch:=first|omega|(simp only[AN];omega))only[f9,hG.get,↓KP,EN,↓reduceIte,reduceCtorEq,Nat.reduceEqDiff,Nat.reduceAdd,Nat.reduceLeDiff,Nat.reduceMul]<;>first|omega|rfl))
    · have hpf : pairsOff l = false := by
        rw [← hpo]
        have : l.drop i = [] ∨ ∃ a, l.drop i = [a] := by
          have hlen : (l.drop i).length ≤ 1 := by rw [List.length_drop]; omega
          match l.drop i, hlen with
          | [], _ => exact .inl rfl
          | [a], _ => exact .inr ⟨a, rfl⟩
        rcases this with e | ⟨a, e⟩ <;> rw [e] <;> rfl
      have hg2' := hg1'.trans hG
      have hg2n := hG.next
      simp(maxSteps:=9999999)(disch:=first|omega|(simp only[AN];omega))only[hbox,hG.get,↓KP,EN,↓reduceIte,reduceCtorEq,Nat.reduceEqDiff,Nat.reduceAdd,Nat.reduceLeDiff,Nat.reduceMul]
      refine C_call (look_run vl vg vf s 0 (hh.grow hg2') fun H4 p m hg4 hm4 hheld => ?_)
      have hg4n := hg4.next
      simp(maxSteps:=9999999)(disch:=first|omega|(simp only[AN];omega))only[↓KP,EN,↓reduceIte,reduceCtorEq,Nat.reduceEqDiff,Nat.reduceAdd,Nat.reduceLeDiff,Nat.reduceMul]
      refine C_call (some_run hfine (by omega) hheld fun H5 hg5 hh5 => ?_)
      have hg5' : Grew H H5 := ⟨by have := hg5.next; omega, fun b hb' => by rw [hg5.get b (by omega) (by omega), hg4.get b (by omega), hg2'.get b hb']⟩
      rw [truthsB_zero hfine]
      by_cases ht : 0 < (truthsE s []).length
      · have : enterErr s l = 0 := by rw [enterErr, if_neg (by omega), if_neg (by simp [hpf]), if_neg (List.length_pos_iff.1 ht)]
        simp(maxSteps:=9999999)(disch:=first|omega|(simp only[AN];omega))only[ht,↓KP,EN,↓reduceIte,reduceCtorEq,Nat.reduceEqDiff,Nat.reduceAdd,Nat.reduceLeDiff,Nat.reduceMul]
        exact k1 this hfine (List.length_pos_iff.1 ht) _ _ _ hg5' (by omega) hh5
      · have hnil : truthsE s [] = [] := List.length_eq_zero_iff.1 (by omega)
        have : enterErr s l = 8 := by rw [enterErr, if_neg (by omega), if_neg (by simp [hpf]), if_pos hnil]
        rw [this] at k0
        simp(maxSteps:=9999999)(disch:=first|omega|(simp only[AN];omega))only[ht,↓KP,EN,↓reduceIte,reduceCtorEq,Nat.reduceEqDiff,Nat.reduceAdd,Nat.reduceLeDiff,Nat.reduceMul]
        exact k0 (by decide) _ hg5'
  · have : enterErr s l = errE s := by rw [enterErr, if_pos (show errE s ≠ 0 from he)]
    rw [this] at k0
    simp(maxSteps:=9999999)(disch:=first|omega|(simp only[AN];omega))only[he,↓KP,EN,↓reduceIte,reduceCtorEq,Nat.reduceEqDiff,Nat.reduceAdd,Nat.reduceLeDiff,Nat.reduceMul]
    exact k0 he _ hg1'
end Go.Proofs.Ytihahmggfjjkjaa
namespace Go.Proofs.Ytihahmggfjjkjaa
open Go.AM Go.IntWalk Go.PL
set_option maxRecDepth 100000
set_option maxHeartbeats 4000000
set_option linter.unusedSimpArgs false
variable {H : AH} {R : AV → AH → Prop}
variable {p m : Nat} {vl vg vf : AV} {s : Series} {but : Nat}
theorem hand {T : List Truth} {done : List (List AV)} {a : List AV} {rest : List (List AV)} (h : T.map argT = done ++ a :: rest) : ∃ hi : done.length < T.length, a = argT T[done.length] := by
  have hl := congrArg List.length h
  simp only [List.length_map, List.length_append, List.length_cons] at hl
  have hi : done.length < T.length := by omega
  refine ⟨hi, ?_⟩
  have := congrArg (fun l : List (List AV) => l[done.length]?) h
  simp only [List.getElem?_map, List.getElem?_eq_getElem hi, Option.map_some, List.getElem?_append_right (Nat.le_refl _), Nat.sub_self, List.getElem?_cons_zero, Option.some.injEq] at this
  exact this.symm
def Asks (m : Nat) (H : AH) (fv : AV) (s : Series) (but : Nat) (pr : Truth → Bool) : Prop :=
  ∀ (t : Truth) (H1 : AH) (R : AV → AH → Prop), t ∈ truthsB s but → H.next ≤ H1.next → (∀ b, b < H.next → b ≠ m → H1.get b = H.get b) → (∀ H2, Grew H1 H2 → R (.bool (pr t)) H2) → CallQ prog fv [.agg (flat (sp t))] H1 R
theorem told_run {g : Nat} {fs cs : List AV} {pr : Truth → Bool} (hfine : Fine s) (hbut : but < 1000) (hr : Held p m vl vg vf s but H) (hlen : (truthsB s but).length ≤ 100000000) (hf : Asks m H (.func g fs cs) s but pr)
    (k : ∀ H', GrewBut m H H' → R (I (settledE ((truthsB s but).countP pr : Nat) (truthsB s but).length)) H') : CallQ prog (.func 62 [] []) [.ptr p 0, .agg [.func g fs cs]] H R := by
  have hml := hr.mlt
  refine CallQ_enter (fn:=c62) rfl (Nat.le_of_ble_eq_true rfl) ?_;simp(maxSteps:=9999999)(disch:=first|omega|(simp only[AN];omega))only[c62,envFrom,↓KP,EN,↓reduceIte,reduceCtorEq,Nat.reduceEqDiff,Nat.reduceAdd,Nat.reduceLeDiff,Nat.reduceMul]
  first|refine C_call ?_|refine C_calld ?_
  refine truths_run p ?_
  simp(maxSteps:=9999999)(disch:=first|omega|(simp only[AN];omega))only[↓KP,EN,↓reduceIte,reduceCtorEq,Nat.reduceEqDiff,Nat.reduceAdd,Nat.reduceLeDiff,Nat.reduceMul]
  generalize hB : (((((H.alloc (.cells false [.func g fs cs])).alloc (.cells false [I 0])).alloc (.cells false [I 0])).set (H.next + 1) (.cells false [I 0])).set (H.next + 1 + 1) (.cells false [I 0])).alloc (.cells false [.ptr p 0]) = B
  have hgB : Grew H B := by rw [← hB]; exact GW
  have hr1 := hr.up hgB
  have e0 : B.get H.next = some (.cells false [.func g fs cs]) := by rw [← hB]; simp(maxSteps:=9999999)(disch:=first|omega|(simp only[AN];omega))only[↓KP,EN,↓reduceIte,reduceCtorEq,Nat.reduceEqDiff,Nat.reduceAdd,Nat.reduceLeDiff,Nat.reduceMul]
  have e1 : B.get (H.next + 1) = some (.cells false [I 0]) := by rw [← hB]; simp(maxSteps:=9999999)(disch:=first|omega|(simp only[AN];omega))only[↓KP,EN,↓reduceIte,reduceCtorEq,Nat.reduceEqDiff,Nat.reduceAdd,Nat.reduceLeDiff,Nat.reduceMul]
  have e2 : B.get (H.next + 1 + 1) = some (.cells false [I 0]) := by rw [← hB]; simp(maxSteps:=9999999)(disch:=first|omega|(simp only[AN];omega))only[↓KP,EN,↓reduceIte,reduceCtorEq,Nat.reduceEqDiff,Nat.reduceAdd,Nat.reduceLeDiff,Nat.reduceMul]
  have e3 : B.get (H.next + 1 + 1 + 1) = some (.cells false [.ptr p 0]) := by rw [← hB]; simp(maxSteps:=9999999)(disch:=first|omega|(simp only[AN];omega))only[↓KP,EN,↓reduceIte,reduceCtorEq,Nat.reduceEqDiff,Nat.reduceAdd,Nat.reduceLeDiff,Nat.reduceMul]
  have hBn : B.next = H.next + 1 + 1 + 1 + 1 := by rw [← hB]; rfl
  clear hB
  have hi := hr1.inv (B := B) (bh := H.next + 1 + 1 + 1) (fun _ _ _ => rfl) (by omega) e3 (by omega)
  generalize hT : truthsB s but = T at *
  refine K_iter2 (L := yields s but) (K := Kh H.next (H.next + 1 + 1 + 1)) (Inv := Inv H.next p m (H.next + 1 + 1 + 1) vl vg vf s but B) (J := fun l => Jn H.next p m (H.next + 1 + 1 + 1) (fun b => l < b) vl vg vf s but B) rfl (truths_iter hfine hbut) hi (fun a ha => ?_)
    (fun done H2 => H2.get H.next = some (.cells false [.func g fs cs]) ∧ H2.get (H.next + 1) = some (.cells false [I ((T.take done.length).countP pr : Nat)]) ∧ H2.get (H.next + 1 + 1) = some (.cells false [I done.length]))
    (fun x H2 => False) ?_ ?_ ?_ ?_ ?_ ?_
  · obtain ⟨t, _, rfl⟩ := List.mem_map.1 ha; rfl
  · rintro done H1 H2 hn hs ⟨h1, h2, h3⟩
    exact ⟨by rw [hs _ (by simp only [Kh]; omega) (by omega)]; exact h1, by rw [hs _ (by simp only [Kh]; omega) (by omega)]; exact h2, by rw [hs _ (by simp only [Kh]; omega) (by omega)]; exact h3⟩
  · intro x H1 H2 _ _ h; exact h
  · exact ⟨e0, e1, e2⟩
  · rintro done a rest H1 hL hlt hj ⟨h1, h2, h3⟩ hlo
    rw [yields, hT] at hL
    obtain ⟨hi', rfl⟩ := hand hL
    have hcl := List.countP_le_length (p := pr) (l := T.take done.length)
    simp only [List.length_take] at hcl
    have hst := countP_take_succ (p := pr) hi'
    have htm : T[done.length] ∈ truthsB s but := by rw [hT]; exact List.getElem_mem hi'
    generalize T[done.length] = t at *
    have w1 : IntKind.i64.wrap ((done.length : Int) + 1) = ((done.length + 1 : Nat) : Int) := i64_in _ (by omega)
    have w2 : IntKind.i64.wrap (((T.take done.length).countP pr : Nat) + 1 : Int) = (((T.take done.length).countP pr + 1 : Nat) : Int) := i64_in _ (by omega)
    have hef := eight_flat t
    simp(maxSteps:=9999999)(disch:=first|omega|(simp only[AN];omega))only[K8,hlo,argT,h1,h2,h3,hef,w1,↓KP,EN,↓reduceIte,reduceCtorEq,Nat.reduceEqDiff,Nat.reduceAdd,Nat.reduceLeDiff,Nat.reduceMul]
    rw [← hef]
    first|refine C_call ?_|refine C_calld ?_
    refine hf t _ _ htm ?_ ?_ fun H2 hg2 => ?_
    · simp(maxSteps:=9999999)(disch:=first|omega|(simp only[AN];omega))only[↓KP,EN,↓reduceIte,reduceCtorEq,Nat.reduceEqDiff,Nat.reduceAdd,Nat.reduceLeDiff,Nat.reduceMul]; omega
    · intro b hb hm
      simp(maxSteps:=9999999)(disch:=first|omega|(simp only[AN];omega))only[hj.base,hgB.get,↓KP,EN,↓reduceIte,reduceCtorEq,Nat.reduceEqDiff,Nat.reduceAdd,Nat.reduceLeDiff,Nat.reduceMul]
    · have hg2n := hg2.next; simp only [AN] at hg2n
      cases hp : pr t with
      | true =>
        rw [hp, if_pos rfl] at hst
        simp(maxSteps:=9999999)(disch:=first|omega|(simp only[AN];omega))only[K8,hg2.get,h2,w2,↓KP,EN,↓reduceIte,reduceCtorEq,Nat.reduceEqDiff,Nat.reduceAdd,Nat.reduceLeDiff,Nat.reduceMul]
        refine K_bod ⟨?_, ⟨?_, fun b hb hc => ?_⟩, ?_, ?_, ?_⟩
        · simp(maxSteps:=9999999)(disch:=first|omega|(simp only[AN];omega))only[hg2.get,↓KP,EN,↓reduceIte,reduceCtorEq,Nat.reduceEqDiff,Nat.reduceAdd,Nat.reduceLeDiff,Nat.reduceMul]
        · first | omega | (simp(maxSteps:=9999999)(disch:=first|omega|(simp only[AN];omega))only[↓KP,EN,↓reduceIte,reduceCtorEq,Nat.reduceEqDiff,Nat.reduceAdd,Nat.reduceLeDiff,Nat.reduceMul]; omega)
        · simp only [Kh] at hc; simp(maxSteps:=9999999)(disch:=first|omega|(simp only[AN];omega))only[hg2.get,↓KP,EN,↓reduceIte,reduceCtorEq,Nat.reduceEqDiff,Nat.reduceAdd,Nat.reduceLeDiff,Nat.reduceMul]
        · simp(maxSteps:=9999999)(disch:=first|omega|(simp only[AN];omega))only[hg2.get,h1,↓KP,EN,↓reduceIte,reduceCtorEq,Nat.reduceEqDiff,Nat.reduceAdd,Nat.reduceLeDiff,Nat.reduceMul]
        · simp only [List.length_append, List.length_singleton]; rw [hst]; simp(maxSteps:=9999999)(disch:=first|omega|(simp only[AN];omega))only[↓KP,EN,↓reduceIte,reduceCtorEq,Nat.reduceEqDiff,Nat.reduceAdd,Nat.reduceLeDiff,Nat.reduceMul]
        · simp only [List.length_append, List.length_singleton]; simp(maxSteps:=9999999)(disch:=first|omega|(simp only[AN];omega))only[hg2.get,↓KP,EN,↓reduceIte,reduceCtorEq,Nat.reduceEqDiff,Nat.reduceAdd,Nat.reduceLeDiff,Nat.reduceMul]
      | false =>
        rw [hp, if_neg (by simp), Nat.add_zero] at hst
        simp(maxSteps:=9999999)(disch:=first|omega|(simp only[AN];omega))only[K8,↓KP,EN,↓reduceIte,reduceCtorEq,Nat.reduceEqDiff,Nat.reduceAdd,Nat.reduceLeDiff,Nat.reduceMul]
        refine K_bod ⟨?_, ⟨?_, fun b hb hc => ?_⟩, ?_, ?_, ?_⟩
        · simp(maxSteps:=9999999)(disch:=first|omega|(simp only[AN];omega))only[hg2.get,↓KP,EN,↓reduceIte,reduceCtorEq,Nat.reduceEqDiff,Nat.reduceAdd,Nat.reduceLeDiff,Nat.reduceMul]
        · first | omega | (simp(maxSteps:=9999999)(disch:=first|omega|(simp only[AN];omega))only[↓KP,EN,↓reduceIte,reduceCtorEq,Nat.reduceEqDiff,Nat.reduceAdd,Nat.reduceLeDiff,Nat.reduceMul]; omega)
        · simp only [Kh] at hc; simp(maxSteps:=9999999)(disch:=first|omega|(simp only[AN];omega))only[hg2.get,↓KP,EN,↓reduceIte,reduceCtorEq,Nat.reduceEqDiff,Nat.reduceAdd,Nat.reduceLeDiff,Nat.reduceMul]
        · simp(maxSteps:=9999999)(disch:=first|omega|(simp only[AN];omega))only[hg2.get,h1,↓KP,EN,↓reduceIte,reduceCtorEq,Nat.reduceEqDiff,Nat.reduceAdd,Nat.reduceLeDiff,Nat.reduceMul]
        · simp only [List.length_append, List.length_singleton]; rw [hst]; simp(maxSteps:=9999999)(disch:=first|omega|(simp only[AN];omega))only[hg2.get,h2,↓KP,EN,↓reduceIte,reduceCtorEq,Nat.reduceEqDiff,Nat.reduceAdd,Nat.reduceLeDiff,Nat.reduceMul]
        · simp only [List.length_append, List.length_singleton]; simp(maxSteps:=9999999)(disch:=first|omega|(simp only[AN];omega))only[hg2.get,↓KP,EN,↓reduceIte,reduceCtorEq,Nat.reduceEqDiff,Nat.reduceAdd,Nat.reduceLeDiff,Nat.reduceMul]
  · rintro H2 hn hj ⟨h1, h2, h3⟩
    rw [show (yields s but).length = T.length by rw [yields, hT, List.length_map]] at h2 h3
    rw [List.take_length] at h2
    have fin : ∀ H3 : AH, H2.next ≤ H3.next → (∀ b, b < H2.next → b ≠ B.next → H3.get b = H2.get b) → GrewBut m H H3 := fun H3 a b => ⟨by omega, fun c h5 h6 => by rw [b c (by omega) (by omega), hj.base c h5 h6, hgB.get c h5]⟩
    simp(maxSteps:=9999999)(disch:=first|omega|(simp only[AN];omega))only[h2,h3,↓KP,EN,↓reduceIte,reduceCtorEq,Nat.reduceEqDiff,Nat.reduceAdd,Nat.reduceLeDiff,Nat.reduceMul]
    have hend : ∀ (x : Int) (H3 : AH), x = settledE (T.countP pr : Nat) T.length → H2.next ≤ H3.next → (∀ b, b < H2.next → b ≠ B.next → H3.get b = H2.get b) → R (I x) H3 := fun x H3 hx a b => by rw [hx]; exact k H3 (fin H3 a b)
    by_cases hx : ((T.countP pr : Nat) : Int) = T.length
    · simp(maxSteps:=9999999)(disch:=first|omega|(simp only[AN];omega))only[eq_true hx,↓KP,EN,↓reduceIte,reduceCtorEq,Nat.reduceEqDiff,Nat.reduceAdd,Nat.reduceLeDiff,Nat.reduceMul]
      refine hend 1 _ (by rw [settledE, if_pos hx]) ?_ fun b h5 h6 => ?_
      · first | omega | (simp(maxSteps:=9999999)(disch:=first|omega|(simp only[AN];omega))only[↓KP,EN,↓reduceIte,reduceCtorEq,Nat.reduceEqDiff,Nat.reduceAdd,Nat.reduceLeDiff,Nat.reduceMul]; omega)
      · simp(maxSteps:=9999999)(disch:=first|omega|(simp only[AN];omega))only[↓KP,EN,↓reduceIte,reduceCtorEq,Nat.reduceEqDiff,Nat.reduceAdd,Nat.reduceLeDiff,Nat.reduceMul]
    · by_cases hz : ((T.countP pr : Nat) : Int) = 0
      · simp(maxSteps:=9999999)(disch:=first|omega|(simp only[AN];omega))only[hx,eq_true hz,↓KP,EN,↓reduceIte,reduceCtorEq,Nat.reduceEqDiff,Nat.reduceAdd,Nat.reduceLeDiff,Nat.reduceMul]
        refine hend 2 _ (by rw [settledE, if_neg hx, if_pos hz]) ?_ fun b h5 h6 => ?_
        · first | omega | (simp(maxSteps:=9999999)(disch:=first|omega|(simp only[AN];omega))only[↓KP,EN,↓reduceIte,reduceCtorEq,Nat.reduceEqDiff,Nat.reduceAdd,Nat.reduceLeDiff,Nat.reduceMul]; omega)
        · simp(maxSteps:=9999999)(disch:=first|omega|(simp only[AN];omega))only[↓KP,EN,↓reduceIte,reduceCtorEq,Nat.reduceEqDiff,Nat.reduceAdd,Nat.reduceLeDiff,Nat.reduceMul]
      · simp(maxSteps:=9999999)(disch:=first|omega|(simp only[AN];omega))only[hx,hz,↓KP,EN,↓reduceIte,reduceCtorEq,Nat.reduceEqDiff,Nat.reduceAdd,Nat.reduceLeDiff,Nat.reduceMul]
        refine hend 0 _ (by rw [settledE, if_neg hx, if_neg hz]) ?_ fun b h5 h6 => ?_
        · first | omega | (simp(maxSteps:=9999999)(disch:=first|omega|(simp only[AN];omega))only[↓KP,EN,↓reduceIte,reduceCtorEq,Nat.reduceEqDiff,Nat.reduceAdd,Nat.reduceLeDiff,Nat.reduceMul]; omega)
        · simp(maxSteps:=9999999)(disch:=first|omega|(simp only[AN];omega))only[↓KP,EN,↓reduceIte,reduceCtorEq,Nat.reduceEqDiff,Nat.reduceAdd,Nat.reduceLeDiff,Nat.reduceMul]
  · intro x H2 _ _ _ h; exact h.elim
end Go.Proofs.Ytihahmggfjjkjaa
namespace Go.Proofs.Ytihahmggfjjkjaa
open Go.AM Go.IntWalk Go.PL
set_option maxRecDepth 100000
set_option maxHeartbeats 4000000
set_option linter.unusedSimpArgs false
variable {H : AH} {R : AV → AH → Prop}
variable {p m : Nat} {vl vg vf : AV} {s : Series} {but : Nat}
def AsksI (m : Nat) (H : AH) (fv : AV) (s : Series) (but : Nat) (f : Truth → Int) : Prop :=
  ∀ (t : Truth) (H1 : AH) (R : AV → AH → Prop), t ∈ truthsB s but → H.next ≤ H1.next → (∀ b, b < H.next → b ≠ m → H1.get b = H.get b) → (∀ H2, Grew H1 H2 → R (I (f t)) H2) → CallQ prog fv [.agg (flat (sp t)), .agg (arr8 (cntE (sp t)))] H1 R
def hullN (l : List Int) : Int × Int := if l = [] then nob else hull (l.map fun n => (n, n))
theorem hull_le {l : List Int} (h : l ≠ []) : (hull (l.map fun n => (n, n))).1 ≤ (hull (l.map fun n => (n, n))).2 := by
  obtain ⟨h1, ⟨x, hx, e1⟩, _⟩ := hull_spec (l := l.map fun n => (n, n)) (by simpa using h)
  obtain ⟨n, _, rfl⟩ := List.mem_map.1 hx
  have := h1 _ hx
  simp only at e1 this
  omega
theorem hullN_nob {l : List Int} : hullN l = nob ↔ l = [] := by
  unfold hullN
  split
  · rename_i h; simp [h]
  · rename_i h
    have := hull_le h
    constructor
    · intro e
      have e1 : (hull (l.map fun n => (n, n))).1 = 0 := congrArg Prod.fst e
      have e2 : (hull (l.map fun n => (n, n))).2 = -1 := congrArg Prod.snd e
      omega
    · intro e; exact absurd e h
theorem hullN_snoc {l : List Int} {n : Int} : hullN (l ++ [n]) = if l = [] then (n, n) else (min (hullN l).1 n, max (hullN l).2 n) := by
  unfold hullN
  rw [if_neg (by simp)]
  split
  · rename_i h; subst h; rfl
  · rename_i h
    rw [List.map_append]
    cases l with
    | nil => exact absurd rfl h
    | cons a l =>
      rw [Int.min_comm, Int.max_comm]
      simp [hull, hullFrom, List.foldl_append, join]
theorem hull_run {g : Nat} {fs cs : List AV} {f : Truth → Int} (hfine : Fine s) (hbut : but < 1000) (hr : Held p m vl vg vf s but H) (hf : AsksI m H (.func g fs cs) s but f)
    (k : ∀ H', GrewBut m H H' → R (.agg [I (hullN ((truthsB s but).map f)).1, I (hullN ((truthsB s but).map f)).2]) H') : CallQ prog (.func 67 [] []) [.ptr p 0, .func g fs cs] H R := by
  have hml := hr.mlt
  refine CallQ_enter (fn:=c67) rfl (Nat.le_of_ble_eq_true rfl) ?_;simp(maxSteps:=9999999)(disch:=first|omega|(simp only[AN];omega))only[c67,envFrom,↓KP,EN,↓reduceIte,reduceCtorEq,Nat.reduceEqDiff,Nat.reduceAdd,Nat.reduceLeDiff,Nat.reduceMul]
  first|refine C_call ?_|refine C_calld ?_
  refine nobody_run fun H0 hg0 => ?_
  have hg0n:=hg0.next;try simp only[AN]at hg0n
  simp(maxSteps:=9999999)(disch:=first|omega|(simp only[AN];omega))only[hg0.get,↓KP,EN,↓reduceIte,reduceCtorEq,Nat.reduceEqDiff,Nat.reduceAdd,Nat.reduceLeDiff,Nat.reduceMul]
  first|refine C_call ?_|refine C_calld ?_
  refine truths_run p ?_
  simp(maxSteps:=9999999)(disch:=first|omega|(simp only[AN];omega))only[↓KP,EN,↓reduceIte,reduceCtorEq,Nat.reduceEqDiff,Nat.reduceAdd,Nat.reduceLeDiff,Nat.reduceMul]
  generalize hB : (H0.set (H.next + 1) (.cells false [I 0, I (-1)])).alloc (.cells false [.ptr p 0]) = B
  have hgB : Grew H B := by rw [← hB]; exact GW
  have hr1 := hr.up hgB
  have e0 : B.get H.next = some (.cells false [.func g fs cs]) := by rw [← hB]; simp(maxSteps:=9999999)(disch:=first|omega|(simp only[AN];omega))only[hg0.get,↓KP,EN,↓reduceIte,reduceCtorEq,Nat.reduceEqDiff,Nat.reduceAdd,Nat.reduceLeDiff,Nat.reduceMul]
  have e1 : B.get (H.next + 1) = some (.cells false [I 0, I (-1)]) := by rw [← hB]; simp(maxSteps:=9999999)(disch:=first|omega|(simp only[AN];omega))only[↓KP,EN,↓reduceIte,reduceCtorEq,Nat.reduceEqDiff,Nat.reduceAdd,Nat.reduceLeDiff,Nat.reduceMul]
  have e3 : B.get H0.next = some (.cells false [.ptr p 0]) := by rw [← hB]; simp(maxSteps:=9999999)(disch:=first|omega|(simp only[AN];omega))only[↓KP,EN,↓reduceIte,reduceCtorEq,Nat.reduceEqDiff,Nat.reduceAdd,Nat.reduceLeDiff,Nat.reduceMul]
  have hBn : B.next = H0.next + 1 := by rw [← hB]; rfl
  clear hB
  have hi := hr1.inv (B := B) (bh := H0.next) (fun _ _ _ => rfl) (by omega) e3 (by omega)
  generalize hT : truthsB s but = T at *
  refine K_iter2 (L := yields s but) (K := Kh H.next H0.next) (Inv := Inv H.next p m H0.next vl vg vf s but B) (J := fun l => Jn H.next p m H0.next (fun b => l < b) vl vg vf s but B) rfl (truths_iter hfine hbut) hi (fun a ha => ?_)
    (fun done H2 => H2.get H.next = some (.cells false [.func g fs cs]) ∧ H2.get (H.next + 1) = some (.cells false [I (hullN ((T.take done.length).map f)).1, I (hullN ((T.take done.length).map f)).2]))
    (fun x H2 => False) ?_ ?_ ?_ ?_ ?_ ?_
  · obtain ⟨t, _, rfl⟩ := List.mem_map.1 ha; rfl
  · rintro done H1 H2 hn hs ⟨h1, h2⟩
    exact ⟨by rw [hs _ (by simp only [Kh]; omega) (by omega)]; exact h1, by rw [hs _ (by simp only [Kh]; omega) (by omega)]; exact h2⟩
  · intro x H1 H2 _ _ h; exact h
  · exact ⟨e0, e1⟩
  · rintro done a rest H1 hL hlt hj ⟨h1, h2⟩ hlo
    rw [yields, hT] at hL
    obtain ⟨hi', rfl⟩ := hand hL
    have hst : (T.take (done.length + 1)).map f = (T.take done.length).map f ++ [f T[done.length]] := map_take_succ hi'
    have htm : T[done.length] ∈ truthsB s but := by rw [hT]; exact List.getElem_mem hi'
    generalize T[done.length] = t at *
    have hef := eight_flat t
    have hsn := hullN_snoc (l := (T.take done.length).map f) (n := f t)
    rw [← hst] at hsn
    have hnb := hullN_nob (l := (T.take done.length).map f)
    generalize hX : hullN ((T.take done.length).map f) = X at *
    have hy : ∀ (S : AH), S.get H.next = some (.cells false [.func g fs cs]) → S.get (H.next + 1) = some (.cells false [I (hullN ((T.take (done.length + 1)).map f)).1, I (hullN ((T.take (done.length + 1)).map f)).2]) → S.get H.next = some (.cells false [.func g fs cs]) ∧ S.get (H.next + 1) = some (.cells false [I (hullN ((T.take (done ++ [argT t]).length).map f)).1, I (hullN ((T.take (done ++ [argT t]).length).map f)).2]) := fun S a b => by
      rw [List.length_append, List.length_singleton]; exact ⟨a, b⟩
    simp(maxSteps:=9999999)(disch:=first|omega|(simp only[AN];omega))only[K8,hlo,argT,h1,h2,hef,arr8,↓KP,EN,↓reduceIte,reduceCtorEq,Nat.reduceEqDiff,Nat.reduceAdd,Nat.reduceLeDiff,Nat.reduceMul]
    rw [← hef]
    first|refine C_call ?_|refine C_calld ?_
    refine hf t _ _ htm ?_ ?_ fun H2 hg2 => ?_
    · simp(maxSteps:=9999999)(disch:=first|omega|(simp only[AN];omega))only[↓KP,EN,↓reduceIte,reduceCtorEq,Nat.reduceEqDiff,Nat.reduceAdd,Nat.reduceLeDiff,Nat.reduceMul]; omega
    · intro b hb hm
      simp(maxSteps:=9999999)(disch:=first|omega|(simp only[AN];omega))only[hj.base,hgB.get,↓KP,EN,↓reduceIte,reduceCtorEq,Nat.reduceEqDiff,Nat.reduceAdd,Nat.reduceLeDiff,Nat.reduceMul]
    · have hg2n := hg2.next; simp only [AN] at hg2n
      simp(maxSteps:=9999999)(disch:=first|omega|(simp only[AN];omega))only[K8,↓KP,EN,↓reduceIte,reduceCtorEq,Nat.reduceEqDiff,Nat.reduceAdd,Nat.reduceLeDiff,Nat.reduceMul]
      refine K_draw ?_
      simp(maxSteps:=9999999)(disch:=first|omega|(simp only[AN];omega))only[hg2.get,h2,↓KP,EN,↓reduceIte,reduceCtorEq,Nat.reduceEqDiff,Nat.reduceAdd,Nat.reduceLeDiff,Nat.reduceMul]
      refine C_calld ?_
      refine nobody_run fun H3 hg3 => ?_
      have hg3n:=hg3.next;try simp only[AN]at hg3n
      have hg3n := hg3.next
      have hq : eqFlatA true [.i, .i] (.agg [I X.1, I X.2]) (.agg [I 0, I (-1)]) = some (decide (X = nob)) := eqsP X nob
      by_cases hx : X = nob
      · rw [decide_eq_true hx] at hq
        rw [if_pos (hnb.1 hx)] at hsn
        simp(maxSteps:=9999999)(disch:=first|omega|(simp only[AN];omega))only[K8,hq,hg3.get,hg2.get,h2,Int.min_self,Int.max_self,↓KP,EN,↓reduceIte,reduceCtorEq,Nat.reduceEqDiff,Nat.reduceAdd,Nat.reduceLeDiff,Nat.reduceMul]
        refine K_bod ⟨?_, ⟨?_, fun b hb hc => ?_⟩, hy _ ?_ ?_⟩
        · simp(maxSteps:=9999999)(disch:=first|omega|(simp only[AN];omega))only[hg3.get,hg2.get,↓KP,EN,↓reduceIte,reduceCtorEq,Nat.reduceEqDiff,Nat.reduceAdd,Nat.reduceLeDiff,Nat.reduceMul]
        · first | omega | (simp(maxSteps:=9999999)(disch:=first|omega|(simp only[AN];omega))only[↓KP,EN,↓reduceIte,reduceCtorEq,Nat.reduceEqDiff,Nat.reduceAdd,Nat.reduceLeDiff,Nat.reduceMul]; omega)
        · simp only [Kh] at hc; simp(maxSteps:=9999999)(disch:=first|omega|(simp only[AN];omega))only[hg3.get,hg2.get,↓KP,EN,↓reduceIte,reduceCtorEq,Nat.reduceEqDiff,Nat.reduceAdd,Nat.reduceLeDiff,Nat.reduceMul]
        · simp(maxSteps:=9999999)(disch:=first|omega|(simp only[AN];omega))only[hg3.get,hg2.get,h1,↓KP,EN,↓reduceIte,reduceCtorEq,Nat.reduceEqDiff,Nat.reduceAdd,Nat.reduceLeDiff,Nat.reduceMul]
        · rw [hsn]; simp(maxSteps:=9999999)(disch:=first|omega|(simp only[AN];omega))only[↓KP,EN,↓reduceIte,reduceCtorEq,Nat.reduceEqDiff,Nat.reduceAdd,Nat.reduceLeDiff,Nat.reduceMul]
      · rw [decide_eq_false hx] at hq
        rw [if_neg (fun e => hx (hnb.2 e))] at hsn
        simp(maxSteps:=9999999)(disch:=first|omega|(simp only[AN];omega))only[K8,hq,hg3.get,hg2.get,h2,↓KP,EN,↓reduceIte,reduceCtorEq,Nat.reduceEqDiff,Nat.reduceAdd,Nat.reduceLeDiff,Nat.reduceMul]
        refine K_bod ⟨?_, ⟨?_, fun b hb hc => ?_⟩, hy _ ?_ ?_⟩
        · simp(maxSteps:=9999999)(disch:=first|omega|(simp only[AN];omega))only[hg3.get,hg2.get,↓KP,EN,↓reduceIte,reduceCtorEq,Nat.reduceEqDiff,Nat.reduceAdd,Nat.reduceLeDiff,Nat.reduceMul]
        · first | omega | (simp(maxSteps:=9999999)(disch:=first|omega|(simp only[AN];omega))only[↓KP,EN,↓reduceIte,reduceCtorEq,Nat.reduceEqDiff,Nat.reduceAdd,Nat.reduceLeDiff,Nat.reduceMul]; omega)
        · simp only [Kh] at hc; simp(maxSteps:=9999999)(disch:=first|omega|(simp only[AN];omega))only[hg3.get,hg2.get,↓KP,EN,↓reduceIte,reduceCtorEq,Nat.reduceEqDiff,Nat.reduceAdd,Nat.reduceLeDiff,Nat.reduceMul]
        · simp(maxSteps:=9999999)(disch:=first|omega|(simp only[AN];omega))only[hg3.get,hg2.get,h1,↓KP,EN,↓reduceIte,reduceCtorEq,Nat.reduceEqDiff,Nat.reduceAdd,Nat.reduceLeDiff,Nat.reduceMul]
        · rw [hsn]; simp(maxSteps:=9999999)(disch:=first|omega|(simp only[AN];omega))only[↓KP,EN,↓reduceIte,reduceCtorEq,Nat.reduceEqDiff,Nat.reduceAdd,Nat.reduceLeDiff,Nat.reduceMul]
  · rintro H2 hn hj ⟨h1, h2⟩
    rw [show (yields s but).length = T.length by rw [yields, hT, List.length_map], List.take_length] at h2
    simp(maxSteps:=9999999)(disch:=first|omega|(simp only[AN];omega))only[h2,↓KP,EN,↓reduceIte,reduceCtorEq,Nat.reduceEqDiff,Nat.reduceAdd,Nat.reduceLeDiff,Nat.reduceMul]
    refine k _ ⟨?_, fun b h5 h6 => ?_⟩
    · first | omega | (simp(maxSteps:=9999999)(disch:=first|omega|(simp only[AN];omega))only[↓KP,EN,↓reduceIte,reduceCtorEq,Nat.reduceEqDiff,Nat.reduceAdd,Nat.reduceLeDiff,Nat.reduceMul]; omega)
    · simp(maxSteps:=9999999)(disch:=first|omega|(simp only[AN];omega))only[hj.base,hgB.get,↓KP,EN,↓reduceIte,reduceCtorEq,Nat.reduceEqDiff,Nat.reduceAdd,Nat.reduceLeDiff,Nat.reduceMul]
  · intro x H2 _ _ _ h; exact h.elim
end Go.Proofs.Ytihahmggfjjkjaa
namespace Go.Proofs.Ytihahmggfjjkjaa
open Go.AM Go.IntWalk Go.PL
set_option maxRecDepth 100000
set_option maxHeartbeats 4000000
set_option linter.unusedSimpArgs false
variable {H : AH} {R : AV → AH → Prop}
variable {p m : Nat} {vl vg vf : AV} {s : Series} {but : Nat}
theorem flat_get : ∀ {q : List (Int × Int)} {k : Nat}, k < q.length → (flat q)[k * 2]? = some (I (getN q k).1) ∧ (flat q)[k * 2 + 1]? = some (I (getN q k).2)
  | [], _, h => by simp at h
  | a :: q, 0, _ => ⟨rfl, rfl⟩
  | a :: q, k + 1, h => by
    have ih := flat_get (q := q) (k := k) (by simpa using h)
    rw [show (k + 1) * 2 = k * 2 + 1 + 1 from by omega]
    exact ih
theorem sp_get {t : Truth} {k : Nat} (h : k < 3) : getN (sp t) k = getN t.1 k := by
  match k, h with
  | 0, _ => rfl
  | 1, _ => rfl
  | 2, _ => rfl
theorem getN_getP {l : List (Int × Int)} {k : Nat} (h : k < l.length) : getN l k = getP l k := by
  simp [getN, getP, h]
theorem idx4 (b : Nat) {n : Int} {d : Nat} (hn : n = d) (h : d < 4) : ∀ S, opIdxArr 4 2 (.ptr b 0) (.int .i64 n) S = some (.ptr b (d * 2), S) := fun S => by
  subst hn
  simp [opIdxArr, natOf, h]
theorem there1_run (bg bd g : Nat) (d : Int) (t : Truth) (e1 : H.get bg = some (.cells false [I g])) (e2 : H.get bd = some (.cells false [I d])) (l1 : bg < H.next) (l2 : bd < H.next) (hg : g < 3)
    (k : ∀ H', Grew H H' → R (.bool (inS d (getN t.1 g))) H') : CallQ prog (.func 63 [] [.ptr bg 0, .ptr bd 0]) [.agg (flat (sp t))] H R := by
  have hix := idx4 H.next (n := (g : Int)) rfl (show g < 4 by omega)
  obtain ⟨f1, f2⟩ := flat_get (q := sp t) (k := g) (by simp [sp]; omega)
  rw [sp_get hg] at f1 f2
  rw [eight_flat] at f1 f2 ⊢
  refine CallQ_enter (fn:=c63) rfl (Nat.le_of_ble_eq_true rfl) ?_;simp(maxSteps:=9999999)(disch:=first|omega|(simp only[AN];omega))only[c63,envFrom,↓KP,EN,↓reduceIte,reduceCtorEq,Nat.reduceEqDiff,Nat.reduceAdd,Nat.reduceLeDiff,Nat.reduceMul]
  refine K_draw ?_
  simp(maxSteps:=9999999)(disch:=first|omega|(simp only[AN];omega))only[e1,e2,hix,f1,f2,↓KP,EN,↓reduceIte,reduceCtorEq,Nat.reduceEqDiff,Nat.reduceAdd,Nat.reduceLeDiff,Nat.reduceMul]
  refine C_calld ?_
  refine out1_run _ _ _ rfl ?_
  have : inS d (getN t.1 g) = !offP (getN t.1 g).1 (getN t.1 g).2 d := by
    cases ho : offP (getN t.1 g).1 (getN t.1 g).2 d with
    | true =>
      have := offP_true.1 ho
      simp only [inS, Bool.not_true, Bool.and_eq_false_iff, decide_eq_false_iff_not]; omega
    | false =>
      have := offP_false.1 ho
      simp [inS, this]
  rw [this] at k
  simp(maxSteps:=9999999)(disch:=first|omega|(simp only[AN];omega))only[e1,e2,hix,f1,f2,↓KP,EN,↓reduceIte,reduceCtorEq,Nat.reduceEqDiff,Nat.reduceAdd,Nat.reduceLeDiff,Nat.reduceMul]
  exact k _ GW
theorem number1_run (bd d : Nat) (t : Truth) (e1 : H.get bd = some (.cells false [I d])) (l1 : bd < H.next) (hd : d < 8)
    (k : ∀ H', Grew H H' → R (I (cntE (sp t) d)) H') : CallQ prog (.func 68 [] [.ptr bd 0]) [.agg (flat (sp t)), .agg (arr8 (cntE (sp t)))] H R := by
  have hix := idx8 (H.next + 1) (n := (d : Int)) rfl hd
  have f1 := arr8_get (f := cntE (sp t)) hd
  simp only [arr8] at f1 ⊢
  rw [eight_flat]
  refine CallQ_enter (fn:=c68) rfl (Nat.le_of_ble_eq_true rfl) ?_;simp(maxSteps:=9999999)(disch:=first|omega|(simp only[AN];omega))only[c68,envFrom,e1,hix,f1,↓KP,EN,↓reduceIte,reduceCtorEq,Nat.reduceEqDiff,Nat.reduceAdd,Nat.reduceLeDiff,Nat.reduceMul]
  exact k _ GW
theorem lasted1_run (bg g : Nat) (t : Truth) (e1 : H.get bg = some (.cells false [I g])) (l1 : bg < H.next) (hg : g < 3) (ho : okS (getN t.1 g))
    (k : ∀ H', Grew H H' → R (I (daysE (getN t.1 g))) H') : CallQ prog (.func 70 [] [.ptr bg 0]) [.agg (flat (sp t)), .agg (arr8 (cntE (sp t)))] H R := by
  have hix := idx4 H.next (n := (g : Int)) rfl (show g < 4 by omega)
  obtain ⟨f1, f2⟩ := flat_get (q := sp t) (k := g) (by simp [sp]; omega)
  rw [sp_get hg] at f1 f2
  obtain ⟨o1, o2, o3⟩ := ho
  have w1 : IntKind.i64.wrap ((getN t.1 g).2 - (getN t.1 g).1) = (getN t.1 g).2 - (getN t.1 g).1 := i64_in _ (by omega)
  have w2 : IntKind.i64.wrap ((getN t.1 g).2 - (getN t.1 g).1 + 1) = (getN t.1 g).2 - (getN t.1 g).1 + 1 := i64_in _ (by omega)
  rw [eight_flat] at f1 f2 ⊢
  simp only [arr8]
  refine CallQ_enter (fn:=c70) rfl (Nat.le_of_ble_eq_true rfl) ?_;simp(maxSteps:=9999999)(disch:=first|omega|(simp only[AN];omega))only[c70,envFrom,↓KP,EN,↓reduceIte,reduceCtorEq,Nat.reduceEqDiff,Nat.reduceAdd,Nat.reduceLeDiff,Nat.reduceMul]
  refine K_draw ?_
  simp(maxSteps:=9999999)(disch:=first|omega|(simp only[AN];omega))only[e1,hix,f1,f2,w1,w2,↓KP,EN,↓reduceIte,reduceCtorEq,Nat.reduceEqDiff,Nat.reduceAdd,Nat.reduceLeDiff,Nat.reduceMul]
  exact k _ GW
theorem unseen1_run (t : Truth) (ho : ∀ x, t.2 = some x → 0 ≤ x.2) (k : ∀ H', Grew H H' → R (.bool t.2.isSome) H') : CallQ prog (.func 73 [] []) [.agg (flat (sp t))] H R := by
  have hix : ∀ S, opIdxArr 4 2 (.ptr H.next 0) (.int .i64 3) S = some (.ptr H.next 6, S) := fun S => rfl
  have hq : eqFlatA true [.i, .i] (.agg [I (t.2.getD nob).1, I (t.2.getD nob).2]) (.agg [I 0, I (-1)]) = some (decide (t.2.getD nob = nob)) := eqsP _ nob
  have hd : t.2.isSome = !decide (t.2.getD nob = nob) := by
    cases h : t.2 with
    | none => rfl
    | some x =>
      have := ho x h
      have hne : ¬ x = nob := fun e => by rw [e] at this; exact absurd this (by decide)
      simp [hne]
  rw [hd] at k
  rw [eight_flat]
  refine CallQ_enter (fn:=c73) rfl (Nat.le_of_ble_eq_true rfl) ?_;simp(maxSteps:=9999999)(disch:=first|omega|(simp only[AN];omega))only[c73,envFrom,↓KP,EN,↓reduceIte,reduceCtorEq,Nat.reduceEqDiff,Nat.reduceAdd,Nat.reduceLeDiff,Nat.reduceMul]
  refine K_draw ?_
  simp(maxSteps:=9999999)(disch:=first|omega|(simp only[AN];omega))only[hix,↓KP,EN,↓reduceIte,reduceCtorEq,Nat.reduceEqDiff,Nat.reduceAdd,Nat.reduceLeDiff,Nat.reduceMul]
  refine C_calld ?_
  refine nobody_run fun H1 hg1 => ?_
  have hg1n:=hg1.next;try simp only[AN]at hg1n
  simp(maxSteps:=9999999)(disch:=first|omega|(simp only[AN];omega))only[hix,hg1.get,hq,↓KP,EN,↓reduceIte,reduceCtorEq,Nat.reduceEqDiff,Nat.reduceAdd,Nat.reduceLeDiff,Nat.reduceMul]
  exact k _ GW
end Go.Proofs.Ytihahmggfjjkjaa
namespace Go.Proofs.Ytihahmggfjjkjaa
open Go.AM Go.IntWalk Go.PL
set_option maxRecDepth 100000
set_option maxHeartbeats 4000000
set_option linter.unusedSimpArgs false
variable {H : AH} {R : AV → AH → Prop}
variable {p m : Nat} {vl vg vf : AV} {s : Series} {but : Nat}
theorem lit_slice (H : AH) (l : List Int) : IsInts (Old (H.alloc (.cells false (l.map I)))) (H.alloc (.cells false (l.map I))) (.slice H.next 0 l.length 1) l :=
  .inr ⟨H.next, 0, l.map I, rfl, by simp, by
    simp only [AH.read, get_alloc_new, readN, List.length_map, Nat.mul_one, Nat.zero_add, Nat.le_refl, if_true, List.drop_zero]
    rw [List.take_of_length_le (by simp)], ints_rows l⟩
theorem enter2_ok {a b : Int} (hb : 0 ≤ b ∧ b ≤ 9223372036854775807) : ∀ j (hj : j < [a, b].length), j % 2 = 1 → 0 ≤ [a, b][j] ∧ [a, b][j] ≤ 9223372036854775807 := fun j hj h => by
  match j, hj, h with
  | 1, _, _ => exact hb
theorem enter4_ok {a b c d : Int} (hb : 0 ≤ b ∧ b ≤ 9223372036854775807) (hd : 0 ≤ d ∧ d ≤ 9223372036854775807) : ∀ j (hj : j < [a, b, c, d].length), j % 2 = 1 → 0 ≤ [a, b, c, d][j] ∧ [a, b, c, d][j] ≤ 9223372036854775807 := fun j hj h => by
  match j, hj, h with
  | 1, _, _ => exact hb
  | 3, _, _ => exact hd
theorem indexE_eq {n below : Int} : indexE s n below = if errE s ≠ 0 then errE s else if offP 0 (below - 1) n = true then 4 else 0 := by
  unfold indexE
  by_cases he : errE s = 0
  · by_cases ho : 0 ≤ n ∧ n ≤ below - 1
    · simp only [he, ho, offP_false.2 ho, ne_eq, not_true, if_true, if_false, and_self, Bool.false_eq_true]
    · simp only [he, ho, offP_true.2 ho, ne_eq, not_true, if_true, if_false]
  · simp only [he, ne_eq, not_false_iff, if_true, if_false]
theorem enter2_err {n below : Int} : enterErr s [n, below] = if indexE s n below ≠ 0 then indexE s n below else if truthsE s [] = [] then 8 else 0 := by
  have hp : pairsOff [n, below] = offP 0 (below - 1) n := by simp [pairsOff]
  rw [enterErr, indexE_eq, hp]
  by_cases he : errE s = 0
  · simp only [he, ne_eq, not_true, if_false]
    by_cases ho : offP 0 (below - 1) n = true
    · simp [ho]
    · simp [ho]
  · simp [he]
theorem enter4_err {g gl d dl : Int} : enterErr s [g, gl, d, dl] = if (if indexE s g gl = 0 then indexE s d dl else indexE s g gl) ≠ 0 then (if indexE s g gl = 0 then indexE s d dl else indexE s g gl) else if truthsE s [] = [] then 8 else 0 := by
  have hp : pairsOff [g, gl, d, dl] = (offP 0 (gl - 1) g || offP 0 (dl - 1) d) := by simp [pairsOff]
  rw [enterErr, indexE_eq, indexE_eq, hp]
  by_cases he : errE s = 0
  · simp only [he, ne_eq, not_true, if_false]
    by_cases ho : offP 0 (gl - 1) g = true
    · simp [ho]
    · by_cases ho2 : offP 0 (dl - 1) d = true
      · simp [ho, ho2]
      · simp [ho, ho2]
  · simp [he]
theorem There_run (vl vg vf : AV) (s : Series) (g d : Int) (hh : IsSer (Old H) H vl vg vf s) (hs : Sized s)
    (k : ∀ H', Grew H H' → R (.tuple [I (thereE s g d).1, I (thereE s g d).2]) H') : CallQ prog (.func 18 [] []) [serArg vl vg vf s, I g, I d] H R := by
  have hlen : (s.looked.length : Int) = s.len := rfl
  have hE : enterErr s [g, s.groups.length, d, s.looked.length] = if thereErr s g d ≠ 0 then thereErr s g d else if truthsE s [] = [] then 8 else 0 := enter4_err
  have hgl := hs.g
  have hdl := hs.l
  refine CallQ_enter (fn:=c18) rfl (Nat.le_of_ble_eq_true rfl) ?_;simp(maxSteps:=9999999)(disch:=first|omega|(simp only[AN];omega))only[c18,envFrom,hh.l.isCell,hh.g.isCell,hh.f.isCell,hh.g.len,hh.l.len,↓KP,EN,↓reduceIte,reduceCtorEq,Nat.reduceEqDiff,Nat.reduceAdd,Nat.reduceLeDiff,Nat.reduceMul]
  have hsl := lit_slice (((H.alloc (.cells false [vl, I s.lo, I s.hi, vg, .bool s.unseen, vf])).alloc (.cells false [I g])).alloc (.cells false [I d])) [g, s.groups.length, d, s.looked.length]
  generalize hHs : ((((H.alloc (.cells false [vl, I s.lo, I s.hi, vg, .bool s.unseen, vf])).alloc (.cells false [I g])).alloc (.cells false [I d])).alloc (.cells false [I g, I s.groups.length, I d, I s.looked.length])) = Hs
  have hgs : Grew H Hs := by rw [← hHs]; exact GW
  have b1 : Hs.get (H.next + 1) = some (.cells false [I g]) := by rw [← hHs]; simp(maxSteps:=9999999)(disch:=first|omega|(simp only[AN];omega))only[↓KP,EN,↓reduceIte,reduceCtorEq,Nat.reduceEqDiff,Nat.reduceAdd,Nat.reduceLeDiff,Nat.reduceMul]
  have b2 : Hs.get (H.next + 1 + 1) = some (.cells false [I d]) := by rw [← hHs]; simp(maxSteps:=9999999)(disch:=first|omega|(simp only[AN];omega))only[↓KP,EN,↓reduceIte,reduceCtorEq,Nat.reduceEqDiff,Nat.reduceAdd,Nat.reduceLeDiff,Nat.reduceMul]
  have hsn : Hs.next = H.next + 1 + 1 + 1 + 1 := by rw [← hHs]; rfl
  replace hsl : IsInts (Old Hs) Hs (.slice (H.next + 1 + 1 + 1) 0 4 1) [g, s.groups.length, d, s.looked.length] := by rw [← hHs]; exact hsl
  clear hHs
  first|refine C_call ?_|refine C_calld ?_
  refine enter_run vl vg vf _ s _ (hh.grow hgs) hs hsl (by simp) (enter4_ok (by omega) (by omega)) (fun he H1 hg1 => ?_) (fun he hfine ht H1 p m hg1 hm hheld => ?_)
  · rw [thereE] at k
    simp(maxSteps:=9999999)(disch:=first|omega|(simp only[AN];omega))only[he,↓KP,EN,↓reduceIte,reduceCtorEq,Nat.reduceEqDiff,Nat.reduceAdd,Nat.reduceLeDiff,Nat.reduceMul]
    rw [hE] at he ⊢
    by_cases h1 : thereErr s g d ≠ 0
    · rw [if_pos h1] at he k ⊢
      exact k _ GW
    · rw [if_neg h1] at he k ⊢
      by_cases h2 : truthsE s [] = []
      · rw [if_pos h2] at he k ⊢
        exact k _ GW
      · rw [if_neg h2] at he
        exact absurd rfl he
  · have h1 : thereErr s g d = 0 := by
      rw [hE] at he
      by_cases h1 : thereErr s g d ≠ 0
      · rw [if_pos h1] at he; exact absurd he h1
      · exact Classical.not_not.1 h1
    have hgd : (0 ≤ g ∧ g < s.groups.length) ∧ 0 ≤ d ∧ d < s.len := by
      unfold thereErr at h1
      split at h1
      · rename_i h0; exact ⟨(indexE_zero h0).2, (indexE_zero h1).2⟩
      · rename_i h0; exact absurd h1 h0
    obtain ⟨g', rfl⟩ : ∃ g' : Nat, g = g' := ⟨g.toNat, by omega⟩
    have hg3 := hfine.gl
    have hg1n := hg1.next
    rw [thereE, if_neg (fun h => h h1), if_neg ht, Int.toNat_natCast] at k
    simp(maxSteps:=9999999)(disch:=first|omega|(simp only[AN];omega))only[↓KP,EN,↓reduceIte,reduceCtorEq,Nat.reduceEqDiff,Nat.reduceAdd,Nat.reduceLeDiff,Nat.reduceMul]
    first|refine C_call ?_|refine C_calld ?_
    refine told_run (pr := fun t => inS d (getN t.1 g')) hfine (by omega) hheld (by rw [truthsB_zero hfine]; have := truthsE_length (but := []) hfine; omega) (fun t H2 R htm hn hb hk => ?_) fun H2 hg2 => ?_
    · exact there1_run _ _ g' d t (by rw [hb _ (by omega) (by omega), hg1.get _ (by omega)]; exact b1) (by rw [hb _ (by omega) (by omega), hg1.get _ (by omega)]; exact b2) (by omega) (by omega) (by omega) hk
    · rw [truthsB_zero hfine]
      have hcc : (truthsE s []).countP (fun t => inS d (getN t.1 g')) = (truthsE s []).countP fun t => inS d (getP t.1 g') := List.countP_congr fun t htm => by
        rw [getN_getP (by rw [truthsE_mem htm]; omega)]
      rw [hcc]
      simp(maxSteps:=9999999)(disch:=first|omega|(simp only[AN];omega))only[↓KP,EN,↓reduceIte,reduceCtorEq,Nat.reduceEqDiff,Nat.reduceAdd,Nat.reduceLeDiff,Nat.reduceMul]
      exact k _ ⟨by have := hg2.next; omega, fun b hb => by rw [hg2.get b (by omega) (by omega), hg1.get b (by omega), hgs.get b hb]⟩
end Go.Proofs.Ytihahmggfjjkjaa
namespace Go.Proofs.Ytihahmggfjjkjaa
open Go.AM Go.IntWalk Go.PL
set_option maxRecDepth 100000
set_option maxHeartbeats 4000000
set_option linter.unusedSimpArgs false
variable {H : AH} {R : AV → AH → Prop}
variable {p m : Nat} {vl vg vf : AV} {s : Series} {but : Nat}
theorem hullN_eq {ts : List Truth} {f g : Truth → Int} (h0 : ts ≠ []) (h : ∀ t ∈ ts, f t = g t) : hullN (ts.map f) = hull (ts.map fun t => (g t, g t)) := by
  unfold hullN
  rw [if_neg (by simpa using h0), List.map_map]
  congr 1
  exact List.map_congr_left fun t ht => by simp [h t ht]
theorem Number_run (vl vg vf : AV) (s : Series) (d : Int) (hh : IsSer (Old H) H vl vg vf s) (hs : Sized s)
    (k : ∀ H', Grew H H' → R (.tuple [.agg [I (numberE s d).1.1, I (numberE s d).1.2], I (numberE s d).2]) H') : CallQ prog (.func 20 [] []) [serArg vl vg vf s, I d] H R := by
  have hE : enterErr s [d, s.looked.length] = if indexE s d s.len ≠ 0 then indexE s d s.len else if truthsE s [] = [] then 8 else 0 := enter2_err
  have hdl := hs.l
  refine CallQ_enter (fn:=c20) rfl (Nat.le_of_ble_eq_true rfl) ?_;simp(maxSteps:=9999999)(disch:=first|omega|(simp only[AN];omega))only[c20,envFrom,hh.l.isCell,hh.g.isCell,hh.f.isCell,hh.g.len,hh.l.len,↓KP,EN,↓reduceIte,reduceCtorEq,Nat.reduceEqDiff,Nat.reduceAdd,Nat.reduceLeDiff,Nat.reduceMul]
  have hsl := lit_slice (((H.alloc (.cells false [vl, I s.lo, I s.hi, vg, .bool s.unseen, vf])).alloc (.cells false [I d])).alloc (.cells false [I 0, I 0])) [d, s.looked.length]
  generalize hHs : ((((H.alloc (.cells false [vl, I s.lo, I s.hi, vg, .bool s.unseen, vf])).alloc (.cells false [I d])).alloc (.cells false [I 0, I 0])).alloc (.cells false [I d, I s.looked.length])) = Hs
  have hgs : Grew H Hs := by rw [← hHs]; exact GW
  have b1 : Hs.get (H.next + 1) = some (.cells false [I d]) := by rw [← hHs]; simp(maxSteps:=9999999)(disch:=first|omega|(simp only[AN];omega))only[↓KP,EN,↓reduceIte,reduceCtorEq,Nat.reduceEqDiff,Nat.reduceAdd,Nat.reduceLeDiff,Nat.reduceMul]
  have b2 : Hs.get (H.next + 1 + 1) = some (.cells false [I 0, I 0]) := by rw [← hHs]; simp(maxSteps:=9999999)(disch:=first|omega|(simp only[AN];omega))only[↓KP,EN,↓reduceIte,reduceCtorEq,Nat.reduceEqDiff,Nat.reduceAdd,Nat.reduceLeDiff,Nat.reduceMul]
  have hsn : Hs.next = H.next + 1 + 1 + 1 + 1 := by rw [← hHs]; rfl
  replace hsl : IsInts (Old Hs) Hs (.slice (H.next + 1 + 1 + 1) 0 2 1) [d, s.looked.length] := by rw [← hHs]; exact hsl
  clear hHs
  first|refine C_call ?_|refine C_calld ?_
  refine enter_run vl vg vf _ s _ (hh.grow hgs) hs hsl (by simp) (enter2_ok (by omega)) (fun he H1 hg1 => ?_) (fun he hfine ht H1 p m hg1 hm hheld => ?_)
  · have hg1n := hg1.next
    rw [numberE] at k
    simp(maxSteps:=9999999)(disch:=first|omega|(simp only[AN];omega))only[he,hg1.get,b2,↓KP,EN,↓reduceIte,reduceCtorEq,Nat.reduceEqDiff,Nat.reduceAdd,Nat.reduceLeDiff,Nat.reduceMul]
    rw [hE] at he ⊢
    by_cases h1 : indexE s d s.len ≠ 0
    · rw [if_pos h1] at he k ⊢
      exact k _ GW
    · rw [if_neg h1] at he k ⊢
      by_cases h2 : truthsE s [] = []
      · rw [if_pos h2] at he k ⊢
        exact k _ GW
      · rw [if_neg h2] at he
        exact absurd rfl he
  · have h1 : indexE s d s.len = 0 := by
      rw [hE] at he
      by_cases h1 : indexE s d s.len ≠ 0
      · rw [if_pos h1] at he; exact absurd he h1
      · exact Classical.not_not.1 h1
    have hd := (indexE_zero h1).2
    obtain ⟨d', rfl⟩ : ∃ d' : Nat, d = d' := ⟨d.toNat, by omega⟩
    have hg3 := hfine.gl
    have hl8 := hfine.len.2
    have hg1n := hg1.next
    rw [numberE, if_neg (fun h => h h1), if_neg ht] at k
    simp(maxSteps:=9999999)(disch:=first|omega|(simp only[AN];omega))only[↓KP,EN,↓reduceIte,reduceCtorEq,Nat.reduceEqDiff,Nat.reduceAdd,Nat.reduceLeDiff,Nat.reduceMul]
    first|refine C_call ?_|refine C_calld ?_
    refine hull_run (f := fun t => cntE (sp t) d') hfine (by omega) hheld (fun t H2 R htm hn hb hk => ?_) fun H2 hg2 => ?_
    · exact number1_run _ d' t (by rw [hb _ (by omega) (by omega), hg1.get _ (by omega)]; exact b1) (by omega) (by omega) hk
    · have hg2n := hg2.next
      have b3 : H2.get (H.next + 1 + 1) = some (.cells false [I 0, I 0]) := by rw [hg2.get _ (by omega) (by omega), hg1.get _ (by omega)]; exact b2
      have hg4 : Grew H H2 := ⟨by omega, fun b hb => by rw [hg2.get b (by omega) (by omega), hg1.get b (by omega), hgs.get b hb]⟩
      rw [truthsB_zero hfine, hullN_eq (g := fun t => onE t d') ht fun t htm => cnt_on (by rw [truthsE_mem htm]; omega) d']
      simp(maxSteps:=9999999)(disch:=first|omega|(simp only[AN];omega))only[b3,↓KP,EN,↓reduceIte,reduceCtorEq,Nat.reduceEqDiff,Nat.reduceAdd,Nat.reduceLeDiff,Nat.reduceMul]
      exact k _ GW
theorem Lasted_run (vl vg vf : AV) (s : Series) (g : Int) (hh : IsSer (Old H) H vl vg vf s) (hs : Sized s)
    (k : ∀ H', Grew H H' → R (.tuple [.agg [I (lastedE s g).1.1, I (lastedE s g).1.2], I (lastedE s g).2]) H') : CallQ prog (.func 23 [] []) [serArg vl vg vf s, I g] H R := by
  have hE : enterErr s [g, s.groups.length] = if indexE s g s.groups.length ≠ 0 then indexE s g s.groups.length else if truthsE s [] = [] then 8 else 0 := enter2_err
  have hdl := hs.g
  refine CallQ_enter (fn:=c23) rfl (Nat.le_of_ble_eq_true rfl) ?_;simp(maxSteps:=9999999)(disch:=first|omega|(simp only[AN];omega))only[c23,envFrom,hh.l.isCell,hh.g.isCell,hh.f.isCell,hh.g.len,hh.l.len,↓KP,EN,↓reduceIte,reduceCtorEq,Nat.reduceEqDiff,Nat.reduceAdd,Nat.reduceLeDiff,Nat.reduceMul]
  have hsl := lit_slice (((H.alloc (.cells false [vl, I s.lo, I s.hi, vg, .bool s.unseen, vf])).alloc (.cells false [I g])).alloc (.cells false [I 0, I 0])) [g, s.groups.length]
  generalize hHs : ((((H.alloc (.cells false [vl, I s.lo, I s.hi, vg, .bool s.unseen, vf])).alloc (.cells false [I g])).alloc (.cells false [I 0, I 0])).alloc (.cells false [I g, I s.groups.length])) = Hs
  have hgs : Grew H Hs := by rw [← hHs]; exact GW
  have b1 : Hs.get (H.next + 1) = some (.cells false [I g]) := by rw [← hHs]; simp(maxSteps:=9999999)(disch:=first|omega|(simp only[AN];omega))only[↓KP,EN,↓reduceIte,reduceCtorEq,Nat.reduceEqDiff,Nat.reduceAdd,Nat.reduceLeDiff,Nat.reduceMul]
  have b2 : Hs.get (H.next + 1 + 1) = some (.cells false [I 0, I 0]) := by rw [← hHs]; simp(maxSteps:=9999999)(disch:=first|omega|(simp only[AN];omega))only[↓KP,EN,↓reduceIte,reduceCtorEq,Nat.reduceEqDiff,Nat.reduceAdd,Nat.reduceLeDiff,Nat.reduceMul]
  have hsn : Hs.next = H.next + 1 + 1 + 1 + 1 := by rw [← hHs]; rfl
  replace hsl : IsInts (Old Hs) Hs (.slice (H.next + 1 + 1 + 1) 0 2 1) [g, s.groups.length] := by rw [← hHs]; exact hsl
  clear hHs
  first|refine C_call ?_|refine C_calld ?_
  refine enter_run vl vg vf _ s _ (hh.grow hgs) hs hsl (by simp) (enter2_ok (by omega)) (fun he H1 hg1 => ?_) (fun he hfine ht H1 p m hg1 hm hheld => ?_)
  · have hg1n := hg1.next
    rw [lastedE] at k
    simp(maxSteps:=9999999)(disch:=first|omega|(simp only[AN];omega))only[he,hg1.get,b2,↓KP,EN,↓reduceIte,reduceCtorEq,Nat.reduceEqDiff,Nat.reduceAdd,Nat.reduceLeDiff,Nat.reduceMul]
    rw [hE] at he ⊢
    by_cases h1 : indexE s g s.groups.length ≠ 0
    · rw [if_pos h1] at he k ⊢
      exact k _ GW
    · rw [if_neg h1] at he k ⊢
      by_cases h2 : truthsE s [] = []
      · rw [if_pos h2] at he k ⊢
        exact k _ GW
      · rw [if_neg h2] at he
        exact absurd rfl he
  · have h1 : indexE s g s.groups.length = 0 := by
      rw [hE] at he
      by_cases h1 : indexE s g s.groups.length ≠ 0
      · rw [if_pos h1] at he; exact absurd he h1
      · exact Classical.not_not.1 h1
    have hd := (indexE_zero h1).2
    obtain ⟨g', rfl⟩ : ∃ g' : Nat, g = g' := ⟨g.toNat, by omega⟩
    have hg3 := hfine.gl
    have hl8 := hfine.len.2
    have hg1n := hg1.next
    rw [lastedE, if_neg (fun h => h h1), if_neg ht, Int.toNat_natCast] at k
    have hgl : g' < s.groups.length := by omega
    have hge : ∀ t ∈ truthsE s [], getN t.1 g' = getP t.1 g' ∧ okS (getN t.1 g') := fun t htm => by
      have e := getN_getP (l := t.1) (k := g') (by rw [truthsE_mem htm]; omega)
      obtain ⟨lo, hi, u1, u2, _, u4⟩ := truth_get htm hgl
      refine ⟨e, ?_⟩
      rw [e, u4]
      exact ⟨by simp, by simp only; omega, by simp only; omega⟩
    simp(maxSteps:=9999999)(disch:=first|omega|(simp only[AN];omega))only[↓KP,EN,↓reduceIte,reduceCtorEq,Nat.reduceEqDiff,Nat.reduceAdd,Nat.reduceLeDiff,Nat.reduceMul]
    first|refine C_call ?_|refine C_calld ?_
    refine hull_run (f := fun t => daysE (getN t.1 g')) hfine (by omega) hheld (fun t H2 R htm hn hb hk => ?_) fun H2 hg2 => ?_
    · rw [truthsB_zero hfine] at htm
      exact lasted1_run _ g' t (by rw [hb _ (by omega) (by omega), hg1.get _ (by omega)]; exact b1) (by omega) (by omega) (hge t htm).2 hk
    · have hg2n := hg2.next
      have b3 : H2.get (H.next + 1 + 1) = some (.cells false [I 0, I 0]) := by rw [hg2.get _ (by omega) (by omega), hg1.get _ (by omega)]; exact b2
      have hg4 : Grew H H2 := ⟨by omega, fun b hb => by rw [hg2.get b (by omega) (by omega), hg1.get b (by omega), hgs.get b hb]⟩
      rw [truthsB_zero hfine, hullN_eq (g := fun t => daysE (getP t.1 g')) ht fun t htm => by rw [(hge t htm).1]]
      simp(maxSteps:=9999999)(disch:=first|omega|(simp only[AN];omega))only[b3,↓KP,EN,↓reduceIte,reduceCtorEq,Nat.reduceEqDiff,Nat.reduceAdd,Nat.reduceLeDiff,Nat.reduceMul]
      exact k _ GW
theorem enter0_err : enterErr s [] = if errE s ≠ 0 then errE s else if truthsE s [] = [] then 8 else 0 := by
  rw [enterErr]; simp [pairsOff]
theorem Unseen_run (vl vg vf : AV) (s : Series) (hh : IsSer (Old H) H vl vg vf s) (hs : Sized s)
    (k : ∀ H', Grew H H' → R (.tuple [I (unseenE s).1, I (unseenE s).2]) H') : CallQ prog (.func 25 [] []) [serArg vl vg vf s] H R := by
  refine CallQ_enter (fn:=c25) rfl (Nat.le_of_ble_eq_true rfl) ?_;simp(maxSteps:=9999999)(disch:=first|omega|(simp only[AN];omega))only[c25,envFrom,hh.l.isCell,hh.g.isCell,hh.f.isCell,↓KP,EN,↓reduceIte,reduceCtorEq,Nat.reduceEqDiff,Nat.reduceAdd,Nat.reduceLeDiff,Nat.reduceMul]
  first|refine C_call ?_|refine C_calld ?_
  refine enter_run vl vg vf _ s [] (hh.grow GW) hs (.inl ⟨rfl, rfl⟩) (by simp) (fun j hj => by simp at hj) (fun he H1 hg1 => ?_) (fun he hfine ht H1 p m hg1 hm hheld => ?_)
  · have hg1n := hg1.next
    rw [unseenE] at k
    simp(maxSteps:=9999999)(disch:=first|omega|(simp only[AN];omega))only[he,↓KP,EN,↓reduceIte,reduceCtorEq,Nat.reduceEqDiff,Nat.reduceAdd,Nat.reduceLeDiff,Nat.reduceMul]
    rw [enter0_err] at he ⊢
    by_cases h1 : errE s ≠ 0
    · rw [if_pos h1] at he k ⊢
      exact k _ GW
    · rw [if_neg h1] at he k ⊢
      by_cases h2 : truthsE s [] = []
      · rw [if_pos h2] at he k ⊢
        exact k _ GW
      · rw [if_neg h2] at he
        exact absurd rfl he
  · have h1 : errE s = 0 := by
      rw [enter0_err] at he
      by_cases h1 : errE s ≠ 0
      · rw [if_pos h1] at he; exact absurd he h1
      · exact Classical.not_not.1 h1
    have hg1n := hg1.next; simp only [AN] at hg1n
    simp only [AN] at hm
    rw [unseenE, if_neg (fun h => h h1), if_neg ht] at k
    simp(maxSteps:=9999999)(disch:=first|omega|(simp only[AN];omega))only[↓KP,EN,↓reduceIte,reduceCtorEq,Nat.reduceEqDiff,Nat.reduceAdd,Nat.reduceLeDiff,Nat.reduceMul]
    first|refine C_call ?_|refine C_calld ?_
    refine told_run (pr := fun t => t.2.isSome) hfine (by omega) hheld (by rw [truthsB_zero hfine]; have := truthsE_length (but := []) hfine; omega) (fun t H2 R htm hn hb hk => ?_) fun H2 hg2 => ?_
    · rw [truthsB_zero hfine] at htm
      refine unseen1_run t (fun x hx => ?_) hk
      rcases (mem_allE.1 (mem_truthsE.1 htm).1).2 with h | ⟨_, y, hy, h⟩
      · rw [h] at hx; cases hx
      · rw [h] at hx
        obtain rfl := Option.some.inj hx
        obtain ⟨lo, hi, _, _, _, rfl⟩ := mem_stays.1 hy
        simp
    · rw [truthsB_zero hfine]
      have hg2n := hg2.next
      have hg0 : Grew H H1 := Grew.trans GW hg1
      simp(maxSteps:=9999999)(disch:=first|omega|(simp only[AN];omega))only[↓KP,EN,↓reduceIte,reduceCtorEq,Nat.reduceEqDiff,Nat.reduceAdd,Nat.reduceLeDiff,Nat.reduceMul]
      exact k _ ⟨by omega, fun b hb => by rw [hg2.get b (by omega) (by omega), hg0.get b hb]⟩
end Go.Proofs.Ytihahmggfjjkjaa
namespace Go.Proofs.Ytihahmggfjjkjaa
open Go.AM Go.IntWalk Go.PL
set_option maxRecDepth 100000
set_option maxHeartbeats 4000000
set_option linter.unusedSimpArgs false
variable {H : AH} {R : AV → AH → Prop}
variable {p m : Nat} {vl vg vf : AV} {s : Series} {but : Nat}
theorem rep2_length (n : Nat) : (repeatL [I 0, I 0] n).length = n * 2 := by
  induction n with
  | zero => rfl
  | succ n ih => simp only [repeatL, List.length_append, ih, List.length_cons, List.length_nil]; omega
theorem flat_length (q : List (Int × Int)) : (flat q).length = q.length * 2 := by
  induction q with
  | nil => rfl
  | cons a q ih => simp only [flat, List.flatMap_cons, List.length_append, List.length_cons, List.length_nil] at ih ⊢; omega
theorem flat_cell (q : List (Int × Int)) : (flat q).all AV.isCell = true := by
  induction q with
  | nil => rfl
  | cons a q ih =>
    simp only [flat, List.flatMap_cons, List.all_append] at ih ⊢
    rw [ih]; rfl
theorem flat_rows (F : Nat → Prop) (H : AH) : ∀ q : List (Int × Int), Go.AM.Rows 2 (EP F H) (flat q) q
  | [] => .nil
  | a :: q => .cons (cs := [I a.1, I a.2]) rfl rfl (flat_rows F H q)
theorem flat_sp {t : Truth} (h : t.1.length ≤ 3) : (flat (sp t)).take (t.1.length * 2) = flat t.1 := by
  obtain ⟨g, mo⟩ := t
  match g, h with
  | [], _ => rfl
  | [a], _ => rfl
  | [a, b], _ => rfl
  | [a, b, c], _ => rfl
theorem makeP {S : AH} {n : Nat} (hn : n ≤ 1000) : opMakeSlice 2 16 [I 0, I 0] (I n) (I n) S = some (.slice S.next 0 n 2, S.alloc (.cells false (repeatL [I 0, I 0] n))) := by
  have h1 : n ≤ roomA ∧ 16 * n ≤ roomA := by unfold roomA; omega
  simp [opMakeSlice, natOf, h1]
theorem copy_first {n b7 bz : Nat} {t : Truth} (ht : t.1.length = n) (hn : n ≤ 3) (h7 : H.get b7 = some (.cells false (flat (sp t)))) (hz : H.get bz = some (.cells false (repeatL [I 0, I 0] n))) : copyA H 2 (.slice bz 0 n 2) (.slice b7 0 (4 - 0) 2) = some (I n, H.set bz (.cells false (flat t.1))) := by
  subst ht
  have h4 : (flat (sp t)).length = 8 := by rw [flat_length]; rfl
  have h1 : srcCells H 2 t.1.length (.slice b7 0 (4 - 0) 2) = some (flat t.1) := by
    simp only [srcCells, AH.read, h7, readN, Nat.zero_add, h4, List.drop_zero]
    simp only [flat_sp hn, show t.1.length * 2 ≤ 8 by omega, show t.1.length ≤ 4 - 0 by omega, and_self, if_true]
  have h2 := write_of (H := H) (b := bz) (i := 0) (xs := flat t.1) hz (write_all _ _ (by rw [rep2_length, flat_length])) (flat_cell _)
  simp only [copyA, lenA, show min (4 - 0) t.1.length = t.1.length from by omega, copyN, h1, h2, if_true]
theorem First_run (vl vg vf : AV) (s : Series) (hh : IsSer (Old H) H vl vg vf s) (hs : Sized s)
    (k : ∀ H' v, Grew H H' → IsSl 2 EP (Old H') H' v (firstE s).1 → R (.tuple [v, I (firstE s).2]) H') : CallQ prog (.func 27 [] []) [serArg vl vg vf s] H R := by
  refine CallQ_enter (fn:=c27) rfl (Nat.le_of_ble_eq_true rfl) ?_;simp(maxSteps:=9999999)(disch:=first|omega|(simp only[AN];omega))only[c27,envFrom,hh.l.isCell,hh.g.isCell,hh.f.isCell,↓KP,EN,↓reduceIte,reduceCtorEq,Nat.reduceEqDiff,Nat.reduceAdd,Nat.reduceLeDiff,Nat.reduceMul]
  first|refine C_call ?_|refine C_calld ?_
  refine enter_run vl vg vf _ s [] (hh.grow GW) hs (.inl ⟨rfl, rfl⟩) (by simp) (fun j hj => by simp at hj) (fun he H1 hg1 => ?_) (fun he hfine ht H1 p m hg1 hm hheld => ?_)
  · have hg1n := hg1.next
    rw [firstE] at k
    simp(maxSteps:=9999999)(disch:=first|omega|(simp only[AN];omega))only[he,↓KP,EN,↓reduceIte,reduceCtorEq,Nat.reduceEqDiff,Nat.reduceAdd,Nat.reduceLeDiff,Nat.reduceMul]
    rw [enter0_err] at he ⊢
    by_cases h1 : errE s ≠ 0
    · rw [if_pos h1] at he k ⊢
      exact k _ _ GW (.inl ⟨rfl, rfl⟩)
    · rw [if_neg h1] at he k ⊢
      by_cases h2 : truthsE s [] = []
      · rw [if_pos h2] at he ⊢
        rw [h2] at k
        exact k _ _ GW (.inl ⟨rfl, rfl⟩)
      · rw [if_neg h2] at he
        exact absurd rfl he
  · have h1 : errE s = 0 := by
      rw [enter0_err] at he
      by_cases h1 : errE s ≠ 0
      · rw [if_pos h1] at he; exact absurd he h1
      · exact Classical.not_not.1 h1
    have hg1n := hg1.next; simp only [AN] at hg1n
    simp only [AN] at hm
    have hg0 : Grew H H1 := Grew.trans GW hg1
    have hg3 := hfine.gl
    have hml := hheld.mlt
    have b1 : H1.get H.next = some (.cells false [vl, I s.lo, I s.hi, vg, .bool s.unseen, vf]) := by simp(maxSteps:=9999999)(disch:=first|omega|(simp only[AN];omega))only[hg1.get,↓KP,EN,↓reduceIte,reduceCtorEq,Nat.reduceEqDiff,Nat.reduceAdd,Nat.reduceLeDiff,Nat.reduceMul]
    rw [firstE, if_neg (fun h => h h1)] at k
    have hmk := fun S => makeP (S := S) (n := s.groups.length) (by omega)
    simp(maxSteps:=9999999)(disch:=first|omega|(simp only[AN];omega))only[b1,hh.g.len,hmk,↓KP,EN,↓reduceIte,reduceCtorEq,Nat.reduceEqDiff,Nat.reduceAdd,Nat.reduceLeDiff,Nat.reduceMul]
    first|refine C_call ?_|refine C_calld ?_
    refine truths_run p ?_
    simp(maxSteps:=9999999)(disch:=first|omega|(simp only[AN];omega))only[↓KP,EN,↓reduceIte,reduceCtorEq,Nat.reduceEqDiff,Nat.reduceAdd,Nat.reduceLeDiff,Nat.reduceMul]
    generalize hB : (((H1.alloc (.cells false (repeatL [I 0, I 0] s.groups.length))).alloc (.cells false [.nilslice])).set (H1.next + 1) (.cells false [.slice H1.next 0 s.groups.length 2])).alloc (.cells false [.ptr p 0]) = B
    have hgB : Grew H1 B := by rw [← hB]; exact GW
    have hr1 := hheld.up hgB
    have e0 : B.get H1.next = some (.cells false (repeatL [I 0, I 0] s.groups.length)) := by rw [← hB]; simp(maxSteps:=9999999)(disch:=first|omega|(simp only[AN];omega))only[↓KP,EN,↓reduceIte,reduceCtorEq,Nat.reduceEqDiff,Nat.reduceAdd,Nat.reduceLeDiff,Nat.reduceMul]
    have e1 : B.get (H1.next + 1) = some (.cells false [.slice H1.next 0 s.groups.length 2]) := by rw [← hB]; simp(maxSteps:=9999999)(disch:=first|omega|(simp only[AN];omega))only[↓KP,EN,↓reduceIte,reduceCtorEq,Nat.reduceEqDiff,Nat.reduceAdd,Nat.reduceLeDiff,Nat.reduceMul]
    have e3 : B.get (H1.next + 1 + 1) = some (.cells false [.ptr p 0]) := by rw [← hB]; simp(maxSteps:=9999999)(disch:=first|omega|(simp only[AN];omega))only[↓KP,EN,↓reduceIte,reduceCtorEq,Nat.reduceEqDiff,Nat.reduceAdd,Nat.reduceLeDiff,Nat.reduceMul]
    have hBn : B.next = H1.next + 1 + 1 + 1 := by rw [← hB]; rfl
    clear hB
    have hi := hr1.inv (B := B) (bh := H1.next + 1 + 1) (fun _ _ _ => rfl) (by omega) e3 (by omega)
    have hTz := truthsB_zero hfine
    refine K_iter2 (L := yields s 0) (K := Kh H1.next (H1.next + 1 + 1)) (Inv := Inv H1.next p m (H1.next + 1 + 1) vl vg vf s 0 B) (J := fun l => Jn H1.next p m (H1.next + 1 + 1) (fun b => l < b) vl vg vf s 0 B) rfl (truths_iter hfine (by omega)) hi (fun a ha => ?_)
      (fun done H2 => done = [] ∧ H2.get H1.next = some (.cells false (repeatL [I 0, I 0] s.groups.length)) ∧ H2.get (H1.next + 1) = some (.cells false [.slice H1.next 0 s.groups.length 2]))
      (fun x H2 => x = .exit 0 ∧ H2.get (H1.next + 1) = some (.cells false [.slice H1.next 0 s.groups.length 2]) ∧ ∃ t r, truthsB s 0 = t :: r ∧ H2.get H1.next = some (.cells false (flat t.1))) ?_ ?_ ?_ ?_ ?_ ?_
    · obtain ⟨t, _, rfl⟩ := List.mem_map.1 ha; rfl
    · rintro done H2 H3 hn hs' ⟨h1, h2, h3⟩
      exact ⟨h1, by rw [hs' _ (by simp only [Kh]; omega) (by omega)]; exact h2, by rw [hs' _ (by simp only [Kh]; omega) (by omega)]; exact h3⟩
    · rintro x H2 H3 hn hs' ⟨h1, h2, t, r, h3, h4⟩
      exact ⟨h1, by rw [hs' _ (by simp only [Kh]; omega) (by omega)]; exact h2, t, r, h3, by rw [hs' _ (by simp only [Kh]; omega) (by omega)]; exact h4⟩
    · exact ⟨rfl, e0, e1⟩
    · rintro done a rest H2 hL hlt hj ⟨rfl, h2, h3⟩ hlo
      rw [yields] at hL
      obtain ⟨t, r, hTr, rfl⟩ : ∃ t r, truthsB s 0 = t :: r ∧ argT t = a := by
        cases hT : truthsB s 0 with
        | nil => rw [hT] at hL; simp at hL
        | cons t r => rw [hT] at hL; simp only [List.map_cons, List.nil_append, List.cons.injEq] at hL; exact ⟨t, r, rfl, hL.1⟩
      have htl : t.1.length = s.groups.length := truthsE_mem (but := []) (by rw [← hTz, hTr]; simp)
      have hef := eight_flat t
      simp(maxSteps:=9999999)(disch:=first|omega|(simp only[AN];omega))only[K8,hlo,argT,hef,↓KP,EN,↓reduceIte,reduceCtorEq,Nat.reduceEqDiff,Nat.reduceAdd,Nat.reduceLeDiff,Nat.reduceMul]
      refine K_draw ?_
      simp(maxSteps:=9999999)(disch:=first|omega|(simp only[AN];omega))only[K8,h3,opSliceArr,optNat,↓KP,EN,↓reduceIte,reduceCtorEq,Nat.reduceEqDiff,Nat.reduceAdd,Nat.reduceLeDiff,Nat.reduceMul]
      rw [copy_first htl hg3 (by rw [eight_flat]; simp(maxSteps:=9999999)(disch:=first|omega|(simp only[AN];omega))only[↓KP,EN,↓reduceIte,reduceCtorEq,Nat.reduceEqDiff,Nat.reduceAdd,Nat.reduceLeDiff,Nat.reduceMul]) (by simp(maxSteps:=9999999)(disch:=first|omega|(simp only[AN];omega))only[h2,↓KP,EN,↓reduceIte,reduceCtorEq,Nat.reduceEqDiff,Nat.reduceAdd,Nat.reduceLeDiff,Nat.reduceMul])]
      simp(maxSteps:=9999999)(disch:=first|omega|(simp only[AN];omega))only[K8,↓KP,EN,↓reduceIte,reduceCtorEq,Nat.reduceEqDiff,Nat.reduceAdd,Nat.reduceLeDiff,Nat.reduceMul]
      refine K_bod ⟨?_, ⟨?_, fun b hb hc => ?_⟩, rfl, ?_, t, r, hTr, ?_⟩
      · simp(maxSteps:=9999999)(disch:=first|omega|(simp only[AN];omega))only[↓KP,EN,↓reduceIte,reduceCtorEq,Nat.reduceEqDiff,Nat.reduceAdd,Nat.reduceLeDiff,Nat.reduceMul]
      · first | omega | (simp(maxSteps:=9999999)(disch:=first|omega|(simp only[AN];omega))only[↓KP,EN,↓reduceIte,reduceCtorEq,Nat.reduceEqDiff,Nat.reduceAdd,Nat.reduceLeDiff,Nat.reduceMul]; omega)
      · simp only [Kh] at hc; simp(maxSteps:=9999999)(disch:=first|omega|(simp only[AN];omega))only[↓KP,EN,↓reduceIte,reduceCtorEq,Nat.reduceEqDiff,Nat.reduceAdd,Nat.reduceLeDiff,Nat.reduceMul]
      · simp(maxSteps:=9999999)(disch:=first|omega|(simp only[AN];omega))only[h3,↓KP,EN,↓reduceIte,reduceCtorEq,Nat.reduceEqDiff,Nat.reduceAdd,Nat.reduceLeDiff,Nat.reduceMul]
      · simp(maxSteps:=9999999)(disch:=first|omega|(simp only[AN];omega))only[↓KP,EN,↓reduceIte,reduceCtorEq,Nat.reduceEqDiff,Nat.reduceAdd,Nat.reduceLeDiff,Nat.reduceMul]
    · rintro H2 hn hj ⟨hd, h2, h3⟩
      exfalso
      apply ht
      rw [← hTz]
      simpa [yields] using hd
    · rintro x H2 hx hn hj ⟨rfl, h2, t, r, h3, h4⟩
      simp(maxSteps:=9999999)(disch:=first|omega|(simp only[AN];omega))only[h2,↓KP,EN,↓reduceIte,reduceCtorEq,Nat.reduceEqDiff,Nat.reduceAdd,Nat.reduceLeDiff,Nat.reduceMul]
      have hte : truthsE s [] = t :: r := by rw [← hTz]; exact h3
      have htl : t.1.length = s.groups.length := truthsE_mem (but := []) (by rw [hte]; simp)
      rw [hte] at k
      refine k _ _ ⟨?_, fun b hb => ?_⟩ (.inr ⟨H1.next, 0, flat t.1, by rw [htl], ?_, ?_, flat_rows _ _ _⟩)
      · first | omega | (simp(maxSteps:=9999999)(disch:=first|omega|(simp only[AN];omega))only[↓KP,EN,↓reduceIte,reduceCtorEq,Nat.reduceEqDiff,Nat.reduceAdd,Nat.reduceLeDiff,Nat.reduceMul]; omega)
      · simp(maxSteps:=9999999)(disch:=first|omega|(simp only[AN];omega))only[hj.base,hgB.get,hg0.get,↓KP,EN,↓reduceIte,reduceCtorEq,Nat.reduceEqDiff,Nat.reduceAdd,Nat.reduceLeDiff,Nat.reduceMul]
      · show H1.next < _
        first | omega | (simp(maxSteps:=9999999)(disch:=first|omega|(simp only[AN];omega))only[↓KP,EN,↓reduceIte,reduceCtorEq,Nat.reduceEqDiff,Nat.reduceAdd,Nat.reduceLeDiff,Nat.reduceMul]; omega)
      · simp only [AH.read]
        simp(maxSteps:=9999999)(disch:=first|omega|(simp only[AN];omega))only[h4,↓KP,EN,↓reduceIte,reduceCtorEq,Nat.reduceEqDiff,Nat.reduceAdd,Nat.reduceLeDiff,Nat.reduceMul]
        simp only [readN, Nat.zero_add, flat_length, Nat.le_refl, if_true, List.drop_zero]
        rw [List.take_of_length_le (by rw [flat_length]; omega)]
end Go.Proofs.Ytihahmggfjjkjaa
namespace Go.Proofs.Ytihahmggfjjkjaa
open Go.AM Go.IntWalk Go.PL
set_option maxRecDepth 100000
set_option maxHeartbeats 4000000
set_option linter.unusedSimpArgs false
variable {H : AH} {R : AV → AH → Prop}
variable {p m : Nat} {vl vg vf : AV} {s : Series} {but : Nat}
theorem eq8 (f g : Nat → Int) : ∃ b, eqFlatA true [.i, .i, .i, .i, .i, .i, .i, .i] (.agg (arr8 f)) (.agg (arr8 g)) = some b ∧ (b = true → ∀ d, d < 8 → f d = g d) := by
  refine ⟨((f 0 == g 0) && ((f 1 == g 1) && ((f 2 == g 2) && ((f 3 == g 3) && ((f 4 == g 4) && ((f 5 == g 5) && ((f 6 == g 6) && ((f 7 == g 7) && true)))))))), by simp [eqFlatA, eqCells, arr8], fun h => ?_⟩
  simp only [Bool.and_eq_true, beq_iff_eq, and_true] at h
  obtain ⟨h0, h1, h2, h3, h4, h5, h6, h7⟩ := h
  intro d hd
  have : d = 0 ∨ d = 1 ∨ d = 2 ∨ d = 3 ∨ d = 4 ∨ d = 5 ∨ d = 6 ∨ d = 7 := by omega
  rcases this with rfl | rfl | rfl | rfl | rfl | rfl | rfl | rfl <;> assumption
theorem numE_snoc {ts : List Truth} {t : Truth} {d : Int} (h : ts ≠ []) : numE (ts ++ [t]) d = (min (numE ts d).1 (onE t d), max (numE ts d).2 (onE t d)) := by
  unfold numE
  cases ts with
  | nil => exact absurd rfl h
  | cons a l => simp [hull, hullFrom, List.foldl_append, join, Int.min_comm, Int.max_comm]
theorem numE_one {t : Truth} {d : Int} : numE [t] d = (onE t d, onE t d) := rfl
def OpenY (T : List Truth) (b : Nat) (n : Nat) (H2 : AH) : Prop :=
  ∃ f g : Nat → Int, H2.get b = some (.cells false (arr8 f)) ∧ H2.get (b + 1) = some (.cells false (arr8 g)) ∧ H2.get (b + 1 + 1) = some (.cells false [.bool (decide (n = 0))]) ∧
    (n ≠ 0 → ∀ d : Nat, d < 8 → f d = (numE (T.take n) d).1 ∧ g d = (numE (T.take n) d).2)
theorem Open_run (vl vg vf : AV) (s : Series) (hh : IsSer (Old H) H vl vg vf s) (hs : Sized s)
    (k : ∀ H', Grew H H' → R (.tuple [I (openE s).1, I (openE s).2.1, I (openE s).2.2]) H') : CallQ prog (.func 30 [] []) [serArg vl vg vf s] H R := by
  have hlen : (s.looked.length : Int) = s.len := rfl
  refine CallQ_enter (fn:=c30) rfl (Nat.le_of_ble_eq_true rfl) ?_;simp(maxSteps:=9999999)(disch:=first|omega|(simp only[AN];omega))only[c30,envFrom,hh.l.isCell,hh.g.isCell,hh.f.isCell,↓KP,EN,↓reduceIte,reduceCtorEq,Nat.reduceEqDiff,Nat.reduceAdd,Nat.reduceLeDiff,Nat.reduceMul]
  first|refine C_call ?_|refine C_calld ?_
  refine enter_run vl vg vf _ s [] (hh.grow GW) hs (.inl ⟨rfl, rfl⟩) (by simp) (fun j hj => by simp at hj) (fun he H1 hg1 => ?_) (fun he hfine ht H1 p m hg1 hm hheld => ?_)
  · have hg1n := hg1.next
    rw [openE] at k
    simp(maxSteps:=9999999)(disch:=first|omega|(simp only[AN];omega))only[he,↓KP,EN,↓reduceIte,reduceCtorEq,Nat.reduceEqDiff,Nat.reduceAdd,Nat.reduceLeDiff,Nat.reduceMul]
    rw [enter0_err] at he ⊢
    by_cases h1 : errE s ≠ 0
    · rw [if_pos h1] at he k ⊢
      exact k _ GW
    · rw [if_neg h1] at he k ⊢
      by_cases h2 : truthsE s [] = []
      · rw [if_pos h2] at he k ⊢
        exact k _ GW
      · rw [if_neg h2] at he
        exact absurd rfl he
  · have h1 : errE s = 0 := by
      rw [enter0_err] at he
      by_cases h1 : errE s ≠ 0
      · rw [if_pos h1] at he; exact absurd he h1
      · exact Classical.not_not.1 h1
    have hg1n := hg1.next; simp only [AN] at hg1n
    simp only [AN] at hm
    have hg0 : Grew H H1 := Grew.trans GW hg1
    have hg3 := hfine.gl
    have hl8 := hfine.len.2
    have hml := hheld.mlt
    have b1 : H1.get H.next = some (.cells false [vl, I s.lo, I s.hi, vg, .bool s.unseen, vf]) := by simp(maxSteps:=9999999)(disch:=first|omega|(simp only[AN];omega))only[hg1.get,↓KP,EN,↓reduceIte,reduceCtorEq,Nat.reduceEqDiff,Nat.reduceAdd,Nat.reduceLeDiff,Nat.reduceMul]
    rw [openE, if_neg (fun h => h h1), if_neg ht] at k
    simp(maxSteps:=9999999)(disch:=first|omega|(simp only[AN];omega))only[↓KP,EN,↓reduceIte,reduceCtorEq,Nat.reduceEqDiff,Nat.reduceAdd,Nat.reduceLeDiff,Nat.reduceMul]
    first|refine C_call ?_|refine C_calld ?_
    refine truths_run p ?_
    simp(maxSteps:=9999999)(disch:=first|omega|(simp only[AN];omega))only[↓KP,EN,↓reduceIte,reduceCtorEq,Nat.reduceEqDiff,Nat.reduceAdd,Nat.reduceLeDiff,Nat.reduceMul]
    generalize hB : ((((H1.alloc (.cells false [I 0, I 0, I 0, I 0, I 0, I 0, I 0, I 0])).alloc (.cells false [I 0, I 0, I 0, I 0, I 0, I 0, I 0, I 0])).alloc (.cells false [.bool false])).set (H1.next + 1 + 1) (.cells false [.bool true])).alloc (.cells false [.ptr p 0]) = B
    have hgB : Grew H1 B := by rw [← hB]; exact GW
    have hr1 := hheld.up hgB
    have e0 : OpenY (truthsE s []) H1.next 0 B := ⟨fun _ => 0, fun _ => 0, by rw [← hB]; simp(maxSteps:=9999999)(disch:=first|omega|(simp only[AN];omega))only[↓KP,EN,↓reduceIte,reduceCtorEq,Nat.reduceEqDiff,Nat.reduceAdd,Nat.reduceLeDiff,Nat.reduceMul]; rfl, by rw [← hB]; simp(maxSteps:=9999999)(disch:=first|omega|(simp only[AN];omega))only[↓KP,EN,↓reduceIte,reduceCtorEq,Nat.reduceEqDiff,Nat.reduceAdd,Nat.reduceLeDiff,Nat.reduceMul]; rfl, by rw [← hB]; simp(maxSteps:=9999999)(disch:=first|omega|(simp only[AN];omega))only[↓KP,EN,↓reduceIte,reduceCtorEq,Nat.reduceEqDiff,Nat.reduceAdd,Nat.reduceLeDiff,Nat.reduceMul], fun h => absurd rfl h⟩
    have e3 : B.get (H1.next + 1 + 1 + 1) = some (.cells false [.ptr p 0]) := by rw [← hB]; simp(maxSteps:=9999999)(disch:=first|omega|(simp only[AN];omega))only[↓KP,EN,↓reduceIte,reduceCtorEq,Nat.reduceEqDiff,Nat.reduceAdd,Nat.reduceLeDiff,Nat.reduceMul]
    have hBn : B.next = H1.next + 1 + 1 + 1 + 1 := by rw [← hB]; rfl
    clear hB
    have hi := hr1.inv (B := B) (bh := H1.next + 1 + 1 + 1) (fun _ _ _ => rfl) (by omega) e3 (by omega)
    have hTz := truthsB_zero hfine
    have hml3 : ∀ t ∈ truthsE s [], t.1.length ≤ 3 := fun t htm => by rw [truthsE_mem htm]; omega
    generalize truthsE s [] = T at *
    refine K_iter2 (L := yields s 0) (K := Kh H1.next (H1.next + 1 + 1 + 1)) (Inv := Inv H1.next p m (H1.next + 1 + 1 + 1) vl vg vf s 0 B) (J := fun l => Jn H1.next p m (H1.next + 1 + 1 + 1) (fun b => l < b) vl vg vf s 0 B) rfl (truths_iter hfine (by omega)) hi (fun a ha => ?_)
      (fun done H2 => OpenY T H1.next done.length H2) (fun x H2 => False) ?_ ?_ ?_ ?_ ?_ ?_
    · obtain ⟨t, _, rfl⟩ := List.mem_map.1 ha; rfl
    · rintro done H2 H3 hn hs' ⟨f, g, h1, h2, h3, h4⟩
      exact ⟨f, g, by rw [hs' _ (by simp only [Kh]; omega) (by omega)]; exact h1, by rw [hs' _ (by simp only [Kh]; omega) (by omega)]; exact h2, by rw [hs' _ (by simp only [Kh]; omega) (by omega)]; exact h3, h4⟩
    · intro x H2 H3 _ _ h; exact h
    · exact e0
    · rintro done a rest H2 hL hlt hj ⟨f, g, h1, h2, h3, h4⟩ hlo
      rw [yields, hTz] at hL
      obtain ⟨hi', rfl⟩ := hand hL
      have htl := hml3 _ (List.getElem_mem hi')
      have hon := fun d => cnt_on htl d
      have htk : T.take (done.length + 1) = T.take done.length ++ [T[done.length]] := List.take_succ_eq_append_getElem hi'
      generalize T[done.length] = t at *
      simp only [arr8] at h1 h2
      simp(maxSteps:=9999999)(disch:=first|omega|(simp only[AN];omega))only[K8,hlo,argT,arr8,h1,h2,h3,↓KP,EN,↓reduceIte,reduceCtorEq,Nat.reduceEqDiff,Nat.reduceAdd,Nat.reduceLeDiff,Nat.reduceMul]
      by_cases hn0 : done.length = 0
      · have hT1 : T.take (done.length + 1) = [t] := by rw [htk, hn0]; rfl
        have hU : ∀ d : Nat, d < 8 → min (cntE (sp t) d) (cntE (sp t) d) = (numE (T.take (done.length + 1)) d).1 ∧ max (cntE (sp t) d) (cntE (sp t) d) = (numE (T.take (done.length + 1)) d).2 := fun d hd => by
          rw [hT1, numE_one, hon d, Int.min_self, Int.max_self]; exact ⟨rfl, rfl⟩
        have hle : ∀ d : Nat, d < 8 → cntE (sp t) d ≤ cntE (sp t) d := fun d _ => by omega
        simp(maxSteps:=9999999)(disch:=first|omega|(simp only[AN];omega))only[eq_true hn0,↓KP,EN,↓reduceIte,reduceCtorEq,Nat.reduceEqDiff,Nat.reduceAdd,Nat.reduceLeDiff,Nat.reduceMul]
        refine K_draw ?_
        simp(maxSteps:=9999999)(disch:=first|omega|(simp only[AN];omega))only[↓KP,EN,↓reduceIte,reduceCtorEq,Nat.reduceEqDiff,Nat.reduceAdd,Nat.reduceLeDiff,Nat.reduceMul]
        obtain ⟨b, hq, hqt⟩ := eq8 (cntE (sp t)) (cntE (sp t))
        simp only [arr8] at hq
        simp(maxSteps:=9999999)(disch:=first|omega|(simp only[AN];omega))only[h1,h2,h3,hq,↓KP,EN,↓reduceIte,reduceCtorEq,Nat.reduceEqDiff,Nat.reduceAdd,Nat.reduceLeDiff,Nat.reduceMul]
        cases b with
        | true =>
          have hcf := hqt rfl
          simp(maxSteps:=9999999)(disch:=first|omega|(simp only[AN];omega))only[↓KP,EN,↓reduceIte,reduceCtorEq,Nat.reduceEqDiff,Nat.reduceAdd,Nat.reduceLeDiff,Nat.reduceMul]
          refine K_bod ⟨?_, ⟨?_, fun b hb hc => ?_⟩, ?_⟩
          · simp(maxSteps:=9999999)(disch:=first|omega|(simp only[AN];omega))only[↓KP,EN,↓reduceIte,reduceCtorEq,Nat.reduceEqDiff,Nat.reduceAdd,Nat.reduceLeDiff,Nat.reduceMul]
          · first | omega | (simp(maxSteps:=9999999)(disch:=first|omega|(simp only[AN];omega))only[↓KP,EN,↓reduceIte,reduceCtorEq,Nat.reduceEqDiff,Nat.reduceAdd,Nat.reduceLeDiff,Nat.reduceMul]; omega)
          · simp only [Kh] at hc; simp(maxSteps:=9999999)(disch:=first|omega|(simp only[AN];omega))only[↓KP,EN,↓reduceIte,reduceCtorEq,Nat.reduceEqDiff,Nat.reduceAdd,Nat.reduceLeDiff,Nat.reduceMul]
          · refine ⟨(cntE (sp t)), (cntE (sp t)), by simp(maxSteps:=9999999)(disch:=first|omega|(simp only[AN];omega))only[h1,↓KP,EN,↓reduceIte,reduceCtorEq,Nat.reduceEqDiff,Nat.reduceAdd,Nat.reduceLeDiff,Nat.reduceMul]; rfl, by simp(maxSteps:=9999999)(disch:=first|omega|(simp only[AN];omega))only[h2,↓KP,EN,↓reduceIte,reduceCtorEq,Nat.reduceEqDiff,Nat.reduceAdd,Nat.reduceLeDiff,Nat.reduceMul]; rfl, ?_, fun _ d hd => ?_⟩
            · simp(maxSteps:=9999999)(disch:=first|omega|(simp only[AN];omega))only[h3,↓KP,EN,↓reduceIte,reduceCtorEq,Nat.reduceEqDiff,Nat.reduceAdd,Nat.reduceLeDiff,Nat.reduceMul]
              simp
            · have u := hU d hd
              have v := hle d hd
              have w := hcf d hd
              simp only [List.length_append, List.length_singleton]
              omega
        | false =>
          simp(maxSteps:=9999999)(disch:=first|omega|(simp only[AN];omega))only[↓KP,EN,↓reduceIte,reduceCtorEq,Nat.reduceEqDiff,Nat.reduceAdd,Nat.reduceLeDiff,Nat.reduceMul]
          generalize hHb : AH.set _ _ _ = Hb
          have q1 : Hb.get H1.next = some (.cells false (arr8 (cntE (sp t)))) := by rw [← hHb]; simp(maxSteps:=9999999)(disch:=first|omega|(simp only[AN];omega))only[h1,↓KP,EN,↓reduceIte,reduceCtorEq,Nat.reduceEqDiff,Nat.reduceAdd,Nat.reduceLeDiff,Nat.reduceMul]; rfl
          have q2 : Hb.get (H1.next + 1) = some (.cells false (arr8 (cntE (sp t)))) := by rw [← hHb]; simp(maxSteps:=9999999)(disch:=first|omega|(simp only[AN];omega))only[h2,↓KP,EN,↓reduceIte,reduceCtorEq,Nat.reduceEqDiff,Nat.reduceAdd,Nat.reduceLeDiff,Nat.reduceMul]; rfl
          have q3 : Hb.get (H1.next + 1 + 1) = some (.cells false [.bool false]) := by rw [← hHb]; simp(maxSteps:=9999999)(disch:=first|omega|(simp only[AN];omega))only[h3,↓KP,EN,↓reduceIte,reduceCtorEq,Nat.reduceEqDiff,Nat.reduceAdd,Nat.reduceLeDiff,Nat.reduceMul]
          have q4 : Hb.get H2.next = some (.cells false (arr8 (cntE (sp t)))) := by rw [← hHb]; simp(maxSteps:=9999999)(disch:=first|omega|(simp only[AN];omega))only[↓KP,EN,↓reduceIte,reduceCtorEq,Nat.reduceEqDiff,Nat.reduceAdd,Nat.reduceLeDiff,Nat.reduceMul]; rfl
          have q5 := congrArg (·.get B.next) hHb
          try simp only [] at q5
          simp(maxSteps:=9999999)(disch:=first|omega|(simp only[AN];omega))only[↓KP,EN,↓reduceIte,reduceCtorEq,Nat.reduceEqDiff,Nat.reduceAdd,Nat.reduceLeDiff,Nat.reduceMul] at q5
          have q6 : Hb.next = H2.next + 1 := by rw [← hHb]; rfl
          have q7 : ∀ b, b < H2.next → (Kh H1.next (H1.next + 1 + 1 + 1) b ∨ B.next < b) → Hb.get b = H2.get b := fun b hb hc => by
            simp only [Kh] at hc
            rw [← hHb]; simp(maxSteps:=9999999)(disch:=first|omega|(simp only[AN];omega))only[↓KP,EN,↓reduceIte,reduceCtorEq,Nat.reduceEqDiff,Nat.reduceAdd,Nat.reduceLeDiff,Nat.reduceMul]
          clear hHb
          refine K_loop (fun mz ez H4 => ∃ (d : Nat) (tail : Env), ez = (0, serArg vl vg vf s) :: (1, .ptr H.next 0) :: (2, I 0) :: (3, I 0) :: (4, I 0) :: tail ∧ (tail.get 6 = some (.ptr H1.next 0)) ∧ (tail.get 7 = some (.ptr (H1.next + 1) 0)) ∧ (tail.get 10 = some (.ptr H2.next 0)) ∧ (tail.get 32 = some (I d)) ∧ (d ≤ 8) ∧ (H4.next = Hb.next) ∧ (H4.get H1.next = some (.cells false (arr8 fun e => if e < d then min ((cntE (sp t)) e) (cntE (sp t) e) else (cntE (sp t)) e))) ∧ (H4.get (H1.next + 1) = some (.cells false (arr8 fun e => if e < d then max ((cntE (sp t)) e) (cntE (sp t) e) else (cntE (sp t)) e))) ∧ (∀ b, b ≠ H1.next → b ≠ H1.next + 1 → H4.get b = Hb.get b) ∧ mz = 8 - d) _ ⟨0, _, rfl, ?_, ?_, ?_, ?_, ?_, ?_, (by rw [q1]; congr 2), (by rw [q2]; congr 2), (by intro _ _ _; rfl), rfl⟩ ?_
          iterate 6 (focus (first|(with_reducible rfl)|omega|(with_reducible(repeat first|exact Grew.refl _|assumption|apply Grew.alloc|refine Grew.set ?_ _ (by first|omega|(simp only[AN];omega)));done)|(simp(maxSteps:=9999999)(disch:=first|omega|(simp only[AN];omega))only[↓KP,EN,↓reduceIte,reduceCtorEq,Nat.reduceEqDiff,Nat.reduceAdd,Nat.reduceLeDiff,Nat.reduceMul]<;>first|omega|rfl)|(simp;done)|rfl))
          rintro mz ez H4 ⟨d, tail, rfl, t6, t7, t10, t32, hd, r0, r1, r2, r3, hmz⟩; subst mz
          simp(maxSteps:=9999999)(disch:=first|omega|(simp only[AN];omega))only[t32,↓KP,EN,↓reduceIte,reduceCtorEq,Nat.reduceEqDiff,Nat.reduceAdd,Nat.reduceLeDiff,Nat.reduceMul]
          refine C_decide (fun hc => ?_) (fun hc => ?_)
          · have hd8 : d < 8 := by omega
            have ix1 := idx8 H1.next (n := (d : Int)) rfl hd8
            have ix2 := idx8 (H1.next + 1) (n := (d : Int)) rfl hd8
            have ix3 := idx8 H2.next (n := (d : Int)) rfl hd8
            have a1 := arr8_get (f := fun e => if e < d then min ((cntE (sp t)) e) (cntE (sp t) e) else (cntE (sp t)) e) hd8
            have a2 := arr8_get (f := fun e => if e < d then max ((cntE (sp t)) e) (cntE (sp t) e) else (cntE (sp t)) e) hd8
            have a3 := arr8_get (f := cntE (sp t)) hd8
            simp only [if_neg (Nat.lt_irrefl d)] at a1 a2
            have s1 := arr8_set (f := fun e => if e < d then min ((cntE (sp t)) e) (cntE (sp t) e) else (cntE (sp t)) e) hd8 (min ((cntE (sp t)) d) (cntE (sp t) d))
            have s2 := arr8_set (f := fun e => if e < d then max ((cntE (sp t)) e) (cntE (sp t) e) else (cntE (sp t)) e) hd8 (max ((cntE (sp t)) d) (cntE (sp t) d))
            have hn1 : (arr8 fun e => if e = d then min ((cntE (sp t)) d) (cntE (sp t) d) else if e < d then min ((cntE (sp t)) e) (cntE (sp t) e) else (cntE (sp t)) e) = arr8 fun e => if e < d + 1 then min ((cntE (sp t)) e) (cntE (sp t) e) else (cntE (sp t)) e := arr8_congr fun e _ => by
              by_cases h : e = d
              · subst h; rw [if_pos rfl, if_pos (by omega)]
              · rw [if_neg h]
                by_cases h2 : e < d
                · rw [if_pos h2, if_pos (by omega)]
                · rw [if_neg h2, if_neg (by omega)]
            have hn2 : (arr8 fun e => if e = d then max ((cntE (sp t)) d) (cntE (sp t) d) else if e < d then max ((cntE (sp t)) e) (cntE (sp t) e) else (cntE (sp t)) e) = arr8 fun e => if e < d + 1 then max ((cntE (sp t)) e) (cntE (sp t) e) else (cntE (sp t)) e := arr8_congr fun e _ => by
              by_cases h : e = d
              · subst h; rw [if_pos rfl, if_pos (by omega)]
              · rw [if_neg h]
                by_cases h2 : e < d
                · rw [if_pos h2, if_pos (by omega)]
                · rw [if_neg h2, if_neg (by omega)]
            rw [hn1] at s1
            rw [hn2] at s2
            have e1 : IntKind.i64.wrap ((d : Int) + 1) = ((d + 1 : Nat) : Int) := i64_in _ (by omega)
            have q4' : H4.get H2.next = some (.cells false (arr8 (cntE (sp t)))) := by rw [r3 _ (by omega) (by omega)]; exact q4
            simp(maxSteps:=9999999)(disch:=first|omega|(simp only[AN];omega))only[t32,↓KP,EN,↓reduceIte,reduceCtorEq,Nat.reduceEqDiff,Nat.reduceAdd,Nat.reduceLeDiff,Nat.reduceMul]
            refine K_draw ?_
            simp(maxSteps:=9999999)(disch:=first|omega|(simp only[AN];omega))only[t6,t7,t10,t32,ix1,ix2,ix3,a1,a2,a3,r1,r2,q4',s1,s2,e1,↓KP,EN,↓reduceIte,reduceCtorEq,Nat.reduceEqDiff,Nat.reduceAdd,Nat.reduceLeDiff,Nat.reduceMul]
            refine ⟨_, ?_, d + 1, _, rfl, ?_, ?_, ?_, ?_, ?_, ?_, ?_, ?_, (by intro b hb1 hb2; simp(maxSteps:=9999999)(disch:=first|omega|(simp only[AN];omega))only[r3 b hb1 hb2,↓KP,EN,↓reduceIte,reduceCtorEq,Nat.reduceEqDiff,Nat.reduceAdd,Nat.reduceLeDiff,Nat.reduceMul]), rfl⟩ <;> (first|omega|(with_reducible assumption)|(with_reducible(repeat first|exact Grew.refl _|assumption|apply Grew.alloc|refine Grew.set ?_ _ (by first|omega|(simp only[AN];omega)));done)|(simp(maxSteps:=9999999)(disch:=first|omega|(simp only[AN];omega))only[t6,t7,t10,↓KP,EN,↓reduceIte,reduceCtorEq,Nat.reduceEqDiff,Nat.reduceAdd,Nat.reduceLeDiff,Nat.reduceMul]<;>first|omega|rfl))
          · have hde : d = 8 := by omega
            subst hde
            simp(maxSteps:=9999999)(disch:=first|omega|(simp only[AN];omega))only[↓KP,EN,↓reduceIte,reduceCtorEq,Nat.reduceEqDiff,Nat.reduceAdd,Nat.reduceLeDiff,Nat.reduceMul]
            refine K_bod ⟨?_, ⟨?_, fun b hb hc => ?_⟩, ?_⟩
            · rw [r3 _ (by omega) (by omega)]; exact q5.symm
            · omega
            · rw [r3 b (by simp only [Kh] at hc; omega) (by simp only [Kh] at hc; omega)]; exact q7 b hb hc
            · refine ⟨fun e => min ((cntE (sp t)) e) (cntE (sp t) e), fun e => max ((cntE (sp t)) e) (cntE (sp t) e), ?_, ?_, ?_, fun _ d hd => ?_⟩
              · rw [r1]; congr 2
              · rw [r2]; congr 2
              · rw [r3 _ (by omega) (by omega), q3]
                simp
              · have u := hU d hd
                simp only [List.length_append, List.length_singleton]
                exact u
      · have hne : T.take done.length ≠ [] := fun e => by have := congrArg List.length e; simp only [List.length_take, List.length_nil] at this; omega
        have hU : ∀ d : Nat, d < 8 → min (f d) (cntE (sp t) d) = (numE (T.take (done.length + 1)) d).1 ∧ max (g d) (cntE (sp t) d) = (numE (T.take (done.length + 1)) d).2 := fun d hd => by
          rw [htk, numE_snoc hne, hon d, (h4 hn0 d hd).1, (h4 hn0 d hd).2]; exact ⟨rfl, rfl⟩
        have hle : ∀ d : Nat, d < 8 → f d ≤ g d := fun d hd => by
          rw [(h4 hn0 d hd).1, (h4 hn0 d hd).2]
          exact (numE_bound hne fun t ht => by have := hml3 t (List.mem_of_mem_take ht); omega).2.1
        rw [decide_eq_false hn0] at h3
        simp(maxSteps:=9999999)(disch:=first|omega|(simp only[AN];omega))only[hn0,h3,↓KP,EN,↓reduceIte,reduceCtorEq,Nat.reduceEqDiff,Nat.reduceAdd,Nat.reduceLeDiff,Nat.reduceMul]
        obtain ⟨b, hq, hqt⟩ := eq8 (cntE (sp t)) f
        simp only [arr8] at hq
        simp(maxSteps:=9999999)(disch:=first|omega|(simp only[AN];omega))only[h1,h2,h3,hq,↓KP,EN,↓reduceIte,reduceCtorEq,Nat.reduceEqDiff,Nat.reduceAdd,Nat.reduceLeDiff,Nat.reduceMul]
        cases b with
        | true =>
          have hcf := hqt rfl
          simp(maxSteps:=9999999)(disch:=first|omega|(simp only[AN];omega))only[↓KP,EN,↓reduceIte,reduceCtorEq,Nat.reduceEqDiff,Nat.reduceAdd,Nat.reduceLeDiff,Nat.reduceMul]
          refine K_bod ⟨?_, ⟨?_, fun b hb hc => ?_⟩, ?_⟩
          · simp(maxSteps:=9999999)(disch:=first|omega|(simp only[AN];omega))only[↓KP,EN,↓reduceIte,reduceCtorEq,Nat.reduceEqDiff,Nat.reduceAdd,Nat.reduceLeDiff,Nat.reduceMul]
          · first | omega | (simp(maxSteps:=9999999)(disch:=first|omega|(simp only[AN];omega))only[↓KP,EN,↓reduceIte,reduceCtorEq,Nat.reduceEqDiff,Nat.reduceAdd,Nat.reduceLeDiff,Nat.reduceMul]; omega)
          · simp only [Kh] at hc; simp(maxSteps:=9999999)(disch:=first|omega|(simp only[AN];omega))only[↓KP,EN,↓reduceIte,reduceCtorEq,Nat.reduceEqDiff,Nat.reduceAdd,Nat.reduceLeDiff,Nat.reduceMul]
          · refine ⟨f, g, by simp(maxSteps:=9999999)(disch:=first|omega|(simp only[AN];omega))only[h1,↓KP,EN,↓reduceIte,reduceCtorEq,Nat.reduceEqDiff,Nat.reduceAdd,Nat.reduceLeDiff,Nat.reduceMul]; rfl, by simp(maxSteps:=9999999)(disch:=first|omega|(simp only[AN];omega))only[h2,↓KP,EN,↓reduceIte,reduceCtorEq,Nat.reduceEqDiff,Nat.reduceAdd,Nat.reduceLeDiff,Nat.reduceMul]; rfl, ?_, fun _ d hd => ?_⟩
            · simp(maxSteps:=9999999)(disch:=first|omega|(simp only[AN];omega))only[h3,↓KP,EN,↓reduceIte,reduceCtorEq,Nat.reduceEqDiff,Nat.reduceAdd,Nat.reduceLeDiff,Nat.reduceMul]
              simp
            · have u := hU d hd
              have v := hle d hd
              have w := hcf d hd
              simp only [List.length_append, List.length_singleton]
              omega
        | false =>
          simp(maxSteps:=9999999)(disch:=first|omega|(simp only[AN];omega))only[↓KP,EN,↓reduceIte,reduceCtorEq,Nat.reduceEqDiff,Nat.reduceAdd,Nat.reduceLeDiff,Nat.reduceMul]
          generalize hHb : AH.set _ _ _ = Hb
          have q1 : Hb.get H1.next = some (.cells false (arr8 f)) := by rw [← hHb]; simp(maxSteps:=9999999)(disch:=first|omega|(simp only[AN];omega))only[h1,↓KP,EN,↓reduceIte,reduceCtorEq,Nat.reduceEqDiff,Nat.reduceAdd,Nat.reduceLeDiff,Nat.reduceMul]; rfl
          have q2 : Hb.get (H1.next + 1) = some (.cells false (arr8 g)) := by rw [← hHb]; simp(maxSteps:=9999999)(disch:=first|omega|(simp only[AN];omega))only[h2,↓KP,EN,↓reduceIte,reduceCtorEq,Nat.reduceEqDiff,Nat.reduceAdd,Nat.reduceLeDiff,Nat.reduceMul]; rfl
          have q3 : Hb.get (H1.next + 1 + 1) = some (.cells false [.bool false]) := by rw [← hHb]; simp(maxSteps:=9999999)(disch:=first|omega|(simp only[AN];omega))only[h3,↓KP,EN,↓reduceIte,reduceCtorEq,Nat.reduceEqDiff,Nat.reduceAdd,Nat.reduceLeDiff,Nat.reduceMul]
          have q4 : Hb.get H2.next = some (.cells false (arr8 (cntE (sp t)))) := by rw [← hHb]; simp(maxSteps:=9999999)(disch:=first|omega|(simp only[AN];omega))only[↓KP,EN,↓reduceIte,reduceCtorEq,Nat.reduceEqDiff,Nat.reduceAdd,Nat.reduceLeDiff,Nat.reduceMul]; rfl
          have q5 := congrArg (·.get B.next) hHb
          try simp only [] at q5
          simp(maxSteps:=9999999)(disch:=first|omega|(simp only[AN];omega))only[↓KP,EN,↓reduceIte,reduceCtorEq,Nat.reduceEqDiff,Nat.reduceAdd,Nat.reduceLeDiff,Nat.reduceMul] at q5
          have q6 : Hb.next = H2.next + 1 := by rw [← hHb]; rfl
          have q7 : ∀ b, b < H2.next → (Kh H1.next (H1.next + 1 + 1 + 1) b ∨ B.next < b) → Hb.get b = H2.get b := fun b hb hc => by
            simp only [Kh] at hc
            rw [← hHb]; simp(maxSteps:=9999999)(disch:=first|omega|(simp only[AN];omega))only[↓KP,EN,↓reduceIte,reduceCtorEq,Nat.reduceEqDiff,Nat.reduceAdd,Nat.reduceLeDiff,Nat.reduceMul]
          clear hHb
          refine K_loop (fun mz ez H4 => ∃ (d : Nat) (tail : Env), ez = (0, serArg vl vg vf s) :: (1, .ptr H.next 0) :: (2, I 0) :: (3, I 0) :: (4, I 0) :: tail ∧ (tail.get 6 = some (.ptr H1.next 0)) ∧ (tail.get 7 = some (.ptr (H1.next + 1) 0)) ∧ (tail.get 10 = some (.ptr H2.next 0)) ∧ (tail.get 32 = some (I d)) ∧ (d ≤ 8) ∧ (H4.next = Hb.next) ∧ (H4.get H1.next = some (.cells false (arr8 fun e => if e < d then min (f e) (cntE (sp t) e) else f e))) ∧ (H4.get (H1.next + 1) = some (.cells false (arr8 fun e => if e < d then max (g e) (cntE (sp t) e) else g e))) ∧ (∀ b, b ≠ H1.next → b ≠ H1.next + 1 → H4.get b = Hb.get b) ∧ mz = 8 - d) _ ⟨0, _, rfl, ?_, ?_, ?_, ?_, ?_, ?_, (by rw [q1]; congr 2), (by rw [q2]; congr 2), (by intro _ _ _; rfl), rfl⟩ ?_
          iterate 6 (focus (first|(with_reducible rfl)|omega|(with_reducible(repeat first|exact Grew.refl _|assumption|apply Grew.alloc|refine Grew.set ?_ _ (by first|omega|(simp only[AN];omega)));done)|(simp(maxSteps:=9999999)(disch:=first|omega|(simp only[AN];omega))only[↓KP,EN,↓reduceIte,reduceCtorEq,Nat.reduceEqDiff,Nat.reduceAdd,Nat.reduceLeDiff,Nat.reduceMul]<;>first|omega|rfl)|(simp;done)|rfl))
          rintro mz ez H4 ⟨d, tail, rfl, t6, t7, t10, t32, hd, r0, r1, r2, r3, hmz⟩; subst mz
          simp(maxSteps:=9999999)(disch:=first|omega|(simp only[AN];omega))only[t32,↓KP,EN,↓reduceIte,reduceCtorEq,Nat.reduceEqDiff,Nat.reduceAdd,Nat.reduceLeDiff,Nat.reduceMul]
          refine C_decide (fun hc => ?_) (fun hc => ?_)
          · have hd8 : d < 8 := by omega
            have ix1 := idx8 H1.next (n := (d : Int)) rfl hd8
            have ix2 := idx8 (H1.next + 1) (n := (d : Int)) rfl hd8
            have ix3 := idx8 H2.next (n := (d : Int)) rfl hd8
            have a1 := arr8_get (f := fun e => if e < d then min (f e) (cntE (sp t) e) else f e) hd8
            have a2 := arr8_get (f := fun e => if e < d then max (g e) (cntE (sp t) e) else g e) hd8
            have a3 := arr8_get (f := cntE (sp t)) hd8
            simp only [if_neg (Nat.lt_irrefl d)] at a1 a2
            have s1 := arr8_set (f := fun e => if e < d then min (f e) (cntE (sp t) e) else f e) hd8 (min (f d) (cntE (sp t) d))
            have s2 := arr8_set (f := fun e => if e < d then max (g e) (cntE (sp t) e) else g e) hd8 (max (g d) (cntE (sp t) d))
            have hn1 : (arr8 fun e => if e = d then min (f d) (cntE (sp t) d) else if e < d then min (f e) (cntE (sp t) e) else f e) = arr8 fun e => if e < d + 1 then min (f e) (cntE (sp t) e) else f e := arr8_congr fun e _ => by
              by_cases h : e = d
              · subst h; rw [if_pos rfl, if_pos (by omega)]
              · rw [if_neg h]
                by_cases h2 : e < d
                · rw [if_pos h2, if_pos (by omega)]
                · rw [if_neg h2, if_neg (by omega)]
            have hn2 : (arr8 fun e => if e = d then max (g d) (cntE (sp t) d) else if e < d then max (g e) (cntE (sp t) e) else g e) = arr8 fun e => if e < d + 1 then max (g e) (cntE (sp t) e) else g e := arr8_congr fun e _ => by
              by_cases h : e = d
              · subst h; rw [if_pos rfl, if_pos (by omega)]
              · rw [if_neg h]
                by_cases h2 : e < d
                · rw [if_pos h2, if_pos (by omega)]
                · rw [if_neg h2, if_neg (by omega)]
            rw [hn1] at s1
            rw [hn2] at s2
            have e1 : IntKind.i64.wrap ((d : Int) + 1) = ((d + 1 : Nat) : Int) := i64_in _ (by omega)
            have q4' : H4.get H2.next = some (.cells false (arr8 (cntE (sp t)))) := by rw [r3 _ (by omega) (by omega)]; exact q4
            simp(maxSteps:=9999999)(disch:=first|omega|(simp only[AN];omega))only[t32,↓KP,EN,↓reduceIte,reduceCtorEq,Nat.reduceEqDiff,Nat.reduceAdd,Nat.reduceLeDiff,Nat.reduceMul]
            refine K_draw ?_
            simp(maxSteps:=9999999)(disch:=first|omega|(simp only[AN];omega))only[t6,t7,t10,t32,ix1,ix2,ix3,a1,a2,a3,r1,r2,q4',s1,s2,e1,↓KP,EN,↓reduceIte,reduceCtorEq,Nat.reduceEqDiff,Nat.reduceAdd,Nat.reduceLeDiff,Nat.reduceMul]
            refine ⟨_, ?_, d + 1, _, rfl, ?_, ?_, ?_, ?_, ?_, ?_, ?_, ?_, (by intro b hb1 hb2; simp(maxSteps:=9999999)(disch:=first|omega|(simp only[AN];omega))only[r3 b hb1 hb2,↓KP,EN,↓reduceIte,reduceCtorEq,Nat.reduceEqDiff,Nat.reduceAdd,Nat.reduceLeDiff,Nat.reduceMul]), rfl⟩ <;> (first|omega|(with_reducible assumption)|(with_reducible(repeat first|exact Grew.refl _|assumption|apply Grew.alloc|refine Grew.set ?_ _ (by first|omega|(simp only[AN];omega)));done)|(simp(maxSteps:=9999999)(disch:=first|omega|(simp only[AN];omega))only[t6,t7,t10,↓KP,EN,↓reduceIte,reduceCtorEq,Nat.reduceEqDiff,Nat.reduceAdd,Nat.reduceLeDiff,Nat.reduceMul]<;>first|omega|rfl))
          · have hde : d = 8 := by omega
            subst hde
            simp(maxSteps:=9999999)(disch:=first|omega|(simp only[AN];omega))only[↓KP,EN,↓reduceIte,reduceCtorEq,Nat.reduceEqDiff,Nat.reduceAdd,Nat.reduceLeDiff,Nat.reduceMul]
            refine K_bod ⟨?_, ⟨?_, fun b hb hc => ?_⟩, ?_⟩
            · rw [r3 _ (by omega) (by omega)]; exact q5.symm
            · omega
            · rw [r3 b (by simp only [Kh] at hc; omega) (by simp only [Kh] at hc; omega)]; exact q7 b hb hc
            · refine ⟨fun e => min (f e) (cntE (sp t) e), fun e => max (g e) (cntE (sp t) e), ?_, ?_, ?_, fun _ d hd => ?_⟩
              · rw [r1]; congr 2
              · rw [r2]; congr 2
              · rw [r3 _ (by omega) (by omega), q3]
                simp
              · have u := hU d hd
                simp only [List.length_append, List.length_singleton]
                exact u
    · rintro H2 hn hj ⟨f, g, h1, h2, h3, h4⟩
      rw [show (yields s 0).length = T.length by rw [yields, hTz, List.length_map]] at h3 h4
      rw [List.take_length] at h4
      have h4 := h4 (by have := List.length_pos_iff.2 ht; omega)
      have b2 : H2.get H.next = some (.cells false [vl, I s.lo, I s.hi, vg, .bool s.unseen, vf]) := by simp(maxSteps:=9999999)(disch:=first|omega|(simp only[AN];omega))only[hj.base,hgB.get,b1,↓KP,EN,↓reduceIte,reduceCtorEq,Nat.reduceEqDiff,Nat.reduceAdd,Nat.reduceLeDiff,Nat.reduceMul]
      have hbd := fun (d : Int) => numE_bound (d := d) ht fun t htm => by have := hml3 t htm; omega
      have hgF : Grew H H2 := ⟨by omega, fun b hb => by simp(maxSteps:=9999999)(disch:=first|omega|(simp only[AN];omega))only[hj.base,hgB.get,hg0.get,↓KP,EN,↓reduceIte,reduceCtorEq,Nat.reduceEqDiff,Nat.reduceAdd,Nat.reduceLeDiff,Nat.reduceMul]⟩
      simp(maxSteps:=9999999)(disch:=first|omega|(simp only[AN];omega))only[b2,hh.l.len,↓KP,EN,↓reduceIte,reduceCtorEq,Nat.reduceEqDiff,Nat.reduceAdd,Nat.reduceLeDiff,Nat.reduceMul]
      refine K_loop (fun mz ez H4 => ∃ (d : Nat) (a : Int) (w : Int) (tail : Env), ez = (0, serArg vl vg vf s) :: (1, .ptr H.next 0) :: (2, I a) :: (3, I w) :: (4, I 0) :: tail ∧ (H4 = H2) ∧ (tail.get 6 = some (.ptr H1.next 0)) ∧ (tail.get 7 = some (.ptr (H1.next + 1) 0)) ∧ (tail.get 55 = some vl) ∧ (tail.get 56 = some (I s.looked.length)) ∧ (tail.get 57 = some (I d)) ∧ (d ≤ s.len) ∧ ((a, w) = openTo s T d) ∧ mz = s.len - d) _ ⟨0, 0, 0, _, rfl, ?_, ?_, ?_, ?_, ?_, ?_, ?_, (by rfl), rfl⟩ ?_
      iterate 7 (focus (first|(with_reducible rfl)|omega|(with_reducible(repeat first|exact Grew.refl _|assumption|apply Grew.alloc|refine Grew.set ?_ _ (by first|omega|(simp only[AN];omega)));done)|(simp(maxSteps:=9999999)(disch:=first|omega|(simp only[AN];omega))only[↓KP,EN,↓reduceIte,reduceCtorEq,Nat.reduceEqDiff,Nat.reduceAdd,Nat.reduceLeDiff,Nat.reduceMul]<;>first|omega|rfl)|(simp;done)|rfl))
      rintro mz ez H4 ⟨d, a, w, tail, rfl, hH, u6, u7, u55, u56, u57, hd, ha, hmz⟩; subst mz
      subst H4
      simp(maxSteps:=9999999)(disch:=first|omega|(simp only[AN];omega))only[u56,u57,↓KP,EN,↓reduceIte,reduceCtorEq,Nat.reduceEqDiff,Nat.reduceAdd,Nat.reduceLeDiff,Nat.reduceMul]
      refine C_decide (fun hc1 => ?_) (fun hc1 => ?_)
      · have hd' : d < s.looked.length := by omega
        have hd8 : d < 8 := by omega
        obtain ⟨pb, pi, pro, pvs, plt, p⟩ := rdB hh.l (k := d) rfl hd'
        rw [lk_eq hd'] at p
        have e1 : IntKind.i64.wrap ((d : Int) + 1) = ((d + 1 : Nat) : Int) := i64_in _ (by omega)
        have hst : openTo s T (d + 1) = openStep s T (openTo s T d) d := by rw [openTo, List.range_succ, List.foldl_append]; rfl
        rw [← ha, openStep] at hst
        have hb := hbd d
        obtain ⟨f1, g1⟩ := h4 d hd8
        have ix1 := idx8 H1.next (n := (d : Int)) rfl hd8
        have ix2 := idx8 (H1.next + 1) (n := (d : Int)) rfl hd8
        have a1 := arr8_get (f := f) hd8
        have a2 := arr8_get (f := g) hd8
        rw [f1] at a1
        rw [g1] at a2
        have w1 : IntKind.i64.wrap ((numE T d).2 - (numE T d).1) = (numE T d).2 - (numE T d).1 := i64_in _ (by omega)
        simp(maxSteps:=9999999)(disch:=first|omega|(simp only[AN];omega))only[u55,u57,hgF.get,p,↓KP,EN,↓reduceIte,reduceCtorEq,Nat.reduceEqDiff,Nat.reduceAdd,Nat.reduceLeDiff,Nat.reduceMul]
        generalize numE T d = N at *
        cases hlk : lk s d with
        | true =>
          rw [hlk] at p hst
          simp only [Bool.true_eq_false, false_and, if_false] at hst
          refine K_draw ?_
          simp(maxSteps:=9999999)(disch:=first|omega|(simp only[AN];omega))only[u6,u7,u55,u56,u57,e1,↓KP,EN,↓reduceIte,reduceCtorEq,Nat.reduceEqDiff,Nat.reduceAdd,Nat.reduceLeDiff,Nat.reduceMul]
          refine ⟨_, ?_, d + 1, a, w, _, rfl, ?_, ?_, ?_, ?_, ?_, ?_, ?_, (by exact hst.symm), rfl⟩ <;> (first|omega|(with_reducible assumption)|(with_reducible(repeat first|exact Grew.refl _|assumption|apply Grew.alloc|refine Grew.set ?_ _ (by first|omega|(simp only[AN];omega)));done)|(simp(maxSteps:=9999999)(disch:=first|omega|(simp only[AN];omega))only[u6,u7,u55,u56,↓KP,EN,↓reduceIte,reduceCtorEq,Nat.reduceEqDiff,Nat.reduceAdd,Nat.reduceLeDiff,Nat.reduceMul]<;>first|omega|rfl))
        | false =>
          rw [hlk] at p hst
          simp only [true_and] at hst
          refine K_draw ?_
          simp(maxSteps:=9999999)(disch:=first|omega|(simp only[AN];omega))only[u6,u7,u55,u56,u57,ix1,ix2,h1,h2,a1,a2,w1,↓KP,EN,↓reduceIte,reduceCtorEq,Nat.reduceEqDiff,Nat.reduceAdd,Nat.reduceLeDiff,Nat.reduceMul]
          by_cases hw : w < N.2 - N.1
          · rw [if_pos hw] at hst
            simp(maxSteps:=9999999)(disch:=first|omega|(simp only[AN];omega))only[hw,↓KP,EN,↓reduceIte,reduceCtorEq,Nat.reduceEqDiff,Nat.reduceAdd,Nat.reduceLeDiff,Nat.reduceMul]
            refine K_draw ?_
            simp(maxSteps:=9999999)(disch:=first|omega|(simp only[AN];omega))only[u6,u7,u55,u56,u57,ix1,ix2,h1,h2,a1,a2,w1,e1,↓KP,EN,↓reduceIte,reduceCtorEq,Nat.reduceEqDiff,Nat.reduceAdd,Nat.reduceLeDiff,Nat.reduceMul]
            refine ⟨_, ?_, d + 1, (d : Int), N.2 - N.1, _, rfl, ?_, ?_, ?_, ?_, ?_, ?_, ?_, (by exact hst.symm), rfl⟩ <;> (first|omega|(with_reducible assumption)|(with_reducible(repeat first|exact Grew.refl _|assumption|apply Grew.alloc|refine Grew.set ?_ _ (by first|omega|(simp only[AN];omega)));done)|(simp(maxSteps:=9999999)(disch:=first|omega|(simp only[AN];omega))only[u6,u7,u55,u56,↓KP,EN,↓reduceIte,reduceCtorEq,Nat.reduceEqDiff,Nat.reduceAdd,Nat.reduceLeDiff,Nat.reduceMul]<;>first|omega|rfl))
          · rw [if_neg hw] at hst
            simp(maxSteps:=9999999)(disch:=first|omega|(simp only[AN];omega))only[u6,u7,u55,u56,u57,hw,e1,↓KP,EN,↓reduceIte,reduceCtorEq,Nat.reduceEqDiff,Nat.reduceAdd,Nat.reduceLeDiff,Nat.reduceMul]
            refine ⟨_, ?_, d + 1, a, w, _, rfl, ?_, ?_, ?_, ?_, ?_, ?_, ?_, (by exact hst.symm), rfl⟩ <;> (first|omega|(with_reducible assumption)|(with_reducible(repeat first|exact Grew.refl _|assumption|apply Grew.alloc|refine Grew.set ?_ _ (by first|omega|(simp only[AN];omega)));done)|(simp(maxSteps:=9999999)(disch:=first|omega|(simp only[AN];omega))only[u6,u7,u55,u56,↓KP,EN,↓reduceIte,reduceCtorEq,Nat.reduceEqDiff,Nat.reduceAdd,Nat.reduceLeDiff,Nat.reduceMul]<;>first|omega|rfl))
      · have hde : d = s.len := by omega
        subst hde
        rw [← ha] at k
        by_cases hw : w = 0
        · rw [if_pos hw] at k
          simp(maxSteps:=9999999)(disch:=first|omega|(simp only[AN];omega))only[eq_true hw,↓KP,EN,↓reduceIte,reduceCtorEq,Nat.reduceEqDiff,Nat.reduceAdd,Nat.reduceLeDiff,Nat.reduceMul]
          exact k _ hgF
        · rw [if_neg hw] at k
          simp(maxSteps:=9999999)(disch:=first|omega|(simp only[AN];omega))only[hw,↓KP,EN,↓reduceIte,reduceCtorEq,Nat.reduceEqDiff,Nat.reduceAdd,Nat.reduceLeDiff,Nat.reduceMul]
          exact k _ hgF
    · intro x H2 _ _ _ h; exact h.elim
end Go.Proofs.Ytihahmggfjjkjaa
