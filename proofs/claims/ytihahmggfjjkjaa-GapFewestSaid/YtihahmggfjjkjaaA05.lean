/- Without what Wrong names there is a truth, and without fewer there is none -/
import Derived.OrdersIn
import Derived.Test.YtihahmggfjjkjaaA02
import Derived.Test.YtihahmggfjjkjaaA03
import Derived.Test.YtihahmggfjjkjaaA04
set_option linter.unusedVariables false
set_option linter.unusedSimpArgs false
namespace Go.Proofs.Ytihahmggfjjkjaa
open Go.AM Go.IntWalk Go.PL
set_option maxRecDepth 100000
set_option maxHeartbeats 4000000
set_option linter.unusedSimpArgs false
variable {H : AH} {R : AV → AH → Prop}
variable {p m : Nat} {vl vg vf : AV} {s : Series} {but : Nat}
theorem hand {T : List Truth} {done : List (List AV)} {a : List AV} {rest : List (List AV)} (h : T.map argT = done ++ a :: rest) : ∃ hi : done.length < T.length, a = argT T[done.length] := by
  have hl := congrArg List.length h
  simp only [List.length_map, List.length_append, List.length_cons] at hl
  have hi : done.length < T.length := by omega
  refine ⟨hi, ?_⟩
  have := congrArg (fun l : List (List AV) => l[done.length]?) h
  simp only [List.getElem?_map, List.getElem?_eq_getElem hi, Option.map_some, List.getElem?_append_right (Nat.le_refl _), Nat.sub_self, List.getElem?_cons_zero, Option.some.injEq] at this
  exact this.symm
def Asks (m : Nat) (H : AH) (fv : AV) (s : Series) (but : Nat) (pr : Truth → Bool) : Prop :=
  ∀ (t : Truth) (H1 : AH) (R : AV → AH → Prop), t ∈ truthsB s but → H.next ≤ H1.next → (∀ b, b < H.next → b ≠ m → H1.get b = H.get b) → (∀ H2, Grew H1 H2 → R (.bool (pr t)) H2) → CallQ prog fv [.agg (flat (sp t))] H1 R
theorem told_run {g : Nat} {fs cs : List AV} {pr : Truth → Bool} (hfine : Fine s) (hbut : but < 1000) (hr : Held p m vl vg vf s but H) (hlen : (truthsB s but).length ≤ 100000000) (hf : Asks m H (.func g fs cs) s but pr)
    (k : ∀ H', GrewBut m H H' → R (I (settledE ((truthsB s but).countP pr : Nat) (truthsB s but).length)) H') : CallQ prog (.func 62 [] []) [.ptr p 0, .agg [.func g fs cs]] H R := by
  have hml := hr.mlt
  refine CallQ_enter (fn:=c62) rfl (Nat.le_of_ble_eq_true rfl) ?_;simp(maxSteps:=9999999)(disch:=first|omega|(simp only[AN];omega))only[c62,envFrom,↓KP,EN,↓reduceIte,reduceCtorEq,Nat.reduceEqDiff,Nat.reduceAdd,Nat.reduceLeDiff,Nat.reduceMul]
  first|refine C_call ?_|refine C_calld ?_
  refine truths_run p ?_
  simp(maxSteps:=9999999)(disch:=first|omega|(simp only[AN];omega))only[↓KP,EN,↓reduceIte,reduceCtorEq,Nat.reduceEqDiff,Nat.reduceAdd,Nat.reduceLeDiff,Nat.reduceMul]
  generalize hB : (((((H.alloc (.cells false [.func g fs cs])).alloc (.cells false [I 0])).alloc (.cells false [I 0])).set (H.next + 1) (.cells false [I 0])).set (H.next + 1 + 1) (.cells false [I 0])).alloc (.cells false [.ptr p 0]) = B
  have hgB : Grew H B := by rw [← hB]; exact GW
  have hr1 := hr.up hgB
  have e0 : B.get H.next = some (.cells false [.func g fs cs]) := by rw [← hB]; simp(maxSteps:=9999999)(disch:=first|omega|(simp only[AN];omega))only[↓KP,EN,↓reduceIte,reduceCtorEq,Nat.reduceEqDiff,Nat.reduceAdd,Nat.reduceLeDiff,Nat.reduceMul]
  have e1 : B.get (H.next + 1) = some (.cells false [I 0]) := by rw [← hB]; simp(maxSteps:=9999999)(disch:=first|omega|(simp only[AN];omega))only[↓KP,EN,↓reduceIte,reduceCtorEq,Nat.reduceEqDiff,Nat.reduceAdd,Nat.reduceLeDiff,Nat.reduceMul]
  have e2 : B.get (H.next + 1 + 1) = some (.cells false [I 0]) := by rw [← hB]; simp(maxSteps:=9999999)(disch:=first|omega|(simp only[AN];omega))only[↓KP,EN,↓reduceIte,reduceCtorEq,Nat.reduceEqDiff,Nat.reduceAdd,Nat.reduceLeDiff,Nat.reduceMul]
  have e3 : B.get (H.next + 1 + 1 + 1) = some (.cells false [.ptr p 0]) := by rw [← hB]; simp(maxSteps:=9999999)(disch:=first|omega|(simp only[AN];omega))only[↓KP,EN,↓reduceIte,reduceCtorEq,Nat.reduceEqDiff,Nat.reduceAdd,Nat.reduceLeDiff,Nat.reduceMul]
  have hBn : B.next = H.next + 1 + 1 + 1 + 1 := by rw [← hB]; rfl
  clear hB
  have hi := hr1.inv (B := B) (bh := H.next + 1 + 1 + 1) (fun _ _ _ => rfl) (by omega) e3 (by omega)
  generalize hT : truthsB s but = T at *
  refine K_iter2 (L := yields s but) (K := Kh H.next (H.next + 1 + 1 + 1)) (Inv := Inv H.next p m (H.next + 1 + 1 + 1) vl vg vf s but B) (J := fun l => Jn H.next p m (H.next + 1 + 1 + 1) (fun b => l < b) vl vg vf s but B) rfl (truths_iter hfine hbut) hi (fun a ha => ?_)
    (fun done H2 => H2.get H.next = some (.cells false [.func g fs cs]) ∧ H2.get (H.next + 1) = some (.cells false [I ((T.take done.length).countP pr : Nat)]) ∧ H2.get (H.next + 1 + 1) = some (.cells false [I done.length]))
    (fun x H2 => False) ?_ ?_ ?_ ?_ ?_ ?_
  · obtain ⟨t, _, rfl⟩ := List.mem_map.1 ha; rfl
  · rintro done H1 H2 hn hs ⟨h1, h2, h3⟩
    exact ⟨by rw [hs _ (by simp only [Kh]; omega) (by omega)]; exact h1, by rw [hs _ (by simp only [Kh]; omega) (by omega)]; exact h2, by rw [hs _ (by simp only [Kh]; omega) (by omega)]; exact h3⟩
  · intro x H1 H2 _ _ h; exact h
  · exact ⟨e0, e1, e2⟩
  · rintro done a rest H1 hL hlt hj ⟨h1, h2, h3⟩ hlo
    rw [yields, hT] at hL
    obtain ⟨hi', rfl⟩ := hand hL
    have hcl := List.countP_le_length (p := pr) (l := T.take done.length)
    simp only [List.length_take] at hcl
    have hst := countP_take_succ (p := pr) hi'
    have htm : T[done.length] ∈ truthsB s but := by rw [hT]; exact List.getElem_mem hi'
    generalize T[done.length] = t at *
    have w1 : IntKind.i64.wrap ((done.length : Int) + 1) = ((done.length + 1 : Nat) : Int) := i64_in _ (by omega)
    have w2 : IntKind.i64.wrap (((T.take done.length).countP pr : Nat) + 1 : Int) = (((T.take done.length).countP pr + 1 : Nat) : Int) := i64_in _ (by omega)
    have hef := eight_flat t
    simp(maxSteps:=9999999)(disch:=first|omega|(simp only[AN];omega))only[K8,hlo,argT,h1,h2,h3,hef,w1,↓KP,EN,↓reduceIte,reduceCtorEq,Nat.reduceEqDiff,Nat.reduceAdd,Nat.reduceLeDiff,Nat.reduceMul]
    rw [← hef]
    first|refine C_call ?_|refine C_calld ?_
    refine hf t _ _ htm ?_ ?_ fun H2 hg2 => ?_
    · simp(maxSteps:=9999999)(disch:=first|omega|(simp only[AN];omega))only[↓KP,EN,↓reduceIte,reduceCtorEq,Nat.reduceEqDiff,Nat.reduceAdd,Nat.reduceLeDiff,Nat.reduceMul]; omega
    · intro b hb hm
      simp(maxSteps:=9999999)(disch:=first|omega|(simp only[AN];omega))only[hj.base,hgB.get,↓KP,EN,↓reduceIte,reduceCtorEq,Nat.reduceEqDiff,Nat.reduceAdd,Nat.reduceLeDiff,Nat.reduceMul]
    · have hg2n := hg2.next; simp only [AN] at hg2n
      cases hp : pr t with
      | true =>
        rw [hp, if_pos rfl] at hst
        simp(maxSteps:=9999999)(disch:=first|omega|(simp only[AN];omega))only[K8,hg2.get,h2,w2,↓KP,EN,↓reduceIte,reduceCtorEq,Nat.reduceEqDiff,Nat.reduceAdd,Nat.reduceLeDiff,Nat.reduceMul]
        refine K_bod ⟨?_, ⟨?_, fun b hb hc => ?_⟩, ?_, ?_, ?_⟩
        · simp(maxSteps:=9999999)(disch:=first|omega|(simp only[AN];omega))only[hg2.get,↓KP,EN,↓reduceIte,reduceCtorEq,Nat.reduceEqDiff,Nat.reduceAdd,Nat.reduceLeDiff,Nat.reduceMul]
        · first | omega | (simp(maxSteps:=9999999)(disch:=first|omega|(simp only[AN];omega))only[↓KP,EN,↓reduceIte,reduceCtorEq,Nat.reduceEqDiff,Nat.reduceAdd,Nat.reduceLeDiff,Nat.reduceMul]; omega)
        · simp only [Kh] at hc; simp(maxSteps:=9999999)(disch:=first|omega|(simp only[AN];omega))only[hg2.get,↓KP,EN,↓reduceIte,reduceCtorEq,Nat.reduceEqDiff,Nat.reduceAdd,Nat.reduceLeDiff,Nat.reduceMul]
        · simp(maxSteps:=9999999)(disch:=first|omega|(simp only[AN];omega))only[hg2.get,h1,↓KP,EN,↓reduceIte,reduceCtorEq,Nat.reduceEqDiff,Nat.reduceAdd,Nat.reduceLeDiff,Nat.reduceMul]
        · simp only [List.length_append, List.length_singleton]; rw [hst]; simp(maxSteps:=9999999)(disch:=first|omega|(simp only[AN];omega))only[↓KP,EN,↓reduceIte,reduceCtorEq,Nat.reduceEqDiff,Nat.reduceAdd,Nat.reduceLeDiff,Nat.reduceMul]
        · simp only [List.length_append, List.length_singleton]; simp(maxSteps:=9999999)(disch:=first|omega|(simp only[AN];omega))only[hg2.get,↓KP,EN,↓reduceIte,reduceCtorEq,Nat.reduceEqDiff,Nat.reduceAdd,Nat.reduceLeDiff,Nat.reduceMul]
      | false =>
        rw [hp, if_neg (by simp), Nat.add_zero] at hst
        simp(maxSteps:=9999999)(disch:=first|omega|(simp only[AN];omega))only[K8,↓KP,EN,↓reduceIte,reduceCtorEq,Nat.reduceEqDiff,Nat.reduceAdd,Nat.reduceLeDiff,Nat.reduceMul]
        refine K_bod ⟨?_, ⟨?_, fun b hb hc => ?_⟩, ?_, ?_, ?_⟩
        · simp(maxSteps:=9999999)(disch:=first|omega|(simp only[AN];omega))only[hg2.get,↓KP,EN,↓reduceIte,reduceCtorEq,Nat.reduceEqDiff,Nat.reduceAdd,Nat.reduceLeDiff,Nat.reduceMul]
        · first | omega | (simp(maxSteps:=9999999)(disch:=first|omega|(simp only[AN];omega))only[↓KP,EN,↓reduceIte,reduceCtorEq,Nat.reduceEqDiff,Nat.reduceAdd,Nat.reduceLeDiff,Nat.reduceMul]; omega)
        · simp only [Kh] at hc; simp(maxSteps:=9999999)(disch:=first|omega|(simp only[AN];omega))only[hg2.get,↓KP,EN,↓reduceIte,reduceCtorEq,Nat.reduceEqDiff,Nat.reduceAdd,Nat.reduceLeDiff,Nat.reduceMul]
        · simp(maxSteps:=9999999)(disch:=first|omega|(simp only[AN];omega))only[hg2.get,h1,↓KP,EN,↓reduceIte,reduceCtorEq,Nat.reduceEqDiff,Nat.reduceAdd,Nat.reduceLeDiff,Nat.reduceMul]
        · simp only [List.length_append, List.length_singleton]; rw [hst]; simp(maxSteps:=9999999)(disch:=first|omega|(simp only[AN];omega))only[hg2.get,h2,↓KP,EN,↓reduceIte,reduceCtorEq,Nat.reduceEqDiff,Nat.reduceAdd,Nat.reduceLeDiff,Nat.reduceMul]
        · simp only [List.length_append, List.length_singleton]; simp(maxSteps:=9999999)(disch:=first|omega|(simp only[AN];omega))only[hg2.get,↓KP,EN,↓reduceIte,reduceCtorEq,Nat.reduceEqDiff,Nat.reduceAdd,Nat.reduceLeDiff,Nat.reduceMul]
  · rintro H2 hn hj ⟨h1, h2, h3⟩
    rw [show (yields s but).length = T.length by rw [yields, hT, List.length_map]] at h2 h3
    rw [List.take_length] at h2
    have fin : ∀ H3 : AH, H2.next ≤ H3.next → (∀ b, b < H2.next → b ≠ B.next → H3.get b = H2.get b) → GrewBut m H H3 := fun H3 a b => ⟨by omega, fun c h5 h6 => by rw [b c (by omega) (by omega), hj.base c h5 h6, hgB.get c h5]⟩
    simp(maxSteps:=9999999)(disch:=first|omega|(simp only[AN];omega))only[h2,h3,↓KP,EN,↓reduceIte,reduceCtorEq,Nat.reduceEqDiff,Nat.reduceAdd,Nat.reduceLeDiff,Nat.reduceMul]
    have hend : ∀ (x : Int) (H3 : AH), x = settledE (T.countP pr : Nat) T.length → H2.next ≤ H3.next → (∀ b, b < H2.next → b ≠ B.next → H3.get b = H2.get b) → R (I x) H3 := fun x H3 hx a b => by rw [hx]; exact k H3 (fin H3 a b)
    by_cases hx : ((T.countP pr : Nat) : Int) = T.length
    · simp(maxSteps:=9999999)(disch:=first|omega|(simp only[AN];omega))only[eq_true hx,↓KP,EN,↓reduceIte,reduceCtorEq,Nat.reduceEqDiff,Nat.reduceAdd,Nat.reduceLeDiff,Nat.reduceMul]
      refine hend 1 _ (by rw [settledE, if_pos hx]) ?_ fun b h5 h6 => ?_
      · first | omega | (simp(maxSteps:=9999999)(disch:=first|omega|(simp only[AN];omega))only[↓KP,EN,↓reduceIte,reduceCtorEq,Nat.reduceEqDiff,Nat.reduceAdd,Nat.reduceLeDiff,Nat.reduceMul]; omega)
      · simp(maxSteps:=9999999)(disch:=first|omega|(simp only[AN];omega))only[↓KP,EN,↓reduceIte,reduceCtorEq,Nat.reduceEqDiff,Nat.reduceAdd,Nat.reduceLeDiff,Nat.reduceMul]
    · by_cases hz : ((T.countP pr : Nat) : Int) = 0
      · simp(maxSteps:=9999999)(disch:=first|omega|(simp only[AN];omega))only[hx,eq_true hz,↓KP,EN,↓reduceIte,reduceCtorEq,Nat.reduceEqDiff,Nat.reduceAdd,Nat.reduceLeDiff,Nat.reduceMul]
        refine hend 2 _ (by rw [settledE, if_neg hx, if_pos hz]) ?_ fun b h5 h6 => ?_
        · first | omega | (simp(maxSteps:=9999999)(disch:=first|omega|(simp only[AN];omega))only[↓KP,EN,↓reduceIte,reduceCtorEq,Nat.reduceEqDiff,Nat.reduceAdd,Nat.reduceLeDiff,Nat.reduceMul]; omega)
        · simp(maxSteps:=9999999)(disch:=first|omega|(simp only[AN];omega))only[↓KP,EN,↓reduceIte,reduceCtorEq,Nat.reduceEqDiff,Nat.reduceAdd,Nat.reduceLeDiff,Nat.reduceMul]
      · simp(maxSteps:=9999999)(disch:=first|omega|(simp only[AN];omega))only[hx,hz,↓KP,EN,↓reduceIte,reduceCtorEq,Nat.reduceEqDiff,Nat.reduceAdd,Nat.reduceLeDiff,Nat.reduceMul]
        refine hend 0 _ (by rw [settledE, if_neg hx, if_neg hz]) ?_ fun b h5 h6 => ?_
        · first | omega | (simp(maxSteps:=9999999)(disch:=first|omega|(simp only[AN];omega))only[↓KP,EN,↓reduceIte,reduceCtorEq,Nat.reduceEqDiff,Nat.reduceAdd,Nat.reduceLeDiff,Nat.reduceMul]; omega)
        · simp(maxSteps:=9999999)(disch:=first|omega|(simp only[AN];omega))only[↓KP,EN,↓reduceIte,reduceCtorEq,Nat.reduceEqDiff,Nat.reduceAdd,Nat.reduceLeDiff,Nat.reduceMul]
  · intro x H2 _ _ _ h; exact h.elim
end Go.Proofs.Ytihahmggfjjkjaa
namespace Go.Proofs.Ytihahmggfjjkjaa
open Go.AM Go.IntWalk Go.PL
set_option maxRecDepth 100000
set_option maxHeartbeats 4000000
set_option linter.unusedSimpArgs false
variable {H : AH} {R : AV → AH → Prop}
variable {p m : Nat} {vl vg vf : AV} {s : Series} {but : Nat}
def AsksI (m : Nat) (H : AH) (fv : AV) (s : Series) (but : Nat) (f : Truth → Int) : Prop :=
  ∀ (t : Truth) (H1 : AH) (R : AV → AH → Prop), t ∈ truthsB s but → H.next ≤ H1.next → (∀ b, b < H.next → b ≠ m → H1.get b = H.get b) → (∀ H2, Grew H1 H2 → R (I (f t)) H2) → CallQ prog fv [.agg (flat (sp t)), .agg (arr8 (cntE (sp t)))] H1 R
def hullN (l : List Int) : Int × Int := if l = [] then nob else hull (l.map fun n => (n, n))
theorem hull_le {l : List Int} (h : l ≠ []) : (hull (l.map fun n => (n, n))).1 ≤ (hull (l.map fun n => (n, n))).2 := by
  obtain ⟨h1, ⟨x, hx, e1⟩, _⟩ := hull_spec (l := l.map fun n => (n, n)) (by simpa using h)
  obtain ⟨n, _, rfl⟩ := List.mem_map.1 hx
  have := h1 _ hx
  simp only at e1 this
  omega
theorem hullN_nob {l : List Int} : hullN l = nob ↔ l = [] := by
  unfold hullN
  split
  · rename_i h; simp [h]
  · rename_i h
    have := hull_le h
    constructor
    · intro e
      have e1 : (hull (l.map fun n => (n, n))).1 = 0 := congrArg Prod.fst e
      have e2 : (hull (l.map fun n => (n, n))).2 = -1 := congrArg Prod.snd e
      omega
    · intro e; exact absurd e h
theorem hullN_snoc {l : List Int} {n : Int} : hullN (l ++ [n]) = if l = [] then (n, n) else (min (hullN l).1 n, max (hullN l).2 n) := by
  unfold hullN
  rw [if_neg (by simp)]
  split
  · rename_i h; subst h; rfl
  · rename_i h
    rw [List.map_append]
    cases l with
    | nil => exact absurd rfl h
    | cons a l =>
      rw [Int.min_comm, Int.max_comm]
      simp [hull, hullFrom, List.foldl_append, join]
theorem hull_run {g : Nat} {fs cs : List AV} {f : Truth → Int} (hfine : Fine s) (hbut : but < 1000) (hr : Held p m vl vg vf s but H) (hf : AsksI m H (.func g fs cs) s but f)
    (k : ∀ H', GrewBut m H H' → R (.agg [I (hullN ((truthsB s but).map f)).1, I (hullN ((truthsB s but).map f)).2]) H') : CallQ prog (.func 67 [] []) [.ptr p 0, .func g fs cs] H R := by
  have hml := hr.mlt
  refine CallQ_enter (fn:=c67) rfl (Nat.le_of_ble_eq_true rfl) ?_;simp(maxSteps:=9999999)(disch:=first|omega|(simp only[AN];omega))only[c67,envFrom,↓KP,EN,↓reduceIte,reduceCtorEq,Nat.reduceEqDiff,Nat.reduceAdd,Nat.reduceLeDiff,Nat.reduceMul]
  first|refine C_call ?_|refine C_calld ?_
  refine nobody_run fun H0 hg0 => ?_
  have hg0n:=hg0.next;try simp only[AN]at hg0n
  simp(maxSteps:=9999999)(disch:=first|omega|(simp only[AN];omega))only[hg0.get,↓KP,EN,↓reduceIte,reduceCtorEq,Nat.reduceEqDiff,Nat.reduceAdd,Nat.reduceLeDiff,Nat.reduceMul]
  first|refine C_call ?_|refine C_calld ?_
  refine truths_run p ?_
  simp(maxSteps:=9999999)(disch:=first|omega|(simp only[AN];omega))only[↓KP,EN,↓reduceIte,reduceCtorEq,Nat.reduceEqDiff,Nat.reduceAdd,Nat.reduceLeDiff,Nat.reduceMul]
  generalize hB : (H0.set (H.next + 1) (.cells false [I 0, I (-1)])).alloc (.cells false [.ptr p 0]) = B
  have hgB : Grew H B := by rw [← hB]; exact GW
  have hr1 := hr.up hgB
  have e0 : B.get H.next = some (.cells false [.func g fs cs]) := by rw [← hB]; simp(maxSteps:=9999999)(disch:=first|omega|(simp only[AN];omega))only[hg0.get,↓KP,EN,↓reduceIte,reduceCtorEq,Nat.reduceEqDiff,Nat.reduceAdd,Nat.reduceLeDiff,Nat.reduceMul]
  have e1 : B.get (H.next + 1) = some (.cells false [I 0, I (-1)]) := by rw [← hB]; simp(maxSteps:=9999999)(disch:=first|omega|(simp only[AN];omega))only[↓KP,EN,↓reduceIte,reduceCtorEq,Nat.reduceEqDiff,Nat.reduceAdd,Nat.reduceLeDiff,Nat.reduceMul]
  have e3 : B.get H0.next = some (.cells false [.ptr p 0]) := by rw [← hB]; simp(maxSteps:=9999999)(disch:=first|omega|(simp only[AN];omega))only[↓KP,EN,↓reduceIte,reduceCtorEq,Nat.reduceEqDiff,Nat.reduceAdd,Nat.reduceLeDiff,Nat.reduceMul]
  have hBn : B.next = H0.next + 1 := by rw [← hB]; rfl
  clear hB
  have hi := hr1.inv (B := B) (bh := H0.next) (fun _ _ _ => rfl) (by omega) e3 (by omega)
  generalize hT : truthsB s but = T at *
  refine K_iter2 (L := yields s but) (K := Kh H.next H0.next) (Inv := Inv H.next p m H0.next vl vg vf s but B) (J := fun l => Jn H.next p m H0.next (fun b => l < b) vl vg vf s but B) rfl (truths_iter hfine hbut) hi (fun a ha => ?_)
    (fun done H2 => H2.get H.next = some (.cells false [.func g fs cs]) ∧ H2.get (H.next + 1) = some (.cells false [I (hullN ((T.take done.length).map f)).1, I (hullN ((T.take done.length).map f)).2]))
    (fun x H2 => False) ?_ ?_ ?_ ?_ ?_ ?_
  · obtain ⟨t, _, rfl⟩ := List.mem_map.1 ha; rfl
  · rintro done H1 H2 hn hs ⟨h1, h2⟩
    exact ⟨by rw [hs _ (by simp only [Kh]; omega) (by omega)]; exact h1, by rw [hs _ (by simp only [Kh]; omega) (by omega)]; exact h2⟩
  · intro x H1 H2 _ _ h; exact h
  · exact ⟨e0, e1⟩
  · rintro done a rest H1 hL hlt hj ⟨h1, h2⟩ hlo
    rw [yields, hT] at hL
    obtain ⟨hi', rfl⟩ := hand hL
    have hst : (T.take (done.length + 1)).map f = (T.take done.length).map f ++ [f T[done.length]] := map_take_succ hi'
    have htm : T[done.length] ∈ truthsB s but := by rw [hT]; exact List.getElem_mem hi'
    generalize T[done.length] = t at *
    have hef := eight_flat t
    have hsn := hullN_snoc (l := (T.take done.length).map f) (n := f t)
    rw [← hst] at hsn
    have hnb := hullN_nob (l := (T.take done.length).map f)
    generalize hX : hullN ((T.take done.length).map f) = X at *
    have hy : ∀ (S : AH), S.get H.next = some (.cells false [.func g fs cs]) → S.get (H.next + 1) = some (.cells false [I (hullN ((T.take (done.length + 1)).map f)).1, I (hullN ((T.take (done.length + 1)).map f)).2]) → S.get H.next = some (.cells false [.func g fs cs]) ∧ S.get (H.next + 1) = some (.cells false [I (hullN ((T.take (done ++ [argT t]).length).map f)).1, I (hullN ((T.take (done ++ [argT t]).length).map f)).2]) := fun S a b => by
      rw [List.length_append, List.length_singleton]; exact ⟨a, b⟩
    simp(maxSteps:=9999999)(disch:=first|omega|(simp only[AN];omega))only[K8,hlo,argT,h1,h2,hef,arr8,↓KP,EN,↓reduceIte,reduceCtorEq,Nat.reduceEqDiff,Nat.reduceAdd,Nat.reduceLeDiff,Nat.reduceMul]
    rw [← hef]
    first|refine C_call ?_|refine C_calld ?_
    refine hf t _ _ htm ?_ ?_ fun H2 hg2 => ?_
    · simp(maxSteps:=9999999)(disch:=first|omega|(simp only[AN];omega))only[↓KP,EN,↓reduceIte,reduceCtorEq,Nat.reduceEqDiff,Nat.reduceAdd,Nat.reduceLeDiff,Nat.reduceMul]; omega
    · intro b hb hm
      simp(maxSteps:=9999999)(disch:=first|omega|(simp only[AN];omega))only[hj.base,hgB.get,↓KP,EN,↓reduceIte,reduceCtorEq,Nat.reduceEqDiff,Nat.reduceAdd,Nat.reduceLeDiff,Nat.reduceMul]
    · have hg2n := hg2.next; simp only [AN] at hg2n
      simp(maxSteps:=9999999)(disch:=first|omega|(simp only[AN];omega))only[K8,↓KP,EN,↓reduceIte,reduceCtorEq,Nat.reduceEqDiff,Nat.reduceAdd,Nat.reduceLeDiff,Nat.reduceMul]
      refine K_draw ?_
      simp(maxSteps:=9999999)(disch:=first|omega|(simp only[AN];omega))only[hg2.get,h2,↓KP,EN,↓reduceIte,reduceCtorEq,Nat.reduceEqDiff,Nat.reduceAdd,Nat.reduceLeDiff,Nat.reduceMul]
      refine C_calld ?_
      refine nobody_run fun H3 hg3 => ?_
      have hg3n:=hg3.next;try simp only[AN]at hg3n
      have hg3n := hg3.next
      have hq : eqFlatA true [.i, .i] (.agg [I X.1, I X.2]) (.agg [I 0, I (-1)]) = some (decide (X = nob)) := eqsP X nob
      by_cases hx : X = nob
      · rw [decide_eq_true hx] at hq
        rw [if_pos (hnb.1 hx)] at hsn
        simp(maxSteps:=9999999)(disch:=first|omega|(simp only[AN];omega))only[K8,hq,hg3.get,hg2.get,h2,Int.min_self,Int.max_self,↓KP,EN,↓reduceIte,reduceCtorEq,Nat.reduceEqDiff,Nat.reduceAdd,Nat.reduceLeDiff,Nat.reduceMul]
        refine K_bod ⟨?_, ⟨?_, fun b hb hc => ?_⟩, hy _ ?_ ?_⟩
        · simp(maxSteps:=9999999)(disch:=first|omega|(simp only[AN];omega))only[hg3.get,hg2.get,↓KP,EN,↓reduceIte,reduceCtorEq,Nat.reduceEqDiff,Nat.reduceAdd,Nat.reduceLeDiff,Nat.reduceMul]
        · first | omega | (simp(maxSteps:=9999999)(disch:=first|omega|(simp only[AN];omega))only[↓KP,EN,↓reduceIte,reduceCtorEq,Nat.reduceEqDiff,Nat.reduceAdd,Nat.reduceLeDiff,Nat.reduceMul]; omega)
        · simp only [Kh] at hc; simp(maxSteps:=9999999)(disch:=first|omega|(simp only[AN];omega))only[hg3.get,hg2.get,↓KP,EN,↓reduceIte,reduceCtorEq,Nat.reduceEqDiff,Nat.reduceAdd,Nat.reduceLeDiff,Nat.reduceMul]
        · simp(maxSteps:=9999999)(disch:=first|omega|(simp only[AN];omega))only[hg3.get,hg2.get,h1,↓KP,EN,↓reduceIte,reduceCtorEq,Nat.reduceEqDiff,Nat.reduceAdd,Nat.reduceLeDiff,Nat.reduceMul]
        · rw [hsn]; simp(maxSteps:=9999999)(disch:=first|omega|(simp only[AN];omega))only[↓KP,EN,↓reduceIte,reduceCtorEq,Nat.reduceEqDiff,Nat.reduceAdd,Nat.reduceLeDiff,Nat.reduceMul]
      · rw [decide_eq_false hx] at hq
        rw [if_neg (fun e => hx (hnb.2 e))] at hsn
        simp(maxSteps:=9999999)(disch:=first|omega|(simp only[AN];omega))only[K8,hq,hg3.get,hg2.get,h2,↓KP,EN,↓reduceIte,reduceCtorEq,Nat.reduceEqDiff,Nat.reduceAdd,Nat.reduceLeDiff,Nat.reduceMul]
        refine K_bod ⟨?_, ⟨?_, fun b hb hc => ?_⟩, hy _ ?_ ?_⟩
        · simp(maxSteps:=9999999)(disch:=first|omega|(simp only[AN];omega))only[hg3.get,hg2.get,↓KP,EN,↓reduceIte,reduceCtorEq,Nat.reduceEqDiff,Nat.reduceAdd,Nat.reduceLeDiff,Nat.reduceMul]
        · first | omega | (simp(maxSteps:=9999999)(disch:=first|omega|(simp only[AN];omega))only[↓KP,EN,↓reduceIte,reduceCtorEq,Nat.reduceEqDiff,Nat.reduceAdd,Nat.reduceLeDiff,Nat.reduceMul]; omega)
        · simp only [Kh] at hc; simp(maxSteps:=9999999)(disch:=first|omega|(simp only[AN];omega))only[hg3.get,hg2.get,↓KP,EN,↓reduceIte,reduceCtorEq,Nat.reduceEqDiff,Nat.reduceAdd,Nat.reduceLeDiff,Nat.reduceMul]
        · simp(maxSteps:=9999999)(disch:=first|omega|(simp only[AN];omega))only[hg3.get,hg2.get,h1,↓KP,EN,↓reduceIte,reduceCtorEq,Nat.reduceEqDiff,Nat.reduceAdd,Nat.reduceLeDiff,Nat.reduceMul]
        · rw [hsn]; simp(maxSteps:=9999999)(disch:=first|omega|(simp only[AN];omega))only[↓KP,EN,↓reduceIte,reduceCtorEq,Nat.reduceEqDiff,Nat.reduceAdd,Nat.reduceLeDiff,Nat.reduceMul]
  · rintro H2 hn hj ⟨h1, h2⟩
    rw [show (yields s but).length = T.length by rw [yields, hT, List.length_map], List.take_length] at h2
    simp(maxSteps:=9999999)(disch:=first|omega|(simp only[AN];omega))only[h2,↓KP,EN,↓reduceIte,reduceCtorEq,Nat.reduceEqDiff,Nat.reduceAdd,Nat.reduceLeDiff,Nat.reduceMul]
    refine k _ ⟨?_, fun b h5 h6 => ?_⟩
    · first | omega | (simp(maxSteps:=9999999)(disch:=first|omega|(simp only[AN];omega))only[↓KP,EN,↓reduceIte,reduceCtorEq,Nat.reduceEqDiff,Nat.reduceAdd,Nat.reduceLeDiff,Nat.reduceMul]; omega)
    · simp(maxSteps:=9999999)(disch:=first|omega|(simp only[AN];omega))only[hj.base,hgB.get,↓KP,EN,↓reduceIte,reduceCtorEq,Nat.reduceEqDiff,Nat.reduceAdd,Nat.reduceLeDiff,Nat.reduceMul]
  · intro x H2 _ _ _ h; exact h.elim
end Go.Proofs.Ytihahmggfjjkjaa
namespace Go.Proofs.Ytihahmggfjjkjaa
open Go.AM Go.IntWalk Go.PL
set_option maxRecDepth 100000
set_option maxHeartbeats 4000000
set_option linter.unusedSimpArgs false
variable {H : AH} {R : AV → AH → Prop}
variable {p m : Nat} {vl vg vf : AV} {s : Series} {but : Nat}
theorem flat_get : ∀ {q : List (Int × Int)} {k : Nat}, k < q.length → (flat q)[k * 2]? = some (I (getN q k).1) ∧ (flat q)[k * 2 + 1]? = some (I (getN q k).2)
  | [], _, h => by simp at h
  | a :: q, 0, _ => ⟨rfl, rfl⟩
  | a :: q, k + 1, h => by
    have ih := flat_get (q := q) (k := k) (by simpa using h)
    rw [show (k + 1) * 2 = k * 2 + 1 + 1 from by omega]
    exact ih
theorem sp_get {t : Truth} {k : Nat} (h : k < 3) : getN (sp t) k = getN t.1 k := by
  match k, h with
  | 0, _ => rfl
  | 1, _ => rfl
  | 2, _ => rfl
theorem getN_getP {l : List (Int × Int)} {k : Nat} (h : k < l.length) : getN l k = getP l k := by
  simp [getN, getP, h]
theorem idx4 (b : Nat) {n : Int} {d : Nat} (hn : n = d) (h : d < 4) : ∀ S, opIdxArr 4 2 (.ptr b 0) (.int .i64 n) S = some (.ptr b (d * 2), S) := fun S => by
  subst hn
  simp [opIdxArr, natOf, h]
theorem there1_run (bg bd g : Nat) (d : Int) (t : Truth) (e1 : H.get bg = some (.cells false [I g])) (e2 : H.get bd = some (.cells false [I d])) (l1 : bg < H.next) (l2 : bd < H.next) (hg : g < 3)
    (k : ∀ H', Grew H H' → R (.bool (inS d (getN t.1 g))) H') : CallQ prog (.func 63 [] [.ptr bg 0, .ptr bd 0]) [.agg (flat (sp t))] H R := by
  have hix := idx4 H.next (n := (g : Int)) rfl (show g < 4 by omega)
  obtain ⟨f1, f2⟩ := flat_get (q := sp t) (k := g) (by simp [sp]; omega)
  rw [sp_get hg] at f1 f2
  rw [eight_flat] at f1 f2 ⊢
  refine CallQ_enter (fn:=c63) rfl (Nat.le_of_ble_eq_true rfl) ?_;simp(maxSteps:=9999999)(disch:=first|omega|(simp only[AN];omega))only[c63,envFrom,↓KP,EN,↓reduceIte,reduceCtorEq,Nat.reduceEqDiff,Nat.reduceAdd,Nat.reduceLeDiff,Nat.reduceMul]
  refine K_draw ?_
  simp(maxSteps:=9999999)(disch:=first|omega|(simp only[AN];omega))only[e1,e2,hix,f1,f2,↓KP,EN,↓reduceIte,reduceCtorEq,Nat.reduceEqDiff,Nat.reduceAdd,Nat.reduceLeDiff,Nat.reduceMul]
  refine C_calld ?_
  refine out1_run _ _ _ rfl ?_
  have : inS d (getN t.1 g) = !offP (getN t.1 g).1 (getN t.1 g).2 d := by
    cases ho : offP (getN t.1 g).1 (getN t.1 g).2 d with
    | true =>
      have := offP_true.1 ho
      simp only [inS, Bool.not_true, Bool.and_eq_false_iff, decide_eq_false_iff_not]; omega
    | false =>
      have := offP_false.1 ho
      simp [inS, this]
  rw [this] at k
  simp(maxSteps:=9999999)(disch:=first|omega|(simp only[AN];omega))only[e1,e2,hix,f1,f2,↓KP,EN,↓reduceIte,reduceCtorEq,Nat.reduceEqDiff,Nat.reduceAdd,Nat.reduceLeDiff,Nat.reduceMul]
  exact k _ GW
theorem number1_run (bd d : Nat) (t : Truth) (e1 : H.get bd = some (.cells false [I d])) (l1 : bd < H.next) (hd : d < 8)
    (k : ∀ H', Grew H H' → R (I (cntE (sp t) d)) H') : CallQ prog (.func 68 [] [.ptr bd 0]) [.agg (flat (sp t)), .agg (arr8 (cntE (sp t)))] H R := by
  have hix := idx8 (H.next + 1) (n := (d : Int)) rfl hd
  have f1 := arr8_get (f := cntE (sp t)) hd
  simp only [arr8] at f1 ⊢
  rw [eight_flat]
  refine CallQ_enter (fn:=c68) rfl (Nat.le_of_ble_eq_true rfl) ?_;simp(maxSteps:=9999999)(disch:=first|omega|(simp only[AN];omega))only[c68,envFrom,e1,hix,f1,↓KP,EN,↓reduceIte,reduceCtorEq,Nat.reduceEqDiff,Nat.reduceAdd,Nat.reduceLeDiff,Nat.reduceMul]
  exact k _ GW
theorem lasted1_run (bg g : Nat) (t : Truth) (e1 : H.get bg = some (.cells false [I g])) (l1 : bg < H.next) (hg : g < 3) (ho : okS (getN t.1 g))
    (k : ∀ H', Grew H H' → R (I (daysE (getN t.1 g))) H') : CallQ prog (.func 70 [] [.ptr bg 0]) [.agg (flat (sp t)), .agg (arr8 (cntE (sp t)))] H R := by
  have hix := idx4 H.next (n := (g : Int)) rfl (show g < 4 by omega)
  obtain ⟨f1, f2⟩ := flat_get (q := sp t) (k := g) (by simp [sp]; omega)
  rw [sp_get hg] at f1 f2
  obtain ⟨o1, o2, o3⟩ := ho
  have w1 : IntKind.i64.wrap ((getN t.1 g).2 - (getN t.1 g).1) = (getN t.1 g).2 - (getN t.1 g).1 := i64_in _ (by omega)
  have w2 : IntKind.i64.wrap ((getN t.1 g).2 - (getN t.1 g).1 + 1) = (getN t.1 g).2 - (getN t.1 g).1 + 1 := i64_in _ (by omega)
  rw [eight_flat] at f1 f2 ⊢
  simp only [arr8]
  refine CallQ_enter (fn:=c70) rfl (Nat.le_of_ble_eq_true rfl) ?_;simp(maxSteps:=9999999)(disch:=first|omega|(simp only[AN];omega))only[c70,envFrom,↓KP,EN,↓reduceIte,reduceCtorEq,Nat.reduceEqDiff,Nat.reduceAdd,Nat.reduceLeDiff,Nat.reduceMul]
  refine K_draw ?_
  simp(maxSteps:=9999999)(disch:=first|omega|(simp only[AN];omega))only[e1,hix,f1,f2,w1,w2,↓KP,EN,↓reduceIte,reduceCtorEq,Nat.reduceEqDiff,Nat.reduceAdd,Nat.reduceLeDiff,Nat.reduceMul]
  exact k _ GW
theorem unseen1_run (t : Truth) (ho : ∀ x, t.2 = some x → 0 ≤ x.2) (k : ∀ H', Grew H H' → R (.bool t.2.isSome) H') : CallQ prog (.func 73 [] []) [.agg (flat (sp t))] H R := by
  have hix : ∀ S, opIdxArr 4 2 (.ptr H.next 0) (.int .i64 3) S = some (.ptr H.next 6, S) := fun S => rfl
  have hq : eqFlatA true [.i, .i] (.agg [I (t.2.getD nob).1, I (t.2.getD nob).2]) (.agg [I 0, I (-1)]) = some (decide (t.2.getD nob = nob)) := eqsP _ nob
  have hd : t.2.isSome = !decide (t.2.getD nob = nob) := by
    cases h : t.2 with
    | none => rfl
    | some x =>
      have := ho x h
      have hne : ¬ x = nob := fun e => by rw [e] at this; exact absurd this (by decide)
      simp [hne]
  rw [hd] at k
  rw [eight_flat]
  refine CallQ_enter (fn:=c73) rfl (Nat.le_of_ble_eq_true rfl) ?_;simp(maxSteps:=9999999)(disch:=first|omega|(simp only[AN];omega))only[c73,envFrom,↓KP,EN,↓reduceIte,reduceCtorEq,Nat.reduceEqDiff,Nat.reduceAdd,Nat.reduceLeDiff,Nat.reduceMul]
  refine K_draw ?_
  simp(maxSteps:=9999999)(disch:=first|omega|(simp only[AN];omega))only[hix,↓KP,EN,↓reduceIte,reduceCtorEq,Nat.reduceEqDiff,Nat.reduceAdd,Nat.reduceLeDiff,Nat.reduceMul]
  refine C_calld ?_
  refine nobody_run fun H1 hg1 => ?_
  have hg1n:=hg1.next;try simp only[AN]at hg1n
  simp(maxSteps:=9999999)(disch:=first|omega|(simp only[AN];omega))only[hix,hg1.get,hq,↓KP,EN,↓reduceIte,reduceCtorEq,Nat.reduceEqDiff,Nat.reduceAdd,Nat.reduceLeDiff,Nat.reduceMul]
  exact k _ GW
end Go.Proofs.Ytihahmggfjjkjaa
namespace Go.Proofs.Ytihahmggfjjkjaa
open Go.AM Go.IntWalk Go.PL
set_option maxRecDepth 100000
set_option maxHeartbeats 4000000
set_option linter.unusedSimpArgs false
variable {H : AH} {R : AV → AH → Prop}
variable {p m : Nat} {vl vg vf : AV} {s : Series} {but : Nat}
theorem lit_slice (H : AH) (l : List Int) : IsInts (Old (H.alloc (.cells false (l.map I)))) (H.alloc (.cells false (l.map I))) (.slice H.next 0 l.length 1) l :=
  .inr ⟨H.next, 0, l.map I, rfl, by simp, by
    simp only [AH.read, get_alloc_new, readN, List.length_map, Nat.mul_one, Nat.zero_add, Nat.le_refl, if_true, List.drop_zero]
    rw [List.take_of_length_le (by simp)], ints_rows l⟩
theorem enter2_ok {a b : Int} (hb : 0 ≤ b ∧ b ≤ 9223372036854775807) : ∀ j (hj : j < [a, b].length), j % 2 = 1 → 0 ≤ [a, b][j] ∧ [a, b][j] ≤ 9223372036854775807 := fun j hj h => by
  match j, hj, h with
  | 1, _, _ => exact hb
theorem enter4_ok {a b c d : Int} (hb : 0 ≤ b ∧ b ≤ 9223372036854775807) (hd : 0 ≤ d ∧ d ≤ 9223372036854775807) : ∀ j (hj : j < [a, b, c, d].length), j % 2 = 1 → 0 ≤ [a, b, c, d][j] ∧ [a, b, c, d][j] ≤ 9223372036854775807 := fun j hj h => by
  match j, hj, h with
  | 1, _, _ => exact hb
  | 3, _, _ => exact hd
theorem indexE_eq {n below : Int} : indexE s n below = if errE s ≠ 0 then errE s else if offP 0 (below - 1) n = true then 4 else 0 := by
  unfold indexE
  by_cases he : errE s = 0
  · by_cases ho : 0 ≤ n ∧ n ≤ below - 1
    · simp only [he, ho, offP_false.2 ho, ne_eq, not_true, if_true, if_false, and_self, Bool.false_eq_true]
    · simp only [he, ho, offP_true.2 ho, ne_eq, not_true, if_true, if_false]
  · simp only [he, ne_eq, not_false_iff, if_true, if_false]
theorem enter2_err {n below : Int} : enterErr s [n, below] = if indexE s n below ≠ 0 then indexE s n below else if truthsE s [] = [] then 8 else 0 := by
  have hp : pairsOff [n, below] = offP 0 (below - 1) n := by simp [pairsOff]
  rw [enterErr, indexE_eq, hp]
  by_cases he : errE s = 0
  · simp only [he, ne_eq, not_true, if_false]
    by_cases ho : offP 0 (below - 1) n = true
    · simp [ho]
    · simp [ho]
  · simp [he]
theorem enter4_err {g gl d dl : Int} : enterErr s [g, gl, d, dl] = if (if indexE s g gl = 0 then indexE s d dl else indexE s g gl) ≠ 0 then (if indexE s g gl = 0 then indexE s d dl else indexE s g gl) else if truthsE s [] = [] then 8 else 0 := by
  have hp : pairsOff [g, gl, d, dl] = (offP 0 (gl - 1) g || offP 0 (dl - 1) d) := by simp [pairsOff]
  rw [enterErr, indexE_eq, indexE_eq, hp]
  by_cases he : errE s = 0
  · simp only [he, ne_eq, not_true, if_false]
    by_cases ho : offP 0 (gl - 1) g = true
    · simp [ho]
    · by_cases ho2 : offP 0 (dl - 1) d = true
      · simp [ho, ho2]
      · simp [ho, ho2]
  · simp [he]
theorem There_run (vl vg vf : AV) (s : Series) (g d : Int) (hh : IsSer (Old H) H vl vg vf s) (hs : Sized s)
    (k : ∀ H', Grew H H' → R (.tuple [I (thereE s g d).1, I (thereE s g d).2]) H') : CallQ prog (.func 18 [] []) [serArg vl vg vf s, I g, I d] H R := by
  have hlen : (s.looked.length : Int) = s.len := rfl
  have hE : enterErr s [g, s.groups.length, d, s.looked.length] = if thereErr s g d ≠ 0 then thereErr s g d else if truthsE s [] = [] then 8 else 0 := enter4_err
  have hgl := hs.g
  have hdl := hs.l
  refine CallQ_enter (fn:=c18) rfl (Nat.le_of_ble_eq_true rfl) ?_;simp(maxSteps:=9999999)(disch:=first|omega|(simp only[AN];omega))only[c18,envFrom,hh.l.isCell,hh.g.isCell,hh.f.isCell,hh.g.len,hh.l.len,↓KP,EN,↓reduceIte,reduceCtorEq,Nat.reduceEqDiff,Nat.reduceAdd,Nat.reduceLeDiff,Nat.reduceMul]
  have hsl := lit_slice (((H.alloc (.cells false [vl, I s.lo, I s.hi, vg, .bool s.unseen, vf])).alloc (.cells false [I g])).alloc (.cells false [I d])) [g, s.groups.length, d, s.looked.length]
  generalize hHs : ((((H.alloc (.cells false [vl, I s.lo, I s.hi, vg, .bool s.unseen, vf])).alloc (.cells false [I g])).alloc (.cells false [I d])).alloc (.cells false [I g, I s.groups.length, I d, I s.looked.length])) = Hs
  have hgs : Grew H Hs := by rw [← hHs]; exact GW
  have b1 : Hs.get (H.next + 1) = some (.cells false [I g]) := by rw [← hHs]; simp(maxSteps:=9999999)(disch:=first|omega|(simp only[AN];omega))only[↓KP,EN,↓reduceIte,reduceCtorEq,Nat.reduceEqDiff,Nat.reduceAdd,Nat.reduceLeDiff,Nat.reduceMul]
  have b2 : Hs.get (H.next + 1 + 1) = some (.cells false [I d]) := by rw [← hHs]; simp(maxSteps:=9999999)(disch:=first|omega|(simp only[AN];omega))only[↓KP,EN,↓reduceIte,reduceCtorEq,Nat.reduceEqDiff,Nat.reduceAdd,Nat.reduceLeDiff,Nat.reduceMul]
  have hsn : Hs.next = H.next + 1 + 1 + 1 + 1 := by rw [← hHs]; rfl
  replace hsl : IsInts (Old Hs) Hs (.slice (H.next + 1 + 1 + 1) 0 4 1) [g, s.groups.length, d, s.looked.length] := by rw [← hHs]; exact hsl
  clear hHs
  first|refine C_call ?_|refine C_calld ?_
  refine enter_run vl vg vf _ s _ (hh.grow hgs) hs hsl (by simp) (enter4_ok (by omega) (by omega)) (fun he H1 hg1 => ?_) (fun he hfine ht H1 p m hg1 hm hheld => ?_)
  · rw [thereE] at k
    simp(maxSteps:=9999999)(disch:=first|omega|(simp only[AN];omega))only[he,↓KP,EN,↓reduceIte,reduceCtorEq,Nat.reduceEqDiff,Nat.reduceAdd,Nat.reduceLeDiff,Nat.reduceMul]
    rw [hE] at he ⊢
    by_cases h1 : thereErr s g d ≠ 0
    · rw [if_pos h1] at he k ⊢
      exact k _ GW
    · rw [if_neg h1] at he k ⊢
      by_cases h2 : truthsE s [] = []
      · rw [if_pos h2] at he k ⊢
        exact k _ GW
      · rw [if_neg h2] at he
        exact absurd rfl he
  · have h1 : thereErr s g d = 0 := by
      rw [hE] at he
      by_cases h1 : thereErr s g d ≠ 0
      · rw [if_pos h1] at he; exact absurd he h1
      · exact Classical.not_not.1 h1
    have hgd : (0 ≤ g ∧ g < s.groups.length) ∧ 0 ≤ d ∧ d < s.len := by
      unfold thereErr at h1
      split at h1
      · rename_i h0; exact ⟨(indexE_zero h0).2, (indexE_zero h1).2⟩
      · rename_i h0; exact absurd h1 h0
    obtain ⟨g', rfl⟩ : ∃ g' : Nat, g = g' := ⟨g.toNat, by omega⟩
    have hg3 := hfine.gl
    have hg1n := hg1.next
    rw [thereE, if_neg (fun h => h h1), if_neg ht, Int.toNat_natCast] at k
    simp(maxSteps:=9999999)(disch:=first|omega|(simp only[AN];omega))only[↓KP,EN,↓reduceIte,reduceCtorEq,Nat.reduceEqDiff,Nat.reduceAdd,Nat.reduceLeDiff,Nat.reduceMul]
    first|refine C_call ?_|refine C_calld ?_
    refine told_run (pr := fun t => inS d (getN t.1 g')) hfine (by omega) hheld (by rw [truthsB_zero hfine]; have := truthsE_length (but := []) hfine; omega) (fun t H2 R htm hn hb hk => ?_) fun H2 hg2 => ?_
    · exact there1_run _ _ g' d t (by rw [hb _ (by omega) (by omega), hg1.get _ (by omega)]; exact b1) (by rw [hb _ (by omega) (by omega), hg1.get _ (by omega)]; exact b2) (by omega) (by omega) (by omega) hk
    · rw [truthsB_zero hfine]
      have hcc : (truthsE s []).countP (fun t => inS d (getN t.1 g')) = (truthsE s []).countP fun t => inS d (getP t.1 g') := List.countP_congr fun t htm => by
        rw [getN_getP (by rw [truthsE_mem htm]; omega)]
      rw [hcc]
      simp(maxSteps:=9999999)(disch:=first|omega|(simp only[AN];omega))only[↓KP,EN,↓reduceIte,reduceCtorEq,Nat.reduceEqDiff,Nat.reduceAdd,Nat.reduceLeDiff,Nat.reduceMul]
      exact k _ ⟨by have := hg2.next; omega, fun b hb => by rw [hg2.get b (by omega) (by omega), hg1.get b (by omega), hgs.get b hb]⟩
end Go.Proofs.Ytihahmggfjjkjaa
namespace Go.Proofs.Ytihahmggfjjkjaa
open Go.AM Go.IntWalk Go.PL
set_option maxRecDepth 100000
set_option maxHeartbeats 4000000
set_option linter.unusedSimpArgs false
variable {H : AH} {R : AV → AH → Prop}
variable {p m : Nat} {vl vg vf : AV} {s : Series} {but : Nat}
theorem hullN_eq {ts : List Truth} {f g : Truth → Int} (h0 : ts ≠ []) (h : ∀ t ∈ ts, f t = g t) : hullN (ts.map f) = hull (ts.map fun t => (g t, g t)) := by
  unfold hullN
  rw [if_neg (by simpa using h0), List.map_map]
  congr 1
  exact List.map_congr_left fun t ht => by simp [h t ht]
theorem Number_run (vl vg vf : AV) (s : Series) (d : Int) (hh : IsSer (Old H) H vl vg vf s) (hs : Sized s)
    (k : ∀ H', Grew H H' → R (.tuple [.agg [I (numberE s d).1.1, I (numberE s d).1.2], I (numberE s d).2]) H') : CallQ prog (.func 20 [] []) [serArg vl vg vf s, I d] H R := by
  have hE : enterErr s [d, s.looked.length] = if indexE s d s.len ≠ 0 then indexE s d s.len else if truthsE s [] = [] then 8 else 0 := enter2_err
  have hdl := hs.l
  refine CallQ_enter (fn:=c20) rfl (Nat.le_of_ble_eq_true rfl) ?_;simp(maxSteps:=9999999)(disch:=first|omega|(simp only[AN];omega))only[c20,envFrom,hh.l.isCell,hh.g.isCell,hh.f.isCell,hh.g.len,hh.l.len,↓KP,EN,↓reduceIte,reduceCtorEq,Nat.reduceEqDiff,Nat.reduceAdd,Nat.reduceLeDiff,Nat.reduceMul]
  have hsl := lit_slice (((H.alloc (.cells false [vl, I s.lo, I s.hi, vg, .bool s.unseen, vf])).alloc (.cells false [I d])).alloc (.cells false [I 0, I 0])) [d, s.looked.length]
  generalize hHs : ((((H.alloc (.cells false [vl, I s.lo, I s.hi, vg, .bool s.unseen, vf])).alloc (.cells false [I d])).alloc (.cells false [I 0, I 0])).alloc (.cells false [I d, I s.looked.length])) = Hs
  have hgs : Grew H Hs := by rw [← hHs]; exact GW
  have b1 : Hs.get (H.next + 1) = some (.cells false [I d]) := by rw [← hHs]; simp(maxSteps:=9999999)(disch:=first|omega|(simp only[AN];omega))only[↓KP,EN,↓reduceIte,reduceCtorEq,Nat.reduceEqDiff,Nat.reduceAdd,Nat.reduceLeDiff,Nat.reduceMul]
  have b2 : Hs.get (H.next + 1 + 1) = some (.cells false [I 0, I 0]) := by rw [← hHs]; simp(maxSteps:=9999999)(disch:=first|omega|(simp only[AN];omega))only[↓KP,EN,↓reduceIte,reduceCtorEq,Nat.reduceEqDiff,Nat.reduceAdd,Nat.reduceLeDiff,Nat.reduceMul]
  have hsn : Hs.next = H.next + 1 + 1 + 1 + 1 := by rw [← hHs]; rfl
  replace hsl : IsInts (Old Hs) Hs (.slice (H.next + 1 + 1 + 1) 0 2 1) [d, s.looked.length] := by rw [← hHs]; exact hsl
  clear hHs
  first|refine C_call ?_|refine C_calld ?_
  refine enter_run vl vg vf _ s _ (hh.grow hgs) hs hsl (by simp) (enter2_ok (by omega)) (fun he H1 hg1 => ?_) (fun he hfine ht H1 p m hg1 hm hheld => ?_)
  · have hg1n := hg1.next
    rw [numberE] at k
    simp(maxSteps:=9999999)(disch:=first|omega|(simp only[AN];omega))only[he,hg1.get,b2,↓KP,EN,↓reduceIte,reduceCtorEq,Nat.reduceEqDiff,Nat.reduceAdd,Nat.reduceLeDiff,Nat.reduceMul]
    rw [hE] at he ⊢
    by_cases h1 : indexE s d s.len ≠ 0
    · rw [if_pos h1] at he k ⊢
      exact k _ GW
    · rw [if_neg h1] at he k ⊢
      by_cases h2 : truthsE s [] = []
      · rw [if_pos h2] at he k ⊢
        exact k _ GW
      · rw [if_neg h2] at he
        exact absurd rfl he
  · have h1 : indexE s d s.len = 0 := by
      rw [hE] at he
      by_cases h1 : indexE s d s.len ≠ 0
      · rw [if_pos h1] at he; exact absurd he h1
      · exact Classical.not_not.1 h1
    have hd := (indexE_zero h1).2
    obtain ⟨d', rfl⟩ : ∃ d' : Nat, d = d' := ⟨d.toNat, by omega⟩
    have hg3 := hfine.gl
    have hl8 := hfine.len.2
    have hg1n := hg1.next
    rw [numberE, if_neg (fun h => h h1), if_neg ht] at k
    simp(maxSteps:=9999999)(disch:=first|omega|(simp only[AN];omega))only[↓KP,EN,↓reduceIte,reduceCtorEq,Nat.reduceEqDiff,Nat.reduceAdd,Nat.reduceLeDiff,Nat.reduceMul]
    first|refine C_call ?_|refine C_calld ?_
    refine hull_run (f := fun t => cntE (sp t) d') hfine (by omega) hheld (fun t H2 R htm hn hb hk => ?_) fun H2 hg2 => ?_
    · exact number1_run _ d' t (by rw [hb _ (by omega) (by omega), hg1.get _ (by omega)]; exact b1) (by omega) (by omega) hk
    · have hg2n := hg2.next
      have b3 : H2.get (H.next + 1 + 1) = some (.cells false [I 0, I 0]) := by rw [hg2.get _ (by omega) (by omega), hg1.get _ (by omega)]; exact b2
      have hg4 : Grew H H2 := ⟨by omega, fun b hb => by rw [hg2.get b (by omega) (by omega), hg1.get b (by omega), hgs.get b hb]⟩
      rw [truthsB_zero hfine, hullN_eq (g := fun t => onE t d') ht fun t htm => cnt_on (by rw [truthsE_mem htm]; omega) d']
      simp(maxSteps:=9999999)(disch:=first|omega|(simp only[AN];omega))only[b3,↓KP,EN,↓reduceIte,reduceCtorEq,Nat.reduceEqDiff,Nat.reduceAdd,Nat.reduceLeDiff,Nat.reduceMul]
      exact k _ GW
theorem Lasted_run (vl vg vf : AV) (s : Series) (g : Int) (hh : IsSer (Old H) H vl vg vf s) (hs : Sized s)
    (k : ∀ H', Grew H H' → R (.tuple [.agg [I (lastedE s g).1.1, I (lastedE s g).1.2], I (lastedE s g).2]) H') : CallQ prog (.func 23 [] []) [serArg vl vg vf s, I g] H R := by
  have hE : enterErr s [g, s.groups.length] = if indexE s g s.groups.length ≠ 0 then indexE s g s.groups.length else if truthsE s [] = [] then 8 else 0 := enter2_err
  have hdl := hs.g
  refine CallQ_enter (fn:=c23) rfl (Nat.le_of_ble_eq_true rfl) ?_;simp(maxSteps:=9999999)(disch:=first|omega|(simp only[AN];omega))only[c23,envFrom,hh.l.isCell,hh.g.isCell,hh.f.isCell,hh.g.len,hh.l.len,↓KP,EN,↓reduceIte,reduceCtorEq,Nat.reduceEqDiff,Nat.reduceAdd,Nat.reduceLeDiff,Nat.reduceMul]
  have hsl := lit_slice (((H.alloc (.cells false [vl, I s.lo, I s.hi, vg, .bool s.unseen, vf])).alloc (.cells false [I g])).alloc (.cells false [I 0, I 0])) [g, s.groups.length]
  generalize hHs : ((((H.alloc (.cells false [vl, I s.lo, I s.hi, vg, .bool s.unseen, vf])).alloc (.cells false [I g])).alloc (.cells false [I 0, I 0])).alloc (.cells false [I g, I s.groups.length])) = Hs
  have hgs : Grew H Hs := by rw [← hHs]; exact GW
  have b1 : Hs.get (H.next + 1) = some (.cells false [I g]) := by rw [← hHs]; simp(maxSteps:=9999999)(disch:=first|omega|(simp only[AN];omega))only[↓KP,EN,↓reduceIte,reduceCtorEq,Nat.reduceEqDiff,Nat.reduceAdd,Nat.reduceLeDiff,Nat.reduceMul]
  have b2 : Hs.get (H.next + 1 + 1) = some (.cells false [I 0, I 0]) := by rw [← hHs]; simp(maxSteps:=9999999)(disch:=first|omega|(simp only[AN];omega))only[↓KP,EN,↓reduceIte,reduceCtorEq,Nat.reduceEqDiff,Nat.reduceAdd,Nat.reduceLeDiff,Nat.reduceMul]
  have hsn : Hs.next = H.next + 1 + 1 + 1 + 1 := by rw [← hHs]; rfl
  replace hsl : IsInts (Old Hs) Hs (.slice (H.next + 1 + 1 + 1) 0 2 1) [g, s.groups.length] := by rw [← hHs]; exact hsl
  clear hHs
  first|refine C_call ?_|refine C_calld ?_
  refine enter_run vl vg vf _ s _ (hh.grow hgs) hs hsl (by simp) (enter2_ok (by omega)) (fun he H1 hg1 => ?_) (fun he hfine ht H1 p m hg1 hm hheld => ?_)
  · have hg1n := hg1.next
    rw [lastedE] at k
    simp(maxSteps:=9999999)(disch:=first|omega|(simp only[AN];omega))only[he,hg1.get,b2,↓KP,EN,↓reduceIte,reduceCtorEq,Nat.reduceEqDiff,Nat.reduceAdd,Nat.reduceLeDiff,Nat.reduceMul]
    rw [hE] at he ⊢
    by_cases h1 : indexE s g s.groups.length ≠ 0
    · rw [if_pos h1] at he k ⊢
      exact k _ GW
    · rw [if_neg h1] at he k ⊢
      by_cases h2 : truthsE s [] = []
      · rw [if_pos h2] at he k ⊢
        exact k _ GW
      · rw [if_neg h2] at he
        exact absurd rfl he
  · have h1 : indexE s g s.groups.length = 0 := by
      rw [hE] at he
      by_cases h1 : indexE s g s.groups.length ≠ 0
      · rw [if_pos h1] at he; exact absurd he h1
      · exact Classical.not_not.1 h1
    have hd := (indexE_zero h1).2
    obtain ⟨g', rfl⟩ : ∃ g' : Nat, g = g' := ⟨g.toNat, by omega⟩
    have hg3 := hfine.gl
    have hl8 := hfine.len.2
    have hg1n := hg1.next
    rw [lastedE, if_neg (fun h => h h1), if_neg ht, Int.toNat_natCast] at k
    have hgl : g' < s.groups.length := by omega
    have hge : ∀ t ∈ truthsE s [], getN t.1 g' = getP t.1 g' ∧ okS (getN t.1 g') := fun t htm => by
      have e := getN_getP (l := t.1) (k := g') (by rw [truthsE_mem htm]; omega)
      obtain ⟨lo, hi, u1, u2, _, u4⟩ := truth_get htm hgl
      refine ⟨e, ?_⟩
      rw [e, u4]
      exact ⟨by simp, by simp only; omega, by simp only; omega⟩
    simp(maxSteps:=9999999)(disch:=first|omega|(simp only[AN];omega))only[↓KP,EN,↓reduceIte,reduceCtorEq,Nat.reduceEqDiff,Nat.reduceAdd,Nat.reduceLeDiff,Nat.reduceMul]
    first|refine C_call ?_|refine C_calld ?_
    refine hull_run (f := fun t => daysE (getN t.1 g')) hfine (by omega) hheld (fun t H2 R htm hn hb hk => ?_) fun H2 hg2 => ?_
    · rw [truthsB_zero hfine] at htm
      exact lasted1_run _ g' t (by rw [hb _ (by omega) (by omega), hg1.get _ (by omega)]; exact b1) (by omega) (by omega) (hge t htm).2 hk
    · have hg2n := hg2.next
      have b3 : H2.get (H.next + 1 + 1) = some (.cells false [I 0, I 0]) := by rw [hg2.get _ (by omega) (by omega), hg1.get _ (by omega)]; exact b2
      have hg4 : Grew H H2 := ⟨by omega, fun b hb => by rw [hg2.get b (by omega) (by omega), hg1.get b (by omega), hgs.get b hb]⟩
      rw [truthsB_zero hfine, hullN_eq (g := fun t => daysE (getP t.1 g')) ht fun t htm => by rw [(hge t htm).1]]
      simp(maxSteps:=9999999)(disch:=first|omega|(simp only[AN];omega))only[b3,↓KP,EN,↓reduceIte,reduceCtorEq,Nat.reduceEqDiff,Nat.reduceAdd,Nat.reduceLeDiff,Nat.reduceMul]
      exact k _ GW
theorem enter0_err : enterErr s [] = if errE s ≠ 0 then errE s else if truthsE s [] = [] then 8 else 0 := by
  rw [enterErr]; simp [pairsOff]
theorem Unseen_run (vl vg vf : AV) (s : Series) (hh : IsSer (Old H) H vl vg vf s) (hs : Sized s)
    (k : ∀ H', Grew H H' → R (.tuple [I (unseenE s).1, I (unseenE s).2]) H') : CallQ prog (.func 25 [] []) [serArg vl vg vf s] H R := by
  refine CallQ_enter (fn:=c25) rfl (Nat.le_of_ble_eq_true rfl) ?_;simp(maxSteps:=9999999)(disch:=first|omega|(simp only[AN];omega))only[c25,envFrom,hh.l.isCell,hh.g.isCell,hh.f.isCell,↓KP,EN,↓reduceIte,reduceCtorEq,Nat.reduceEqDiff,Nat.reduceAdd,Nat.reduceLeDiff,Nat.reduceMul]
  first|refine C_call ?_|refine C_calld ?_
  refine enter_run vl vg vf _ s [] (hh.grow GW) hs (.inl ⟨rfl, rfl⟩) (by simp) (fun j hj => by simp at hj) (fun he H1 hg1 => ?_) (fun he hfine ht H1 p m hg1 hm hheld => ?_)
  · have hg1n := hg1.next
    rw [unseenE] at k
    simp(maxSteps:=9999999)(disch:=first|omega|(simp only[AN];omega))only[he,↓KP,EN,↓reduceIte,reduceCtorEq,Nat.reduceEqDiff,Nat.reduceAdd,Nat.reduceLeDiff,Nat.reduceMul]
    rw [enter0_err] at he ⊢
    by_cases h1 : errE s ≠ 0
    · rw [if_pos h1] at he k ⊢
      exact k _ GW
    · rw [if_neg h1] at he k ⊢
      by_cases h2 : truthsE s [] = []
      · rw [if_pos h2] at he k ⊢
        exact k _ GW
      · rw [if_neg h2] at he
        exact absurd rfl he
  · have h1 : errE s = 0 := by
      rw [enter0_err] at he
      by_cases h1 : errE s ≠ 0
      · rw [if_pos h1] at he; exact absurd he h1
      · exact Classical.not_not.1 h1
    have hg1n := hg1.next; simp only [AN] at hg1n
    simp only [AN] at hm
    rw [unseenE, if_neg (fun h => h h1), if_neg ht] at k
    simp(maxSteps:=9999999)(disch:=first|omega|(simp only[AN];omega))only[↓KP,EN,↓reduceIte,reduceCtorEq,Nat.reduceEqDiff,Nat.reduceAdd,Nat.reduceLeDiff,Nat.reduceMul]
    first|refine C_call ?_|refine C_calld ?_
    refine told_run (pr := fun t => t.2.isSome) hfine (by omega) hheld (by rw [truthsB_zero hfine]; have := truthsE_length (but := []) hfine; omega) (fun t H2 R htm hn hb hk => ?_) fun H2 hg2 => ?_
    · rw [truthsB_zero hfine] at htm
      refine unseen1_run t (fun x hx => ?_) hk
      rcases (mem_allE.1 (mem_truthsE.1 htm).1).2 with h | ⟨_, y, hy, h⟩
      · rw [h] at hx; cases hx
      · rw [h] at hx
        obtain rfl := Option.some.inj hx
        obtain ⟨lo, hi, _, _, _, rfl⟩ := mem_stays.1 hy
        simp
    · rw [truthsB_zero hfine]
      have hg2n := hg2.next
      have hg0 : Grew H H1 := Grew.trans GW hg1
      simp(maxSteps:=9999999)(disch:=first|omega|(simp only[AN];omega))only[↓KP,EN,↓reduceIte,reduceCtorEq,Nat.reduceEqDiff,Nat.reduceAdd,Nat.reduceLeDiff,Nat.reduceMul]
      exact k _ ⟨by omega, fun b hb => by rw [hg2.get b (by omega) (by omega), hg0.get b hb]⟩
end Go.Proofs.Ytihahmggfjjkjaa
namespace Go.Proofs.Ytihahmggfjjkjaa
open Go.AM Go.IntWalk Go.PL
set_option maxRecDepth 100000
set_option maxHeartbeats 4000000
set_option linter.unusedSimpArgs false
variable {H : AH} {R : AV → AH → Prop}
variable {p m : Nat} {vl vg vf : AV} {s : Series} {but : Nat}
theorem rep2_length (n : Nat) : (repeatL [I 0, I 0] n).length = n * 2 := by
  induction n with
  | zero => rfl
  | succ n ih => simp only [repeatL, List.length_append, ih, List.length_cons, List.length_nil]; omega
theorem flat_length (q : List (Int × Int)) : (flat q).length = q.length * 2 := by
  induction q with
  | nil => rfl
  | cons a q ih => simp only [flat, List.flatMap_cons, List.length_append, List.length_cons, List.length_nil] at ih ⊢; omega
theorem flat_cell (q : List (Int × Int)) : (flat q).all AV.isCell = true := by
  induction q with
  | nil => rfl
  | cons a q ih =>
    simp only [flat, List.flatMap_cons, List.all_append] at ih ⊢
    rw [ih]; rfl
theorem flat_rows (F : Nat → Prop) (H : AH) : ∀ q : List (Int × Int), Go.AM.Rows 2 (EP F H) (flat q) q
  | [] => .nil
  | a :: q => .cons (cs := [I a.1, I a.2]) rfl rfl (flat_rows F H q)
theorem flat_sp {t : Truth} (h : t.1.length ≤ 3) : (flat (sp t)).take (t.1.length * 2) = flat t.1 := by
  obtain ⟨g, mo⟩ := t
  match g, h with
  | [], _ => rfl
  | [a], _ => rfl
  | [a, b], _ => rfl
  | [a, b, c], _ => rfl
theorem makeP {S : AH} {n : Nat} (hn : n ≤ 1000) : opMakeSlice 2 16 [I 0, I 0] (I n) (I n) S = some (.slice S.next 0 n 2, S.alloc (.cells false (repeatL [I 0, I 0] n))) := by
  have h1 : n ≤ roomA ∧ 16 * n ≤ roomA := by unfold roomA; omega
  simp [opMakeSlice, natOf, h1]
theorem copy_first {n b7 bz : Nat} {t : Truth} (ht : t.1.length = n) (hn : n ≤ 3) (h7 : H.get b7 = some (.cells false (flat (sp t)))) (hz : H.get bz = some (.cells false (repeatL [I 0, I 0] n))) : copyA H 2 (.slice bz 0 n 2) (.slice b7 0 (4 - 0) 2) = some (I n, H.set bz (.cells false (flat t.1))) := by
  subst ht
  have h4 : (flat (sp t)).length = 8 := by rw [flat_length]; rfl
  have h1 : srcCells H 2 t.1.length (.slice b7 0 (4 - 0) 2) = some (flat t.1) := by
    simp only [srcCells, AH.read, h7, readN, Nat.zero_add, h4, List.drop_zero]
    simp only [flat_sp hn, show t.1.length * 2 ≤ 8 by omega, show t.1.length ≤ 4 - 0 by omega, and_self, if_true]
  have h2 := write_of (H := H) (b := bz) (i := 0) (xs := flat t.1) hz (write_all _ _ (by rw [rep2_length, flat_length])) (flat_cell _)
  simp only [copyA, lenA, show min (4 - 0) t.1.length = t.1.length from by omega, copyN, h1, h2, if_true]
theorem First_run (vl vg vf : AV) (s : Series) (hh : IsSer (Old H) H vl vg vf s) (hs : Sized s)
    (k : ∀ H' v, Grew H H' → IsSl 2 EP (Old H') H' v (firstE s).1 → R (.tuple [v, I (firstE s).2]) H') : CallQ prog (.func 27 [] []) [serArg vl vg vf s] H R := by
  refine CallQ_enter (fn:=c27) rfl (Nat.le_of_ble_eq_true rfl) ?_;simp(maxSteps:=9999999)(disch:=first|omega|(simp only[AN];omega))only[c27,envFrom,hh.l.isCell,hh.g.isCell,hh.f.isCell,↓KP,EN,↓reduceIte,reduceCtorEq,Nat.reduceEqDiff,Nat.reduceAdd,Nat.reduceLeDiff,Nat.reduceMul]
  first|refine C_call ?_|refine C_calld ?_
  refine enter_run vl vg vf _ s [] (hh.grow GW) hs (.inl ⟨rfl, rfl⟩) (by simp) (fun j hj => by simp at hj) (fun he H1 hg1 => ?_) (fun he hfine ht H1 p m hg1 hm hheld => ?_)
  · have hg1n := hg1.next
    rw [firstE] at k
    simp(maxSteps:=9999999)(disch:=first|omega|(simp only[AN];omega))only[he,↓KP,EN,↓reduceIte,reduceCtorEq,Nat.reduceEqDiff,Nat.reduceAdd,Nat.reduceLeDiff,Nat.reduceMul]
    rw [enter0_err] at he ⊢
    by_cases h1 : errE s ≠ 0
    · rw [if_pos h1] at he k ⊢
      exact k _ _ GW (.inl ⟨rfl, rfl⟩)
    · rw [if_neg h1] at he k ⊢
      by_cases h2 : truthsE s [] = []
      · rw [if_pos h2] at he ⊢
        rw [h2] at k
        exact k _ _ GW (.inl ⟨rfl, rfl⟩)
      · rw [if_neg h2] at he
        exact absurd rfl he
  · have h1 : errE s = 0 := by
      rw [enter0_err] at he
      by_cases h1 : errE s ≠ 0
      · rw [if_pos h1] at he; exact absurd he h1
      · exact Classical.not_not.1 h1
    have hg1n := hg1.next; simp only [AN] at hg1n
    simp only [AN] at hm
    have hg0 : Grew H H1 := Grew.trans GW hg1
    have hg3 := hfine.gl
    have hml := hheld.mlt
    have b1 : H1.get H.next = some (.cells false [vl, I s.lo, I s.hi, vg, .bool s.unseen, vf]) := by simp(maxSteps:=9999999)(disch:=first|omega|(simp only[AN];omega))only[hg1.get,↓KP,EN,↓reduceIte,reduceCtorEq,Nat.reduceEqDiff,Nat.reduceAdd,Nat.reduceLeDiff,Nat.reduceMul]
    rw [firstE, if_neg (fun h => h h1)] at k
    have hmk := fun S => makeP (S := S) (n := s.groups.length) (by omega)
    simp(maxSteps:=9999999)(disch:=first|omega|(simp only[AN];omega))only[b1,hh.g.len,hmk,↓KP,EN,↓reduceIte,reduceCtorEq,Nat.reduceEqDiff,Nat.reduceAdd,Nat.reduceLeDiff,Nat.reduceMul]
    first|refine C_call ?_|refine C_calld ?_
    refine truths_run p ?_
    simp(maxSteps:=9999999)(disch:=first|omega|(simp only[AN];omega))only[↓KP,EN,↓reduceIte,reduceCtorEq,Nat.reduceEqDiff,Nat.reduceAdd,Nat.reduceLeDiff,Nat.reduceMul]
    generalize hB : (((H1.alloc (.cells false (repeatL [I 0, I 0] s.groups.length))).alloc (.cells false [.nilslice])).set (H1.next + 1) (.cells false [.slice H1.next 0 s.groups.length 2])).alloc (.cells false [.ptr p 0]) = B
    have hgB : Grew H1 B := by rw [← hB]; exact GW
    have hr1 := hheld.up hgB
    have e0 : B.get H1.next = some (.cells false (repeatL [I 0, I 0] s.groups.length)) := by rw [← hB]; simp(maxSteps:=9999999)(disch:=first|omega|(simp only[AN];omega))only[↓KP,EN,↓reduceIte,reduceCtorEq,Nat.reduceEqDiff,Nat.reduceAdd,Nat.reduceLeDiff,Nat.reduceMul]
    have e1 : B.get (H1.next + 1) = some (.cells false [.slice H1.next 0 s.groups.length 2]) := by rw [← hB]; simp(maxSteps:=9999999)(disch:=first|omega|(simp only[AN];omega))only[↓KP,EN,↓reduceIte,reduceCtorEq,Nat.reduceEqDiff,Nat.reduceAdd,Nat.reduceLeDiff,Nat.reduceMul]
    have e3 : B.get (H1.next + 1 + 1) = some (.cells false [.ptr p 0]) := by rw [← hB]; simp(maxSteps:=9999999)(disch:=first|omega|(simp only[AN];omega))only[↓KP,EN,↓reduceIte,reduceCtorEq,Nat.reduceEqDiff,Nat.reduceAdd,Nat.reduceLeDiff,Nat.reduceMul]
    have hBn : B.next = H1.next + 1 + 1 + 1 := by rw [← hB]; rfl
    clear hB
    have hi := hr1.inv (B := B) (bh := H1.next + 1 + 1) (fun _ _ _ => rfl) (by omega) e3 (by omega)
    have hTz := truthsB_zero hfine
    refine K_iter2 (L := yields s 0) (K := Kh H1.next (H1.next + 1 + 1)) (Inv := Inv H1.next p m (H1.next + 1 + 1) vl vg vf s 0 B) (J := fun l => Jn H1.next p m (H1.next + 1 + 1) (fun b => l < b) vl vg vf s 0 B) rfl (truths_iter hfine (by omega)) hi (fun a ha => ?_)
      (fun done H2 => done = [] ∧ H2.get H1.next = some (.cells false (repeatL [I 0, I 0] s.groups.length)) ∧ H2.get (H1.next + 1) = some (.cells false [.slice H1.next 0 s.groups.length 2]))
      (fun x H2 => x = .exit 0 ∧ H2.get (H1.next + 1) = some (.cells false [.slice H1.next 0 s.groups.length 2]) ∧ ∃ t r, truthsB s 0 = t :: r ∧ H2.get H1.next = some (.cells false (flat t.1))) ?_ ?_ ?_ ?_ ?_ ?_
    · obtain ⟨t, _, rfl⟩ := List.mem_map.1 ha; rfl
    · rintro done H2 H3 hn hs' ⟨h1, h2, h3⟩
      exact ⟨h1, by rw [hs' _ (by simp only [Kh]; omega) (by omega)]; exact h2, by rw [hs' _ (by simp only [Kh]; omega) (by omega)]; exact h3⟩
    · rintro x H2 H3 hn hs' ⟨h1, h2, t, r, h3, h4⟩
      exact ⟨h1, by rw [hs' _ (by simp only [Kh]; omega) (by omega)]; exact h2, t, r, h3, by rw [hs' _ (by simp only [Kh]; omega) (by omega)]; exact h4⟩
    · exact ⟨rfl, e0, e1⟩
    · rintro done a rest H2 hL hlt hj ⟨rfl, h2, h3⟩ hlo
      rw [yields] at hL
      obtain ⟨t, r, hTr, rfl⟩ : ∃ t r, truthsB s 0 = t :: r ∧ argT t = a := by
        cases hT : truthsB s 0 with
        | nil => rw [hT] at hL; simp at hL
        | cons t r => rw [hT] at hL; simp only [List.map_cons, List.nil_append, List.cons.injEq] at hL; exact ⟨t, r, rfl, hL.1⟩
      have htl : t.1.length = s.groups.length := truthsE_mem (but := []) (by rw [← hTz, hTr]; simp)
      have hef := eight_flat t
      simp(maxSteps:=9999999)(disch:=first|omega|(simp only[AN];omega))only[K8,hlo,argT,hef,↓KP,EN,↓reduceIte,reduceCtorEq,Nat.reduceEqDiff,Nat.reduceAdd,Nat.reduceLeDiff,Nat.reduceMul]
      refine K_draw ?_
      simp(maxSteps:=9999999)(disch:=first|omega|(simp only[AN];omega))only[K8,h3,opSliceArr,optNat,↓KP,EN,↓reduceIte,reduceCtorEq,Nat.reduceEqDiff,Nat.reduceAdd,Nat.reduceLeDiff,Nat.reduceMul]
      rw [copy_first htl hg3 (by rw [eight_flat]; simp(maxSteps:=9999999)(disch:=first|omega|(simp only[AN];omega))only[↓KP,EN,↓reduceIte,reduceCtorEq,Nat.reduceEqDiff,Nat.reduceAdd,Nat.reduceLeDiff,Nat.reduceMul]) (by simp(maxSteps:=9999999)(disch:=first|omega|(simp only[AN];omega))only[h2,↓KP,EN,↓reduceIte,reduceCtorEq,Nat.reduceEqDiff,Nat.reduceAdd,Nat.reduceLeDiff,Nat.reduceMul])]
      simp(maxSteps:=9999999)(disch:=first|omega|(simp only[AN];omega))only[K8,↓KP,EN,↓reduceIte,reduceCtorEq,Nat.reduceEqDiff,Nat.reduceAdd,Nat.reduceLeDiff,Nat.reduceMul]
      refine K_bod ⟨?_, ⟨?_, fun b hb hc => ?_⟩, rfl, ?_, t, r, hTr, ?_⟩
      · simp(maxSteps:=9999999)(disch:=first|omega|(simp only[AN];omega))only[↓KP,EN,↓reduceIte,reduceCtorEq,Nat.reduceEqDiff,Nat.reduceAdd,Nat.reduceLeDiff,Nat.reduceMul]
      · first | omega | (simp(maxSteps:=9999999)(disch:=first|omega|(simp only[AN];omega))only[↓KP,EN,↓reduceIte,reduceCtorEq,Nat.reduceEqDiff,Nat.reduceAdd,Nat.reduceLeDiff,Nat.reduceMul]; omega)
      · simp only [Kh] at hc; simp(maxSteps:=9999999)(disch:=first|omega|(simp only[AN];omega))only[↓KP,EN,↓reduceIte,reduceCtorEq,Nat.reduceEqDiff,Nat.reduceAdd,Nat.reduceLeDiff,Nat.reduceMul]
      · simp(maxSteps:=9999999)(disch:=first|omega|(simp only[AN];omega))only[h3,↓KP,EN,↓reduceIte,reduceCtorEq,Nat.reduceEqDiff,Nat.reduceAdd,Nat.reduceLeDiff,Nat.reduceMul]
      · simp(maxSteps:=9999999)(disch:=first|omega|(simp only[AN];omega))only[↓KP,EN,↓reduceIte,reduceCtorEq,Nat.reduceEqDiff,Nat.reduceAdd,Nat.reduceLeDiff,Nat.reduceMul]
    · rintro H2 hn hj ⟨hd, h2, h3⟩
      exfalso
      apply ht
      rw [← hTz]
      simpa [yields] using hd
    · rintro x H2 hx hn hj ⟨rfl, h2, t, r, h3, h4⟩
      simp(maxSteps:=9999999)(disch:=first|omega|(simp only[AN];omega))only[h2,↓KP,EN,↓reduceIte,reduceCtorEq,Nat.reduceEqDiff,Nat.reduceAdd,Nat.reduceLeDiff,Nat.reduceMul]
      have hte : truthsE s [] = t :: r := by rw [← hTz]; exact h3
      have htl : t.1.length = s.groups.length := truthsE_mem (but := []) (by rw [hte]; simp)
      rw [hte] at k
      refine k _ _ ⟨?_, fun b hb => ?_⟩ (.inr ⟨H1.next, 0, flat t.1, by rw [htl], ?_, ?_, flat_rows _ _ _⟩)
      · first | omega | (simp(maxSteps:=9999999)(disch:=first|omega|(simp only[AN];omega))only[↓KP,EN,↓reduceIte,reduceCtorEq,Nat.reduceEqDiff,Nat.reduceAdd,Nat.reduceLeDiff,Nat.reduceMul]; omega)
      · simp(maxSteps:=9999999)(disch:=first|omega|(simp only[AN];omega))only[hj.base,hgB.get,hg0.get,↓KP,EN,↓reduceIte,reduceCtorEq,Nat.reduceEqDiff,Nat.reduceAdd,Nat.reduceLeDiff,Nat.reduceMul]
      · show H1.next < _
        first | omega | (simp(maxSteps:=9999999)(disch:=first|omega|(simp only[AN];omega))only[↓KP,EN,↓reduceIte,reduceCtorEq,Nat.reduceEqDiff,Nat.reduceAdd,Nat.reduceLeDiff,Nat.reduceMul]; omega)
      · simp only [AH.read]
        simp(maxSteps:=9999999)(disch:=first|omega|(simp only[AN];omega))only[h4,↓KP,EN,↓reduceIte,reduceCtorEq,Nat.reduceEqDiff,Nat.reduceAdd,Nat.reduceLeDiff,Nat.reduceMul]
        simp only [readN, Nat.zero_add, flat_length, Nat.le_refl, if_true, List.drop_zero]
        rw [List.take_of_length_le (by rw [flat_length]; omega)]
end Go.Proofs.Ytihahmggfjjkjaa
namespace Go.Proofs.Ytihahmggfjjkjaa
open Go.AM Go.IntWalk Go.PL
set_option maxRecDepth 100000
set_option maxHeartbeats 4000000
set_option linter.unusedSimpArgs false
variable {H : AH} {R : AV → AH → Prop}
variable {p m : Nat} {vl vg vf : AV} {s : Series} {but : Nat}
theorem eq8 (f g : Nat → Int) : ∃ b, eqFlatA true [.i, .i, .i, .i, .i, .i, .i, .i] (.agg (arr8 f)) (.agg (arr8 g)) = some b ∧ (b = true → ∀ d, d < 8 → f d = g d) := by
  refine ⟨((f 0 == g 0) && ((f 1 == g 1) && ((f 2 == g 2) && ((f 3 == g 3) && ((f 4 == g 4) && ((f 5 == g 5) && ((f 6 == g 6) && ((f 7 == g 7) && true)))))))), by simp [eqFlatA, eqCells, arr8], fun h => ?_⟩
  simp only [Bool.and_eq_true, beq_iff_eq, and_true] at h
  obtain ⟨h0, h1, h2, h3, h4, h5, h6, h7⟩ := h
  intro d hd
  have : d = 0 ∨ d = 1 ∨ d = 2 ∨ d = 3 ∨ d = 4 ∨ d = 5 ∨ d = 6 ∨ d = 7 := by omega
  rcases this with rfl | rfl | rfl | rfl | rfl | rfl | rfl | rfl <;> assumption
theorem numE_snoc {ts : List Truth} {t : Truth} {d : Int} (h : ts ≠ []) : numE (ts ++ [t]) d = (min (numE ts d).1 (onE t d), max (numE ts d).2 (onE t d)) := by
  unfold numE
  cases ts with
  | nil => exact absurd rfl h
  | cons a l => simp [hull, hullFrom, List.foldl_append, join, Int.min_comm, Int.max_comm]
theorem numE_one {t : Truth} {d : Int} : numE [t] d = (onE t d, onE t d) := rfl
def OpenY (T : List Truth) (b : Nat) (n : Nat) (H2 : AH) : Prop :=
  ∃ f g : Nat → Int, H2.get b = some (.cells false (arr8 f)) ∧ H2.get (b + 1) = some (.cells false (arr8 g)) ∧ H2.get (b + 1 + 1) = some (.cells false [.bool (decide (n = 0))]) ∧
    (n ≠ 0 → ∀ d : Nat, d < 8 → f d = (numE (T.take n) d).1 ∧ g d = (numE (T.take n) d).2)
theorem Open_run (vl vg vf : AV) (s : Series) (hh : IsSer (Old H) H vl vg vf s) (hs : Sized s)
    (k : ∀ H', Grew H H' → R (.tuple [I (openE s).1, I (openE s).2.1, I (openE s).2.2]) H') : CallQ prog (.func 30 [] []) [serArg vl vg vf s] H R := by
  have hlen : (s.looked.length : Int) = s.len := rfl
  refine CallQ_enter (fn:=c30) rfl (Nat.le_of_ble_eq_true rfl) ?_;simp(maxSteps:=9999999)(disch:=first|omega|(simp only[AN];omega))only[c30,envFrom,hh.l.isCell,hh.g.isCell,hh.f.isCell,↓KP,EN,↓reduceIte,reduceCtorEq,Nat.reduceEqDiff,Nat.reduceAdd,Nat.reduceLeDiff,Nat.reduceMul]
  first|refine C_call ?_|refine C_calld ?_
  refine enter_run vl vg vf _ s [] (hh.grow GW) hs (.inl ⟨rfl, rfl⟩) (by simp) (fun j hj => by simp at hj) (fun he H1 hg1 => ?_) (fun he hfine ht H1 p m hg1 hm hheld => ?_)
  · have hg1n := hg1.next
    rw [openE] at k
    simp(maxSteps:=9999999)(disch:=first|omega|(simp only[AN];omega))only[he,↓KP,EN,↓reduceIte,reduceCtorEq,Nat.reduceEqDiff,Nat.reduceAdd,Nat.reduceLeDiff,Nat.reduceMul]
    rw [enter0_err] at he ⊢
    by_cases h1 : errE s ≠ 0
    · rw [if_pos h1] at he k ⊢
      exact k _ GW
    · rw [if_neg h1] at he k ⊢
      by_cases h2 : truthsE s [] = []
      · rw [if_pos h2] at he k ⊢
        exact k _ GW
      · rw [if_neg h2] at he
        exact absurd rfl he
  · have h1 : errE s = 0 := by
      rw [enter0_err] at he
      by_cases h1 : errE s ≠ 0
      · rw [if_pos h1] at he; exact absurd he h1
      · exact Classical.not_not.1 h1
    have hg1n := hg1.next; simp only [AN] at hg1n
    simp only [AN] at hm
    have hg0 : Grew H H1 := Grew.trans GW hg1
    have hg3 := hfine.gl
    have hl8 := hfine.len.2
    have hml := hheld.mlt
    have b1 : H1.get H.next = some (.cells false [vl, I s.lo, I s.hi, vg, .bool s.unseen, vf]) := by simp(maxSteps:=9999999)(disch:=first|omega|(simp only[AN];omega))only[hg1.get,↓KP,EN,↓reduceIte,reduceCtorEq,Nat.reduceEqDiff,Nat.reduceAdd,Nat.reduceLeDiff,Nat.reduceMul]
    rw [openE, if_neg (fun h => h h1), if_neg ht] at k
    simp(maxSteps:=9999999)(disch:=first|omega|(simp only[AN];omega))only[↓KP,EN,↓reduceIte,reduceCtorEq,Nat.reduceEqDiff,Nat.reduceAdd,Nat.reduceLeDiff,Nat.reduceMul]
    first|refine C_call ?_|refine C_calld ?_
    refine truths_run p ?_
    simp(maxSteps:=9999999)(disch:=first|omega|(simp only[AN];omega))only[↓KP,EN,↓reduceIte,reduceCtorEq,Nat.reduceEqDiff,Nat.reduceAdd,Nat.reduceLeDiff,Nat.reduceMul]
    generalize hB : ((((H1.alloc (.cells false [I 0, I 0, I 0, I 0, I 0, I 0, I 0, I 0])).alloc (.cells false [I 0, I 0, I 0, I 0, I 0, I 0, I 0, I 0])).alloc (.cells false [.bool false])).set (H1.next + 1 + 1) (.cells false [.bool true])).alloc (.cells false [.ptr p 0]) = B
    have hgB : Grew H1 B := by rw [← hB]; exact GW
    have hr1 := hheld.up hgB
    have e0 : OpenY (truthsE s []) H1.next 0 B := ⟨fun _ => 0, fun _ => 0, by rw [← hB]; simp(maxSteps:=9999999)(disch:=first|omega|(simp only[AN];omega))only[↓KP,EN,↓reduceIte,reduceCtorEq,Nat.reduceEqDiff,Nat.reduceAdd,Nat.reduceLeDiff,Nat.reduceMul]; rfl, by rw [← hB]; simp(maxSteps:=9999999)(disch:=first|omega|(simp only[AN];omega))only[↓KP,EN,↓reduceIte,reduceCtorEq,Nat.reduceEqDiff,Nat.reduceAdd,Nat.reduceLeDiff,Nat.reduceMul]; rfl, by rw [← hB]; simp(maxSteps:=9999999)(disch:=first|omega|(simp only[AN];omega))only[↓KP,EN,↓reduceIte,reduceCtorEq,Nat.reduceEqDiff,Nat.reduceAdd,Nat.reduceLeDiff,Nat.reduceMul], fun h => absurd rfl h⟩
    have e3 : B.get (H1.next + 1 + 1 + 1) = some (.cells false [.ptr p 0]) := by rw [← hB]; simp(maxSteps:=9999999)(disch:=first|omega|(simp only[AN];omega))only[↓KP,EN,↓reduceIte,reduceCtorEq,Nat.reduceEqDiff,Nat.reduceAdd,Nat.reduceLeDiff,Nat.reduceMul]
    have hBn : B.next = H1.next + 1 + 1 + 1 + 1 := by rw [← hB]; rfl
    clear hB
    have hi := hr1.inv (B := B) (bh := H1.next + 1 + 1 + 1) (fun _ _ _ => rfl) (by omega) e3 (by omega)
    have hTz := truthsB_zero hfine
    have hml3 : ∀ t ∈ truthsE s [], t.1.length ≤ 3 := fun t htm => by rw [truthsE_mem htm]; omega
    generalize truthsE s [] = T at *
    refine K_iter2 (L := yields s 0) (K := Kh H1.next (H1.next + 1 + 1 + 1)) (Inv := Inv H1.next p m (H1.next + 1 + 1 + 1) vl vg vf s 0 B) (J := fun l => Jn H1.next p m (H1.next + 1 + 1 + 1) (fun b => l < b) vl vg vf s 0 B) rfl (truths_iter hfine (by omega)) hi (fun a ha => ?_)
      (fun done H2 => OpenY T H1.next done.length H2) (fun x H2 => False) ?_ ?_ ?_ ?_ ?_ ?_
    · obtain ⟨t, _, rfl⟩ := List.mem_map.1 ha; rfl
    · rintro done H2 H3 hn hs' ⟨f, g, h1, h2, h3, h4⟩
      exact ⟨f, g, by rw [hs' _ (by simp only [Kh]; omega) (by omega)]; exact h1, by rw [hs' _ (by simp only [Kh]; omega) (by omega)]; exact h2, by rw [hs' _ (by simp only [Kh]; omega) (by omega)]; exact h3, h4⟩
    · intro x H2 H3 _ _ h; exact h
    · exact e0
    · rintro done a rest H2 hL hlt hj ⟨f, g, h1, h2, h3, h4⟩ hlo
      rw [yields, hTz] at hL
      obtain ⟨hi', rfl⟩ := hand hL
      have htl := hml3 _ (List.getElem_mem hi')
      have hon := fun d => cnt_on htl d
      have htk : T.take (done.length + 1) = T.take done.length ++ [T[done.length]] := List.take_succ_eq_append_getElem hi'
      generalize T[done.length] = t at *
      simp only [arr8] at h1 h2
      simp(maxSteps:=9999999)(disch:=first|omega|(simp only[AN];omega))only[K8,hlo,argT,arr8,h1,h2,h3,↓KP,EN,↓reduceIte,reduceCtorEq,Nat.reduceEqDiff,Nat.reduceAdd,Nat.reduceLeDiff,Nat.reduceMul]
      by_cases hn0 : done.length = 0
      · have hT1 : T.take (done.length + 1) = [t] := by rw [htk, hn0]; rfl
        have hU : ∀ d : Nat, d < 8 → min (cntE (sp t) d) (cntE (sp t) d) = (numE (T.take (done.length + 1)) d).1 ∧ max (cntE (sp t) d) (cntE (sp t) d) = (numE (T.take (done.length + 1)) d).2 := fun d hd => by
          rw [hT1, numE_one, hon d, Int.min_self, Int.max_self]; exact ⟨rfl, rfl⟩
        have hle : ∀ d : Nat, d < 8 → cntE (sp t) d ≤ cntE (sp t) d := fun d _ => by omega
        simp(maxSteps:=9999999)(disch:=first|omega|(simp only[AN];omega))only[eq_true hn0,↓KP,EN,↓reduceIte,reduceCtorEq,Nat.reduceEqDiff,Nat.reduceAdd,Nat.reduceLeDiff,Nat.reduceMul]
        refine K_draw ?_
        simp(maxSteps:=9999999)(disch:=first|omega|(simp only[AN];omega))only[↓KP,EN,↓reduceIte,reduceCtorEq,Nat.reduceEqDiff,Nat.reduceAdd,Nat.reduceLeDiff,Nat.reduceMul]
        obtain ⟨b, hq, hqt⟩ := eq8 (cntE (sp t)) (cntE (sp t))
        simp only [arr8] at hq
        simp(maxSteps:=9999999)(disch:=first|omega|(simp only[AN];omega))only[h1,h2,h3,hq,↓KP,EN,↓reduceIte,reduceCtorEq,Nat.reduceEqDiff,Nat.reduceAdd,Nat.reduceLeDiff,Nat.reduceMul]
        cases b with
        | true =>
          have hcf := hqt rfl
          simp(maxSteps:=9999999)(disch:=first|omega|(simp only[AN];omega))only[↓KP,EN,↓reduceIte,reduceCtorEq,Nat.reduceEqDiff,Nat.reduceAdd,Nat.reduceLeDiff,Nat.reduceMul]
          refine K_bod ⟨?_, ⟨?_, fun b hb hc => ?_⟩, ?_⟩
          · simp(maxSteps:=9999999)(disch:=first|omega|(simp only[AN];omega))only[↓KP,EN,↓reduceIte,reduceCtorEq,Nat.reduceEqDiff,Nat.reduceAdd,Nat.reduceLeDiff,Nat.reduceMul]
          · first | omega | (simp(maxSteps:=9999999)(disch:=first|omega|(simp only[AN];omega))only[↓KP,EN,↓reduceIte,reduceCtorEq,Nat.reduceEqDiff,Nat.reduceAdd,Nat.reduceLeDiff,Nat.reduceMul]; omega)
          · simp only [Kh] at hc; simp(maxSteps:=9999999)(disch:=first|omega|(simp only[AN];omega))only[↓KP,EN,↓reduceIte,reduceCtorEq,Nat.reduceEqDiff,Nat.reduceAdd,Nat.reduceLeDiff,Nat.reduceMul]
          · refine ⟨(cntE (sp t)), (cntE (sp t)), by simp(maxSteps:=9999999)(disch:=first|omega|(simp only[AN];omega))only[h1,↓KP,EN,↓reduceIte,reduceCtorEq,Nat.reduceEqDiff,Nat.reduceAdd,Nat.reduceLeDiff,Nat.reduceMul]; rfl, by simp(maxSteps:=9999999)(disch:=first|omega|(simp only[AN];omega))only[h2,↓KP,EN,↓reduceIte,reduceCtorEq,Nat.reduceEqDiff,Nat.reduceAdd,Nat.reduceLeDiff,Nat.reduceMul]; rfl, ?_, fun _ d hd => ?_⟩
            · simp(maxSteps:=9999999)(disch:=first|omega|(simp only[AN];omega))only[h3,↓KP,EN,↓reduceIte,reduceCtorEq,Nat.reduceEqDiff,Nat.reduceAdd,Nat.reduceLeDiff,Nat.reduceMul]
              simp
            · have u := hU d hd
              have v := hle d hd
              have w := hcf d hd
              simp only [List.length_append, List.length_singleton]
              omega
        | false =>
          simp(maxSteps:=9999999)(disch:=first|omega|(simp only[AN];omega))only[↓KP,EN,↓reduceIte,reduceCtorEq,Nat.reduceEqDiff,Nat.reduceAdd,Nat.reduceLeDiff,Nat.reduceMul]
          generalize hHb : AH.set _ _ _ = Hb
          have q1 : Hb.get H1.next = some (.cells false (arr8 (cntE (sp t)))) := by rw [← hHb]; simp(maxSteps:=9999999)(disch:=first|omega|(simp only[AN];omega))only[h1,↓KP,EN,↓reduceIte,reduceCtorEq,Nat.reduceEqDiff,Nat.reduceAdd,Nat.reduceLeDiff,Nat.reduceMul]; rfl
          have q2 : Hb.get (H1.next + 1) = some (.cells false (arr8 (cntE (sp t)))) := by rw [← hHb]; simp(maxSteps:=9999999)(disch:=first|omega|(simp only[AN];omega))only[h2,↓KP,EN,↓reduceIte,reduceCtorEq,Nat.reduceEqDiff,Nat.reduceAdd,Nat.reduceLeDiff,Nat.reduceMul]; rfl
          have q3 : Hb.get (H1.next + 1 + 1) = some (.cells false [.bool false]) := by rw [← hHb]; simp(maxSteps:=9999999)(disch:=first|omega|(simp only[AN];omega))only[h3,↓KP,EN,↓reduceIte,reduceCtorEq,Nat.reduceEqDiff,Nat.reduceAdd,Nat.reduceLeDiff,Nat.reduceMul]
          have q4 : Hb.get H2.next = some (.cells false (arr8 (cntE (sp t)))) := by rw [← hHb]; simp(maxSteps:=9999999)(disch:=first|omega|(simp only[AN];omega))only[↓KP,EN,↓reduceIte,reduceCtorEq,Nat.reduceEqDiff,Nat.reduceAdd,Nat.reduceLeDiff,Nat.reduceMul]; rfl
          have q5 := congrArg (·.get B.next) hHb
          try simp only [] at q5
          simp(maxSteps:=9999999)(disch:=first|omega|(simp only[AN];omega))only[↓KP,EN,↓reduceIte,reduceCtorEq,Nat.reduceEqDiff,Nat.reduceAdd,Nat.reduceLeDiff,Nat.reduceMul] at q5
          have q6 : Hb.next = H2.next + 1 := by rw [← hHb]; rfl
          have q7 : ∀ b, b < H2.next → (Kh H1.next (H1.next + 1 + 1 + 1) b ∨ B.next < b) → Hb.get b = H2.get b := fun b hb hc => by
            simp only [Kh] at hc
            rw [← hHb]; simp(maxSteps:=9999999)(disch:=first|omega|(simp only[AN];omega))only[↓KP,EN,↓reduceIte,reduceCtorEq,Nat.reduceEqDiff,Nat.reduceAdd,Nat.reduceLeDiff,Nat.reduceMul]
          clear hHb
          refine K_loop (fun mz ez H4 => ∃ (d : Nat) (tail : Env), ez = (0, serArg vl vg vf s) :: (1, .ptr H.next 0) :: (2, I 0) :: (3, I 0) :: (4, I 0) :: tail ∧ (tail.get 6 = some (.ptr H1.next 0)) ∧ (tail.get 7 = some (.ptr (H1.next + 1) 0)) ∧ (tail.get 10 = some (.ptr H2.next 0)) ∧ (tail.get 32 = some (I d)) ∧ (d ≤ 8) ∧ (H4.next = Hb.next) ∧ (H4.get H1.next = some (.cells false (arr8 fun e => if e < d then min ((cntE (sp t)) e) (cntE (sp t) e) else (cntE (sp t)) e))) ∧ (H4.get (H1.next + 1) = some (.cells false (arr8 fun e => if e < d then max ((cntE (sp t)) e) (cntE (sp t) e) else (cntE (sp t)) e))) ∧ (∀ b, b ≠ H1.next → b ≠ H1.next + 1 → H4.get b = Hb.get b) ∧ mz = 8 - d) _ ⟨0, _, rfl, ?_, ?_, ?_, ?_, ?_, ?_, (by rw [q1]; congr 2), (by rw [q2]; congr 2), (by intro _ _ _; rfl), rfl⟩ ?_
          iterate 6 (focus (first|(with_reducible rfl)|omega|(with_reducible(repeat first|exact Grew.refl _|assumption|apply Grew.alloc|refine Grew.set ?_ _ (by first|omega|(simp only[AN];omega)));done)|(simp(maxSteps:=9999999)(disch:=first|omega|(simp only[AN];omega))only[↓KP,EN,↓reduceIte,reduceCtorEq,Nat.reduceEqDiff,Nat.reduceAdd,Nat.reduceLeDiff,Nat.reduceMul]<;>first|omega|rfl)|(simp;done)|rfl))
          rintro mz ez H4 ⟨d, tail, rfl, t6, t7, t10, t32, hd, r0, r1, r2, r3, hmz⟩; subst mz
          simp(maxSteps:=9999999)(disch:=first|omega|(simp only[AN];omega))only[t32,↓KP,EN,↓reduceIte,reduceCtorEq,Nat.reduceEqDiff,Nat.reduceAdd,Nat.reduceLeDiff,Nat.reduceMul]
          refine C_decide (fun hc => ?_) (fun hc => ?_)
          · have hd8 : d < 8 := by omega
            have ix1 := idx8 H1.next (n := (d : Int)) rfl hd8
            have ix2 := idx8 (H1.next + 1) (n := (d : Int)) rfl hd8
            have ix3 := idx8 H2.next (n := (d : Int)) rfl hd8
            have a1 := arr8_get (f := fun e => if e < d then min ((cntE (sp t)) e) (cntE (sp t) e) else (cntE (sp t)) e) hd8
            have a2 := arr8_get (f := fun e => if e < d then max ((cntE (sp t)) e) (cntE (sp t) e) else (cntE (sp t)) e) hd8
            have a3 := arr8_get (f := cntE (sp t)) hd8
            simp only [if_neg (Nat.lt_irrefl d)] at a1 a2
            have s1 := arr8_set (f := fun e => if e < d then min ((cntE (sp t)) e) (cntE (sp t) e) else (cntE (sp t)) e) hd8 (min ((cntE (sp t)) d) (cntE (sp t) d))
            have s2 := arr8_set (f := fun e => if e < d then max ((cntE (sp t)) e) (cntE (sp t) e) else (cntE (sp t)) e) hd8 (max ((cntE (sp t)) d) (cntE (sp t) d))
            have hn1 : (arr8 fun e => if e = d then min ((cntE (sp t)) d) (cntE (sp t) d) else if e < d then min ((cntE (sp t)) e) (cntE (sp t) e) else (cntE (sp t)) e) = arr8 fun e => if e < d + 1 then min ((cntE (sp t)) e) (cntE (sp t) e) else (cntE (sp t)) e := arr8_congr fun e _ => by
              by_cases h : e = d
              · subst h; rw [if_pos rfl, if_pos (by omega)]
              · rw [if_neg h]
                by_cases h2 : e < d
                · rw [if_pos h2, if_pos (by omega)]
                · rw [if_neg h2, if_neg (by omega)]
            have hn2 : (arr8 fun e => if e = d then max ((cntE (sp t)) d) (cntE (sp t) d) else if e < d then max ((cntE (sp t)) e) (cntE (sp t) e) else (cntE (sp t)) e) = arr8 fun e => if e < d + 1 then max ((cntE (sp t)) e) (cntE (sp t) e) else (cntE (sp t)) e := arr8_congr fun e _ => by
              by_cases h : e = d
              · subst h; rw [if_pos rfl, if_pos (by omega)]
              · rw [if_neg h]
                by_cases h2 : e < d
                · rw [if_pos h2, if_pos (by omega)]
                · rw [if_neg h2, if_neg (by omega)]
            rw [hn1] at s1
            rw [hn2] at s2
            have e1 : IntKind.i64.wrap ((d : Int) + 1) = ((d + 1 : Nat) : Int) := i64_in _ (by omega)
            have q4' : H4.get H2.next = some (.cells false (arr8 (cntE (sp t)))) := by rw [r3 _ (by omega) (by omega)]; exact q4
            simp(maxSteps:=9999999)(disch:=first|omega|(simp only[AN];omega))only[t32,↓KP,EN,↓reduceIte,reduceCtorEq,Nat.reduceEqDiff,Nat.reduceAdd,Nat.reduceLeDiff,Nat.reduceMul]
            refine K_draw ?_
            simp(maxSteps:=9999999)(disch:=first|omega|(simp only[AN];omega))only[t6,t7,t10,t32,ix1,ix2,ix3,a1,a2,a3,r1,r2,q4',s1,s2,e1,↓KP,EN,↓reduceIte,reduceCtorEq,Nat.reduceEqDiff,Nat.reduceAdd,Nat.reduceLeDiff,Nat.reduceMul]
            refine ⟨_, ?_, d + 1, _, rfl, ?_, ?_, ?_, ?_, ?_, ?_, ?_, ?_, (by intro b hb1 hb2; simp(maxSteps:=9999999)(disch:=first|omega|(simp only[AN];omega))only[r3 b hb1 hb2,↓KP,EN,↓reduceIte,reduceCtorEq,Nat.reduceEqDiff,Nat.reduceAdd,Nat.reduceLeDiff,Nat.reduceMul]), rfl⟩ <;> (first|omega|(with_reducible assumption)|(with_reducible(repeat first|exact Grew.refl _|assumption|apply Grew.alloc|refine Grew.set ?_ _ (by first|omega|(simp only[AN];omega)));done)|(simp(maxSteps:=9999999)(disch:=first|omega|(simp only[AN];omega))only[t6,t7,t10,↓KP,EN,↓reduceIte,reduceCtorEq,Nat.reduceEqDiff,Nat.reduceAdd,Nat.reduceLeDiff,Nat.reduceMul]<;>first|omega|rfl))
          · have hde : d = 8 := by omega
            subst hde
            simp(maxSteps:=9999999)(disch:=first|omega|(simp only[AN];omega))only[↓KP,EN,↓reduceIte,reduceCtorEq,Nat.reduceEqDiff,Nat.reduceAdd,Nat.reduceLeDiff,Nat.reduceMul]
            refine K_bod ⟨?_, ⟨?_, fun b hb hc => ?_⟩, ?_⟩
            · rw [r3 _ (by omega) (by omega)]; exact q5.symm
            · omega
            · rw [r3 b (by simp only [Kh] at hc; omega) (by simp only [Kh] at hc; omega)]; exact q7 b hb hc
            · refine ⟨fun e => min ((cntE (sp t)) e) (cntE (sp t) e), fun e => max ((cntE (sp t)) e) (cntE (sp t) e), ?_, ?_, ?_, fun _ d hd => ?_⟩
              · rw [r1]; congr 2
              · rw [r2]; congr 2
              · rw [r3 _ (by omega) (by omega), q3]
                simp
              · have u := hU d hd
                simp only [List.length_append, List.length_singleton]
                exact u
      · have hne : T.take done.length ≠ [] := fun e => by have := congrArg List.length e; simp only [List.length_take, List.length_nil] at this; omega
        have hU : ∀ d : Nat, d < 8 → min (f d) (cntE (sp t) d) = (numE (T.take (done.length + 1)) d).1 ∧ max (g d) (cntE (sp t) d) = (numE (T.take (done.length + 1)) d).2 := fun d hd => by
          rw [htk, numE_snoc hne, hon d, (h4 hn0 d hd).1, (h4 hn0 d hd).2]; exact ⟨rfl, rfl⟩
        have hle : ∀ d : Nat, d < 8 → f d ≤ g d := fun d hd => by
          rw [(h4 hn0 d hd).1, (h4 hn0 d hd).2]
          exact (numE_bound hne fun t ht => by have := hml3 t (List.mem_of_mem_take ht); omega).2.1
        rw [decide_eq_false hn0] at h3
        simp(maxSteps:=9999999)(disch:=first|omega|(simp only[AN];omega))only[hn0,h3,↓KP,EN,↓reduceIte,reduceCtorEq,Nat.reduceEqDiff,Nat.reduceAdd,Nat.reduceLeDiff,Nat.reduceMul]
        obtain ⟨b, hq, hqt⟩ := eq8 (cntE (sp t)) f
        simp only [arr8] at hq
        simp(maxSteps:=9999999)(disch:=first|omega|(simp only[AN];omega))only[h1,h2,h3,hq,↓KP,EN,↓reduceIte,reduceCtorEq,Nat.reduceEqDiff,Nat.reduceAdd,Nat.reduceLeDiff,Nat.reduceMul]
        cases b with
        | true =>
          have hcf := hqt rfl
          simp(maxSteps:=9999999)(disch:=first|omega|(simp only[AN];omega))only[↓KP,EN,↓reduceIte,reduceCtorEq,Nat.reduceEqDiff,Nat.reduceAdd,Nat.reduceLeDiff,Nat.reduceMul]
          refine K_bod ⟨?_, ⟨?_, fun b hb hc => ?_⟩, ?_⟩
          · simp(maxSteps:=9999999)(disch:=first|omega|(simp only[AN];omega))only[↓KP,EN,↓reduceIte,reduceCtorEq,Nat.reduceEqDiff,Nat.reduceAdd,Nat.reduceLeDiff,Nat.reduceMul]
          · first | omega | (simp(maxSteps:=9999999)(disch:=first|omega|(simp only[AN];omega))only[↓KP,EN,↓reduceIte,reduceCtorEq,Nat.reduceEqDiff,Nat.reduceAdd,Nat.reduceLeDiff,Nat.reduceMul]; omega)
          · simp only [Kh] at hc; simp(maxSteps:=9999999)(disch:=first|omega|(simp only[AN];omega))only[↓KP,EN,↓reduceIte,reduceCtorEq,Nat.reduceEqDiff,Nat.reduceAdd,Nat.reduceLeDiff,Nat.reduceMul]
          · refine ⟨f, g, by simp(maxSteps:=9999999)(disch:=first|omega|(simp only[AN];omega))only[h1,↓KP,EN,↓reduceIte,reduceCtorEq,Nat.reduceEqDiff,Nat.reduceAdd,Nat.reduceLeDiff,Nat.reduceMul]; rfl, by simp(maxSteps:=9999999)(disch:=first|omega|(simp only[AN];omega))only[h2,↓KP,EN,↓reduceIte,reduceCtorEq,Nat.reduceEqDiff,Nat.reduceAdd,Nat.reduceLeDiff,Nat.reduceMul]; rfl, ?_, fun _ d hd => ?_⟩
            · simp(maxSteps:=9999999)(disch:=first|omega|(simp only[AN];omega))only[h3,↓KP,EN,↓reduceIte,reduceCtorEq,Nat.reduceEqDiff,Nat.reduceAdd,Nat.reduceLeDiff,Nat.reduceMul]
              simp
            · have u := hU d hd
              have v := hle d hd
              have w := hcf d hd
              simp only [List.length_append, List.length_singleton]
              omega
        | false =>
          simp(maxSteps:=9999999)(disch:=first|omega|(simp only[AN];omega))only[↓KP,EN,↓reduceIte,reduceCtorEq,Nat.reduceEqDiff,Nat.reduceAdd,Nat.reduceLeDiff,Nat.reduceMul]
          generalize hHb : AH.set _ _ _ = Hb
          have q1 : Hb.get H1.next = some (.cells false (arr8 f)) := by rw [← hHb]; simp(maxSteps:=9999999)(disch:=first|omega|(simp only[AN];omega))only[h1,↓KP,EN,↓reduceIte,reduceCtorEq,Nat.reduceEqDiff,Nat.reduceAdd,Nat.reduceLeDiff,Nat.reduceMul]; rfl
          have q2 : Hb.get (H1.next + 1) = some (.cells false (arr8 g)) := by rw [← hHb]; simp(maxSteps:=9999999)(disch:=first|omega|(simp only[AN];omega))only[h2,↓KP,EN,↓reduceIte,reduceCtorEq,Nat.reduceEqDiff,Nat.reduceAdd,Nat.reduceLeDiff,Nat.reduceMul]; rfl
          have q3 : Hb.get (H1.next + 1 + 1) = some (.cells false [.bool false]) := by rw [← hHb]; simp(maxSteps:=9999999)(disch:=first|omega|(simp only[AN];omega))only[h3,↓KP,EN,↓reduceIte,reduceCtorEq,Nat.reduceEqDiff,Nat.reduceAdd,Nat.reduceLeDiff,Nat.reduceMul]
          have q4 : Hb.get H2.next = some (.cells false (arr8 (cntE (sp t)))) := by rw [← hHb]; simp(maxSteps:=9999999)(disch:=first|omega|(simp only[AN];omega))only[↓KP,EN,↓reduceIte,reduceCtorEq,Nat.reduceEqDiff,Nat.reduceAdd,Nat.reduceLeDiff,Nat.reduceMul]; rfl
          have q5 := congrArg (·.get B.next) hHb
          try simp only [] at q5
          simp(maxSteps:=9999999)(disch:=first|omega|(simp only[AN];omega))only[↓KP,EN,↓reduceIte,reduceCtorEq,Nat.reduceEqDiff,Nat.reduceAdd,Nat.reduceLeDiff,Nat.reduceMul] at q5
          have q6 : Hb.next = H2.next + 1 := by rw [← hHb]; rfl
          have q7 : ∀ b, b < H2.next → (Kh H1.next (H1.next + 1 + 1 + 1) b ∨ B.next < b) → Hb.get b = H2.get b := fun b hb hc => by
            simp only [Kh] at hc
            rw [← hHb]; simp(maxSteps:=9999999)(disch:=first|omega|(simp only[AN];omega))only[↓KP,EN,↓reduceIte,reduceCtorEq,Nat.reduceEqDiff,Nat.reduceAdd,Nat.reduceLeDiff,Nat.reduceMul]
          clear hHb
          refine K_loop (fun mz ez H4 => ∃ (d : Nat) (tail : Env), ez = (0, serArg vl vg vf s) :: (1, .ptr H.next 0) :: (2, I 0) :: (3, I 0) :: (4, I 0) :: tail ∧ (tail.get 6 = some (.ptr H1.next 0)) ∧ (tail.get 7 = some (.ptr (H1.next + 1) 0)) ∧ (tail.get 10 = some (.ptr H2.next 0)) ∧ (tail.get 32 = some (I d)) ∧ (d ≤ 8) ∧ (H4.next = Hb.next) ∧ (H4.get H1.next = some (.cells false (arr8 fun e => if e < d then min (f e) (cntE (sp t) e) else f e))) ∧ (H4.get (H1.next + 1) = some (.cells false (arr8 fun e => if e < d then max (g e) (cntE (sp t) e) else g e))) ∧ (∀ b, b ≠ H1.next → b ≠ H1.next + 1 → H4.get b = Hb.get b) ∧ mz = 8 - d) _ ⟨0, _, rfl, ?_, ?_, ?_, ?_, ?_, ?_, (by rw [q1]; congr 2), (by rw [q2]; congr 2), (by intro _ _ _; rfl), rfl⟩ ?_
          iterate 6 (focus (first|(with_reducible rfl)|omega|(with_reducible(repeat first|exact Grew.refl _|assumption|apply Grew.alloc|refine Grew.set ?_ _ (by first|omega|(simp only[AN];omega)));done)|(simp(maxSteps:=9999999)(disch:=first|omega|(simp only[AN];omega))only[↓KP,EN,↓reduceIte,reduceCtorEq,Nat.reduceEqDiff,Nat.reduceAdd,Nat.reduceLeDiff,Nat.reduceMul]<;>first|omega|rfl)|(simp;done)|rfl))
          rintro mz ez H4 ⟨d, tail, rfl, t6, t7, t10, t32, hd, r0, r1, r2, r3, hmz⟩; subst mz
          simp(maxSteps:=9999999)(disch:=first|omega|(simp only[AN];omega))only[t32,↓KP,EN,↓reduceIte,reduceCtorEq,Nat.reduceEqDiff,Nat.reduceAdd,Nat.reduceLeDiff,Nat.reduceMul]
          refine C_decide (fun hc => ?_) (fun hc => ?_)
          · have hd8 : d < 8 := by omega
            have ix1 := idx8 H1.next (n := (d : Int)) rfl hd8
            have ix2 := idx8 (H1.next + 1) (n := (d : Int)) rfl hd8
            have ix3 := idx8 H2.next (n := (d : Int)) rfl hd8
            have a1 := arr8_get (f := fun e => if e < d then min (f e) (cntE (sp t) e) else f e) hd8
            have a2 := arr8_get (f := fun e => if e < d then max (g e) (cntE (sp t) e) else g e) hd8
            have a3 := arr8_get (f := cntE (sp t)) hd8
            simp only [if_neg (Nat.lt_irrefl d)] at a1 a2
            have s1 := arr8_set (f := fun e => if e < d then min (f e) (cntE (sp t) e) else f e) hd8 (min (f d) (cntE (sp t) d))
            have s2 := arr8_set (f := fun e => if e < d then max (g e) (cntE (sp t) e) else g e) hd8 (max (g d) (cntE (sp t) d))
            have hn1 : (arr8 fun e => if e = d then min (f d) (cntE (sp t) d) else if e < d then min (f e) (cntE (sp t) e) else f e) = arr8 fun e => if e < d + 1 then min (f e) (cntE (sp t) e) else f e := arr8_congr fun e _ => by
              by_cases h : e = d
              · subst h; rw [if_pos rfl, if_pos (by omega)]
              · rw [if_neg h]
                by_cases h2 : e < d
                · rw [if_pos h2, if_pos (by omega)]
                · rw [if_neg h2, if_neg (by omega)]
            have hn2 : (arr8 fun e => if e = d then max (g d) (cntE (sp t) d) else if e < d then max (g e) (cntE (sp t) e) else g e) = arr8 fun e => if e < d + 1 then max (g e) (cntE (sp t) e) else g e := arr8_congr fun e _ => by
              by_cases h : e = d
              · subst h; rw [if_pos rfl, if_pos (by omega)]
              · rw [if_neg h]
                by_cases h2 : e < d
                · rw [if_pos h2, if_pos (by omega)]
                · rw [if_neg h2, if_neg (by omega)]
            rw [hn1] at s1
            rw [hn2] at s2
            have e1 : IntKind.i64.wrap ((d : Int) + 1) = ((d + 1 : Nat) : Int) := i64_in _ (by omega)
            have q4' : H4.get H2.next = some (.cells false (arr8 (cntE (sp t)))) := by rw [r3 _ (by omega) (by omega)]; exact q4
            simp(maxSteps:=9999999)(disch:=first|omega|(simp only[AN];omega))only[t32,↓KP,EN,↓reduceIte,reduceCtorEq,Nat.reduceEqDiff,Nat.reduceAdd,Nat.reduceLeDiff,Nat.reduceMul]
            refine K_draw ?_
            simp(maxSteps:=9999999)(disch:=first|omega|(simp only[AN];omega))only[t6,t7,t10,t32,ix1,ix2,ix3,a1,a2,a3,r1,r2,q4',s1,s2,e1,↓KP,EN,↓reduceIte,reduceCtorEq,Nat.reduceEqDiff,Nat.reduceAdd,Nat.reduceLeDiff,Nat.reduceMul]
            refine ⟨_, ?_, d + 1, _, rfl, ?_, ?_, ?_, ?_, ?_, ?_, ?_, ?_, (by intro b hb1 hb2; simp(maxSteps:=9999999)(disch:=first|omega|(simp only[AN];omega))only[r3 b hb1 hb2,↓KP,EN,↓reduceIte,reduceCtorEq,Nat.reduceEqDiff,Nat.reduceAdd,Nat.reduceLeDiff,Nat.reduceMul]), rfl⟩ <;> (first|omega|(with_reducible assumption)|(with_reducible(repeat first|exact Grew.refl _|assumption|apply Grew.alloc|refine Grew.set ?_ _ (by first|omega|(simp only[AN];omega)));done)|(simp(maxSteps:=9999999)(disch:=first|omega|(simp only[AN];omega))only[t6,t7,t10,↓KP,EN,↓reduceIte,reduceCtorEq,Nat.reduceEqDiff,Nat.reduceAdd,Nat.reduceLeDiff,Nat.reduceMul]<;>first|omega|rfl))
          · have hde : d = 8 := by omega
            subst hde
            simp(maxSteps:=9999999)(disch:=first|omega|(simp only[AN];omega))only[↓KP,EN,↓reduceIte,reduceCtorEq,Nat.reduceEqDiff,Nat.reduceAdd,Nat.reduceLeDiff,Nat.reduceMul]
            refine K_bod ⟨?_, ⟨?_, fun b hb hc => ?_⟩, ?_⟩
            · rw [r3 _ (by omega) (by omega)]; exact q5.symm
            · omega
            · rw [r3 b (by simp only [Kh] at hc; omega) (by simp only [Kh] at hc; omega)]; exact q7 b hb hc
            · refine ⟨fun e => min (f e) (cntE (sp t) e), fun e => max (g e) (cntE (sp t) e), ?_, ?_, ?_, fun _ d hd => ?_⟩
              · rw [r1]; congr 2
              · rw [r2]; congr 2
              · rw [r3 _ (by omega) (by omega), q3]
                simp
              · have u := hU d hd
                simp only [List.length_append, List.length_singleton]
                exact u
    · rintro H2 hn hj ⟨f, g, h1, h2, h3, h4⟩
      rw [show (yields s 0).length = T.length by rw [yields, hTz, List.length_map]] at h3 h4
      rw [List.take_length] at h4
      have h4 := h4 (by have := List.length_pos_iff.2 ht; omega)
      have b2 : H2.get H.next = some (.cells false [vl, I s.lo, I s.hi, vg, .bool s.unseen, vf]) := by simp(maxSteps:=9999999)(disch:=first|omega|(simp only[AN];omega))only[hj.base,hgB.get,b1,↓KP,EN,↓reduceIte,reduceCtorEq,Nat.reduceEqDiff,Nat.reduceAdd,Nat.reduceLeDiff,Nat.reduceMul]
      have hbd := fun (d : Int) => numE_bound (d := d) ht fun t htm => by have := hml3 t htm; omega
      have hgF : Grew H H2 := ⟨by omega, fun b hb => by simp(maxSteps:=9999999)(disch:=first|omega|(simp only[AN];omega))only[hj.base,hgB.get,hg0.get,↓KP,EN,↓reduceIte,reduceCtorEq,Nat.reduceEqDiff,Nat.reduceAdd,Nat.reduceLeDiff,Nat.reduceMul]⟩
      simp(maxSteps:=9999999)(disch:=first|omega|(simp only[AN];omega))only[b2,hh.l.len,↓KP,EN,↓reduceIte,reduceCtorEq,Nat.reduceEqDiff,Nat.reduceAdd,Nat.reduceLeDiff,Nat.reduceMul]
      refine K_loop (fun mz ez H4 => ∃ (d : Nat) (a : Int) (w : Int) (tail : Env), ez = (0, serArg vl vg vf s) :: (1, .ptr H.next 0) :: (2, I a) :: (3, I w) :: (4, I 0) :: tail ∧ (H4 = H2) ∧ (tail.get 6 = some (.ptr H1.next 0)) ∧ (tail.get 7 = some (.ptr (H1.next + 1) 0)) ∧ (tail.get 55 = some vl) ∧ (tail.get 56 = some (I s.looked.length)) ∧ (tail.get 57 = some (I d)) ∧ (d ≤ s.len) ∧ ((a, w) = openTo s T d) ∧ mz = s.len - d) _ ⟨0, 0, 0, _, rfl, ?_, ?_, ?_, ?_, ?_, ?_, ?_, (by rfl), rfl⟩ ?_
      iterate 7 (focus (first|(with_reducible rfl)|omega|(with_reducible(repeat first|exact Grew.refl _|assumption|apply Grew.alloc|refine Grew.set ?_ _ (by first|omega|(simp only[AN];omega)));done)|(simp(maxSteps:=9999999)(disch:=first|omega|(simp only[AN];omega))only[↓KP,EN,↓reduceIte,reduceCtorEq,Nat.reduceEqDiff,Nat.reduceAdd,Nat.reduceLeDiff,Nat.reduceMul]<;>first|omega|rfl)|(simp;done)|rfl))
      rintro mz ez H4 ⟨d, a, w, tail, rfl, hH, u6, u7, u55, u56, u57, hd, ha, hmz⟩; subst mz
      subst H4
      simp(maxSteps:=9999999)(disch:=first|omega|(simp only[AN];omega))only[u56,u57,↓KP,EN,↓reduceIte,reduceCtorEq,Nat.reduceEqDiff,Nat.reduceAdd,Nat.reduceLeDiff,Nat.reduceMul]
      refine C_decide (fun hc1 => ?_) (fun hc1 => ?_)
      · have hd' : d < s.looked.length := by omega
        have hd8 : d < 8 := by omega
        obtain ⟨pb, pi, pro, pvs, plt, p⟩ := rdB hh.l (k := d) rfl hd'
        rw [lk_eq hd'] at p
        have e1 : IntKind.i64.wrap ((d : Int) + 1) = ((d + 1 : Nat) : Int) := i64_in _ (by omega)
        have hst : openTo s T (d + 1) = openStep s T (openTo s T d) d := by rw [openTo, List.range_succ, List.foldl_append]; rfl
        rw [← ha, openStep] at hst
        have hb := hbd d
        obtain ⟨f1, g1⟩ := h4 d hd8
        have ix1 := idx8 H1.next (n := (d : Int)) rfl hd8
        have ix2 := idx8 (H1.next + 1) (n := (d : Int)) rfl hd8
        have a1 := arr8_get (f := f) hd8
        have a2 := arr8_get (f := g) hd8
        rw [f1] at a1
        rw [g1] at a2
        have w1 : IntKind.i64.wrap ((numE T d).2 - (numE T d).1) = (numE T d).2 - (numE T d).1 := i64_in _ (by omega)
        simp(maxSteps:=9999999)(disch:=first|omega|(simp only[AN];omega))only[u55,u57,hgF.get,p,↓KP,EN,↓reduceIte,reduceCtorEq,Nat.reduceEqDiff,Nat.reduceAdd,Nat.reduceLeDiff,Nat.reduceMul]
        generalize numE T d = N at *
        cases hlk : lk s d with
        | true =>
          rw [hlk] at p hst
          simp only [Bool.true_eq_false, false_and, if_false] at hst
          refine K_draw ?_
          simp(maxSteps:=9999999)(disch:=first|omega|(simp only[AN];omega))only[u6,u7,u55,u56,u57,e1,↓KP,EN,↓reduceIte,reduceCtorEq,Nat.reduceEqDiff,Nat.reduceAdd,Nat.reduceLeDiff,Nat.reduceMul]
          refine ⟨_, ?_, d + 1, a, w, _, rfl, ?_, ?_, ?_, ?_, ?_, ?_, ?_, (by exact hst.symm), rfl⟩ <;> (first|omega|(with_reducible assumption)|(with_reducible(repeat first|exact Grew.refl _|assumption|apply Grew.alloc|refine Grew.set ?_ _ (by first|omega|(simp only[AN];omega)));done)|(simp(maxSteps:=9999999)(disch:=first|omega|(simp only[AN];omega))only[u6,u7,u55,u56,↓KP,EN,↓reduceIte,reduceCtorEq,Nat.reduceEqDiff,Nat.reduceAdd,Nat.reduceLeDiff,Nat.reduceMul]<;>first|omega|rfl))
        | false =>
          rw [hlk] at p hst
          simp only [true_and] at hst
          refine K_draw ?_
          simp(maxSteps:=9999999)(disch:=first|omega|(simp only[AN];omega))only[u6,u7,u55,u56,u57,ix1,ix2,h1,h2,a1,a2,w1,↓KP,EN,↓reduceIte,reduceCtorEq,Nat.reduceEqDiff,Nat.reduceAdd,Nat.reduceLeDiff,Nat.reduceMul]
          by_cases hw : w < N.2 - N.1
          · rw [if_pos hw] at hst
            simp(maxSteps:=9999999)(disch:=first|omega|(simp only[AN];omega))only[hw,↓KP,EN,↓reduceIte,reduceCtorEq,Nat.reduceEqDiff,Nat.reduceAdd,Nat.reduceLeDiff,Nat.reduceMul]
            refine K_draw ?_
            simp(maxSteps:=9999999)(disch:=first|omega|(simp only[AN];omega))only[u6,u7,u55,u56,u57,ix1,ix2,h1,h2,a1,a2,w1,e1,↓KP,EN,↓reduceIte,reduceCtorEq,Nat.reduceEqDiff,Nat.reduceAdd,Nat.reduceLeDiff,Nat.reduceMul]
            refine ⟨_, ?_, d + 1, (d : Int), N.2 - N.1, _, rfl, ?_, ?_, ?_, ?_, ?_, ?_, ?_, (by exact hst.symm), rfl⟩ <;> (first|omega|(with_reducible assumption)|(with_reducible(repeat first|exact Grew.refl _|assumption|apply Grew.alloc|refine Grew.set ?_ _ (by first|omega|(simp only[AN];omega)));done)|(simp(maxSteps:=9999999)(disch:=first|omega|(simp only[AN];omega))only[u6,u7,u55,u56,↓KP,EN,↓reduceIte,reduceCtorEq,Nat.reduceEqDiff,Nat.reduceAdd,Nat.reduceLeDiff,Nat.reduceMul]<;>first|omega|rfl))
          · rw [if_neg hw] at hst
            simp(maxSteps:=9999999)(disch:=first|omega|(simp only[AN];omega))only[u6,u7,u55,u56,u57,hw,e1,↓KP,EN,↓reduceIte,reduceCtorEq,Nat.reduceEqDiff,Nat.reduceAdd,Nat.reduceLeDiff,Nat.reduceMul]
            refine ⟨_, ?_, d + 1, a, w, _, rfl, ?_, ?_, ?_, ?_, ?_, ?_, ?_, (by exact hst.symm), rfl⟩ <;> (first|omega|(with_reducible assumption)|(with_reducible(repeat first|exact Grew.refl _|assumption|apply Grew.alloc|refine Grew.set ?_ _ (by first|omega|(simp only[AN];omega)));done)|(simp(maxSteps:=9999999)(disch:=first|omega|(simp only[AN];omega))only[u6,u7,u55,u56,↓KP,EN,↓reduceIte,reduceCtorEq,Nat.reduceEqDiff,Nat.reduceAdd,Nat.reduceLeDiff,Nat.reduceMul]<;>first|omega|rfl))
      · have hde : d = s.len := by omega
        subst hde
        rw [← ha] at k
        by_cases hw : w = 0
        · rw [if_pos hw] at k
          simp(maxSteps:=9999999)(disch:=first|omega|(simp only[AN];omega))only[eq_true hw,↓KP,EN,↓reduceIte,reduceCtorEq,Nat.reduceEqDiff,Nat.reduceAdd,Nat.reduceLeDiff,Nat.reduceMul]
          exact k _ hgF
        · rw [if_neg hw] at k
          simp(maxSteps:=9999999)(disch:=first|omega|(simp only[AN];omega))only[hw,↓KP,EN,↓reduceIte,reduceCtorEq,Nat.reduceEqDiff,Nat.reduceAdd,Nat.reduceLeDiff,Nat.reduceMul]
          exact k _ hgF
    · intro x H2 _ _ _ h; exact h.elim
end Go.Proofs.Ytihahmggfjjkjaa
namespace Go.Proofs.Ytihahmggfjjkjaa
open Go.AM Go.IntWalk Go.PL
set_option maxRecDepth 100000
set_option maxHeartbeats 4000000
set_option linter.unusedSimpArgs false
variable {H : AH} {R : AV → AH → Prop}
def cmpE (a b : Int) : Int := if a < b then -1 else if b < a then 1 else 0
theorem isNaN_run (a : Int) (k : R (.bool false) H) : CallQ prog (.func 92 [] []) [I a] H R := by
  have h : (!decide (a = a)) = false := by rw [decide_eq_true rfl]; rfl
  refine CallQ_enter (fn:=c92) rfl (Nat.le_of_ble_eq_true rfl) ?_;simp(maxSteps:=9999999)(disch:=first|omega|(simp only[AN];omega))only[c92,envFrom,h,↓KP,EN,↓reduceIte,reduceCtorEq,Nat.reduceEqDiff,Nat.reduceAdd,Nat.reduceLeDiff,Nat.reduceMul]
  exact k
theorem cmp_run (a b : Int) (k : R (I (cmpE a b)) H) : CallQ prog (.func 91 [] []) [I a, I b] H R := by
  unfold cmpE at k
  refine CallQ_enter (fn:=c91) rfl (Nat.le_of_ble_eq_true rfl) ?_;simp(maxSteps:=9999999)(disch:=first|omega|(simp only[AN];omega))only[c91,envFrom,↓KP,EN,↓reduceIte,reduceCtorEq,Nat.reduceEqDiff,Nat.reduceAdd,Nat.reduceLeDiff,Nat.reduceMul]
  first|refine C_call ?_|refine C_calld ?_
  refine isNaN_run a ?_
  simp(maxSteps:=9999999)(disch:=first|omega|(simp only[AN];omega))only[↓KP,EN,↓reduceIte,reduceCtorEq,Nat.reduceEqDiff,Nat.reduceAdd,Nat.reduceLeDiff,Nat.reduceMul]
  first|refine C_call ?_|refine C_calld ?_
  refine isNaN_run b ?_
  by_cases h1 : a < b
  · rw [if_pos h1] at k
    simp(maxSteps:=9999999)(disch:=first|omega|(simp only[AN];omega))only[h1,↓KP,EN,↓reduceIte,reduceCtorEq,Nat.reduceEqDiff,Nat.reduceAdd,Nat.reduceLeDiff,Nat.reduceMul]
    exact k
  · by_cases h2 : b < a
    · rw [if_neg h1, if_pos h2] at k
      simp(maxSteps:=9999999)(disch:=first|omega|(simp only[AN];omega))only[h1,h2,↓KP,EN,↓reduceIte,reduceCtorEq,Nat.reduceEqDiff,Nat.reduceAdd,Nat.reduceLeDiff,Nat.reduceMul]
      exact k
    · rw [if_neg h1, if_neg h2] at k
      simp(maxSteps:=9999999)(disch:=first|omega|(simp only[AN];omega))only[h1,h2,↓KP,EN,↓reduceIte,reduceCtorEq,Nat.reduceEqDiff,Nat.reduceAdd,Nat.reduceLeDiff,Nat.reduceMul]
      exact k
def compE : List Int → List Int → Int
  | [], [] => 0
  | [], _ :: _ => -1
  | _ :: _, [] => 1
  | a :: l, b :: m => if cmpE a b = 0 then compE l m else cmpE a b
theorem compE_drop {a b : List Int} (i : Nat) (ha : i < a.length) (hb : i < b.length) : compE (a.drop i) (b.drop i) = if cmpE a[i] b[i] = 0 then compE (a.drop (i + 1)) (b.drop (i + 1)) else cmpE a[i] b[i] := by
  rw [List.drop_eq_getElem_cons ha, List.drop_eq_getElem_cons hb, compE]
theorem Compare_run (v w : AV) (a b : List Int) (hv : IsInts (Old H) H v a) (hw : IsInts (Old H) H w b) (ha : a.length < 1000000000) (hb : b.length < 1000000000) (k : R (I (compE a b)) H) : CallQ prog (.func 76 [] []) [v, w] H R := by
  refine CallQ_enter (fn:=c76) rfl (Nat.le_of_ble_eq_true rfl) ?_;simp(maxSteps:=9999999)(disch:=first|omega|(simp only[AN];omega))only[c76,envFrom,hv.len,↓KP,EN,↓reduceIte,reduceCtorEq,Nat.reduceEqDiff,Nat.reduceAdd,Nat.reduceLeDiff,Nat.reduceMul]
  refine K_loop (fun mz ez H1 => ∃ (i : Nat) (tail : Env), ez = (0, v) :: (1, w) :: (4, I 0) :: (9, v) :: (10, I a.length) :: (11, I i) :: tail ∧ (H1 = H) ∧ (i ≤ a.length) ∧ (i ≤ b.length) ∧ (compE (a.drop i) (b.drop i) = compE a b) ∧ mz = a.length - i) _ ⟨0, _, rfl, ?_, ?_, ?_, ?_, rfl⟩ ?_
  iterate 4 (focus (first|(with_reducible rfl)|omega|(with_reducible(repeat first|exact Grew.refl _|assumption|apply Grew.alloc|refine Grew.set ?_ _ (by first|omega|(simp only[AN];omega)));done)|(simp(maxSteps:=9999999)(disch:=first|omega|(simp only[AN];omega))only[↓KP,EN,↓reduceIte,reduceCtorEq,Nat.reduceEqDiff,Nat.reduceAdd,Nat.reduceLeDiff,Nat.reduceMul]<;>first|omega|rfl)|(simp;done)|rfl))
  rintro mz ez H1 ⟨i, tail, rfl, hH, hia, hib, hl, hmz⟩; subst mz
  subst H1
  simp(maxSteps:=9999999)(disch:=first|omega|(simp only[AN];omega))only[↓KP,EN,↓reduceIte,reduceCtorEq,Nat.reduceEqDiff,Nat.reduceAdd,Nat.reduceLeDiff,Nat.reduceMul]
  refine C_decide (fun hc => ?_) (fun hc => ?_)
  · have hi' : i < a.length := by omega
    have e1 : IntKind.i64.wrap ((i : Int) + 1) = ((i + 1 : Nat) : Int) := i64_in _ (by omega)
    obtain ⟨p_b, p_i, p_ro, p_vs, p_lt, p⟩ := hv.rdInt rfl hi'
    by_cases h2 : i < b.length
    · have h2' : ¬ (b.length : Int) ≤ i := by omega
      obtain ⟨q_b, q_i, q_ro, q_vs, q_lt, q⟩ := hw.rdInt rfl h2
      rw [compE_drop i hi' h2] at hl
      simp(maxSteps:=9999999)(disch:=first|omega|(simp only[AN];omega))only[p,hw.len,h2',q,↓KP,EN,↓reduceIte,reduceCtorEq,Nat.reduceEqDiff,Nat.reduceAdd,Nat.reduceLeDiff,Nat.reduceMul]
      first|refine C_call ?_|refine C_calld ?_
      refine cmp_run a[i] b[i] ?_
      by_cases he : cmpE a[i] b[i] = 0
      · rw [if_pos he] at hl
        simp(maxSteps:=9999999)(disch:=first|omega|(simp only[AN];omega))only[he,e1,↓KP,EN,↓reduceIte,reduceCtorEq,Nat.reduceEqDiff,Nat.reduceAdd,Nat.reduceLeDiff,Nat.reduceMul]
        refine ⟨_, ?_, i + 1, _, rfl, ?_, ?_, ?_, ?_, rfl⟩ <;> (first|omega|(with_reducible assumption)|(with_reducible(repeat first|exact Grew.refl _|assumption|apply Grew.alloc|refine Grew.set ?_ _ (by first|omega|(simp only[AN];omega)));done)|(simp(maxSteps:=9999999)(disch:=first|omega|(simp only[AN];omega))only[↓KP,EN,↓reduceIte,reduceCtorEq,Nat.reduceEqDiff,Nat.reduceAdd,Nat.reduceLeDiff,Nat.reduceMul]<;>first|omega|rfl))
      · rw [if_neg he] at hl
        rw [← hl] at k
        simp(maxSteps:=9999999)(disch:=first|omega|(simp only[AN];omega))only[he,↓KP,EN,↓reduceIte,reduceCtorEq,Nat.reduceEqDiff,Nat.reduceAdd,Nat.reduceLeDiff,Nat.reduceMul]
        exact k
    · have h2' : (b.length : Int) ≤ i := by omega
      have hx : compE a b = 1 := by
        rw [← hl, List.drop_of_length_le (l := b) (by omega), List.drop_eq_getElem_cons hi', compE]
      rw [hx] at k
      simp(maxSteps:=9999999)(disch:=first|omega|(simp only[AN];omega))only[p,hw.len,h2',↓KP,EN,↓reduceIte,reduceCtorEq,Nat.reduceEqDiff,Nat.reduceAdd,Nat.reduceLeDiff,Nat.reduceMul]
      exact k
  · have hie : i = a.length := by omega
    by_cases h2 : i < b.length
    · have h2' : (a.length : Int) < b.length := by omega
      have hx : compE a b = -1 := by
        rw [← hl, List.drop_of_length_le (l := a) (by omega), List.drop_eq_getElem_cons h2, compE]
      rw [hx] at k
      simp(maxSteps:=9999999)(disch:=first|omega|(simp only[AN];omega))only[hv.len,hw.len,h2',↓KP,EN,↓reduceIte,reduceCtorEq,Nat.reduceEqDiff,Nat.reduceAdd,Nat.reduceLeDiff,Nat.reduceMul]
      exact k
    · have h2' : ¬ (a.length : Int) < b.length := by omega
      have hx : compE a b = 0 := by
        rw [← hl, List.drop_of_length_le (l := a) (by omega), List.drop_of_length_le (l := b) (by omega), compE]
      rw [hx] at k
      simp(maxSteps:=9999999)(disch:=first|omega|(simp only[AN];omega))only[hv.len,hw.len,h2',↓KP,EN,↓reduceIte,reduceCtorEq,Nat.reduceEqDiff,Nat.reduceAdd,Nat.reduceLeDiff,Nat.reduceMul]
      exact k
def bitsTo (j n : Nat) : List Int := (List.range n).filterMap fun (i : Nat) => if j.testBit i then some (i : Int) else none
theorem bitsTo_succ {j n : Nat} : bitsTo j (n + 1) = bitsTo j n ++ (if j.testBit n then [(n : Int)] else []) := by
  unfold bitsTo
  rw [List.range_succ, List.filterMap_append]
  congr 1
  cases h : j.testBit n <;> simp [h]
theorem bitsTo_length {j n : Nat} : (bitsTo j n).length ≤ n := by
  unfold bitsTo
  have := List.length_filterMap_le (fun (i : Nat) => if j.testBit i then some (i : Int) else none) (List.range n)
  simpa using this
theorem bitsTo_mem {j n k : Nat} (hk : k < n) : (k : Int) ∈ bitsTo j n ↔ j.testBit k = true := by
  unfold bitsTo
  rw [List.mem_filterMap]
  constructor
  · rintro ⟨i, _, h⟩
    by_cases hb : j.testBit i
    · rw [if_pos hb] at h
      have : (i : Int) = k := by simpa using h
      obtain rfl : i = k := by omega
      exact hb
    · rw [if_neg hb] at h; cases h
  · intro h
    exact ⟨k, by simpa using hk, by rw [if_pos h]⟩
def gtE (l b : List Int) : Bool := decide ((b.length : Int) < l.length) || (decide ((l.length : Int) = b.length) && decide (0 < compE l b))
def wStep (s : Series) (n : Nat) (a : Bool × List Int) (j : Nat) : Bool × List Int :=
  if a.1 = true ∧ gtE (bitsTo j n) a.2 = true then a else if 0 < (truthsB s j).length then (true, bitsTo j n) else a
def wTo (s : Series) (n m : Nat) : Bool × List Int := (List.range m).foldl (wStep s n) (false, [])
theorem wTo_succ {s : Series} {n m : Nat} : wTo s n (m + 1) = wStep s n (wTo s n m) m := by rw [wTo, List.range_succ, List.foldl_append]; rfl
def pWrong (s : Series) : List Int × Int := if errE s ≠ 0 then ([], errE s) else if (wTo s s.filled.length (2 ^ s.filled.length)).1 = true then ((wTo s s.filled.length (2 ^ s.filled.length)).2, 0) else ([], 8)
theorem cand_rank : ∀ n, n ≤ 4 → (∀ i, i < (candTo n (n + 1)).length → ∀ j, j < (candTo n (n + 1)).length → gtE ((candTo n (n + 1)).getD i []) ((candTo n (n + 1)).getD j []) = decide (j < i)) ∧ (∀ j, j < 2 ^ n → bitsTo j n ∈ candTo n (n + 1)) ∧ (∀ c ∈ candTo n (n + 1), ∃ j, j < 2 ^ n ∧ bitsTo j n = c) := by
  decide +kernel
theorem fold_first {C : List (List Int)} {good : List Int → Bool} (hr : ∀ i, i < C.length → ∀ j, j < C.length → gtE (C.getD i []) (C.getD j []) = decide (j < i)) :
    ∀ (D : List (List Int)), (∀ d ∈ D, d ∈ C) → ∀ a : Bool × List Int, (a.1 = true → a.2 ∈ C) →
      ∃ r : Bool × List Int, r = D.foldl (fun a l => if a.1 = true ∧ gtE l a.2 = true then a else if good l = true then (true, l) else a) a ∧
        (r.1 = true → (r.2 ∈ C ∧ (r = a ∨ good r.2 = true)) ∧ (a.1 = true → r.2 = a.2 ∨ gtE a.2 r.2 = true) ∧ ∀ d ∈ D, good d = true → d = r.2 ∨ gtE d r.2 = true) ∧ (r.1 = false → r = a ∧ ∀ d ∈ D, good d = false)
  | [], _, a, ha => ⟨a, rfl, fun h => ⟨⟨ha h, .inl rfl⟩, fun _ => .inl rfl, fun d hd => by cases hd⟩, fun _ => ⟨rfl, fun d hd => by cases hd⟩⟩
  | l :: D, hD, a, ha => by
    have idx : ∀ {x}, x ∈ C → ∃ i, i < C.length ∧ x = C.getD i [] := fun {x} hx => by
      obtain ⟨i, hi, rfl⟩ := List.getElem_of_mem hx
      exact ⟨i, hi, by simp [hi]⟩
    have trans : ∀ {x y z}, x ∈ C → y ∈ C → z ∈ C → (x = y ∨ gtE x y = true) → (y = z ∨ gtE y z = true) → (x = z ∨ gtE x z = true) := fun {x y z} hx hy hz h1 h2 => by
      rcases h1 with rfl | h1
      · exact h2
      · rcases h2 with rfl | h2
        · exact .inr h1
        · obtain ⟨i, hi, rfl⟩ := idx hx
          obtain ⟨j, hj, rfl⟩ := idx hy
          obtain ⟨k, hk, rfl⟩ := idx hz
          rw [hr _ hi _ hj, decide_eq_true_eq] at h1
          rw [hr _ hj _ hk, decide_eq_true_eq] at h2
          exact .inr (by rw [hr _ hi _ hk, decide_eq_true_eq]; omega)
    have tot : ∀ {x y}, x ∈ C → y ∈ C → gtE x y = false → (y = x ∨ gtE y x = true) := fun {x y} hx hy h1 => by
      obtain ⟨i, hi, rfl⟩ := idx hx
      obtain ⟨j, hj, rfl⟩ := idx hy
      rw [hr _ hi _ hj, decide_eq_false_iff_not] at h1
      by_cases hij : i = j
      · subst hij; exact .inl rfl
      · exact .inr (by rw [hr _ hj _ hi, decide_eq_true_eq]; omega)
    have hl : l ∈ C := hD l (by simp)
    by_cases h1 : a.1 = true ∧ gtE l a.2 = true
    · obtain ⟨r, hr1, hr2, hr3⟩ := fold_first hr D (fun d hd => hD d (by simp [hd])) a ha
      refine ⟨r, by rw [List.foldl_cons, if_pos h1]; exact hr1, fun h => ⟨(hr2 h).1, (hr2 h).2.1, fun d hd hg => ?_⟩, fun h => ?_⟩
      · rcases List.mem_cons.1 hd with rfl | hd
        · exact trans hl (ha h1.1) (hr2 h).1.1 (.inr h1.2) (((hr2 h).2.1 h1.1).imp Eq.symm id)
        · exact (hr2 h).2.2 d hd hg
      · have := (hr3 h).1
        rw [this, h1.1] at h; cases h
    · by_cases h2 : good l = true
      · obtain ⟨r, hr1, hr2, hr3⟩ := fold_first hr D (fun d hd => hD d (by simp [hd])) (true, l) (fun _ => hl)
        refine ⟨r, by rw [List.foldl_cons, if_neg h1, if_pos h2]; exact hr1, fun h => ⟨⟨(hr2 h).1.1, ?_⟩, fun ha1 => ?_, fun d hd hg => ?_⟩, fun h => ?_⟩
        · rcases (hr2 h).1.2 with e | e
          · rw [e]; exact .inr h2
          · exact .inr e
        · have hx : gtE l a.2 = false := by
            cases hg : gtE l a.2 with
            | false => rfl
            | true => exact absurd ⟨ha1, hg⟩ h1
          rcases trans (ha ha1) hl (hr2 h).1.1 (tot hl (ha ha1) hx) (((hr2 h).2.1 rfl).imp Eq.symm id) with e | e
          · exact .inl e.symm
          · exact .inr e
        · rcases List.mem_cons.1 hd with rfl | hd
          · rcases (hr2 h).2.1 rfl with e | e
            · exact .inl e.symm
            · exact .inr e
          · exact (hr2 h).2.2 d hd hg
        · have := (hr3 h).1
          rw [this] at h; cases h
      · obtain ⟨r, hr1, hr2, hr3⟩ := fold_first hr D (fun d hd => hD d (by simp [hd])) a ha
        refine ⟨r, by rw [List.foldl_cons, if_neg h1, if_neg h2]; exact hr1, fun h => ⟨(hr2 h).1, (hr2 h).2.1, fun d hd hg => ?_⟩, fun h => ⟨(hr3 h).1, fun d hd => ?_⟩⟩
        · rcases List.mem_cons.1 hd with rfl | hd
          · exact absurd hg h2
          · exact (hr2 h).2.2 d hd hg
        · rcases List.mem_cons.1 hd with rfl | hd
          · simpa using h2
          · exact (hr3 h).2 d hd
theorem pWrong_eq {s : Series} : pWrong s = wrongE s := by
  unfold pWrong wrongE
  by_cases he : errE s = 0
  · have hfine := fine_of he
    have hfl := hfine.fl
    have hne : ¬ errE s ≠ 0 := fun h => h he
    rw [if_neg hne, if_neg hne]
    obtain ⟨q1, q2, q3⟩ := cand_rank s.filled.length hfl
    have hgood : ∀ j, decide (0 < (truthsB s j).length) = goodE s (bitsTo j s.filled.length) := fun j => by
      rw [goodE, truthsB_eq hfine (bl := bitsTo j s.filled.length) fun k hk => by rw [Bool.eq_iff_iff, decide_eq_true_eq]; exact (bitsTo_mem hk).symm]
      exact decide_eq_decide.2 List.length_pos_iff
    have hw : wTo s s.filled.length (2 ^ s.filled.length) = ((List.range (2 ^ s.filled.length)).map fun j => bitsTo j s.filled.length).foldl (fun a l => if a.1 = true ∧ gtE l a.2 = true then a else if goodE s l = true then (true, l) else a) (false, []) := by
      rw [List.foldl_map, wTo]
      congr 1
      funext a j
      rw [wStep, ← hgood j]
      simp only [decide_eq_true_eq]
    obtain ⟨r, hr1, hr2, hr3⟩ := fold_first (good := goodE s) q1 ((List.range (2 ^ s.filled.length)).map fun j => bitsTo j s.filled.length) (fun d hd => by
      obtain ⟨j, hj, rfl⟩ := List.mem_map.1 hd
      exact q2 j (by simpa using hj)) (false, []) (fun h => by cases h)
    rw [hw, ← hr1]
    have hmem : ∀ c ∈ candTo s.filled.length (s.filled.length + 1), c ∈ (List.range (2 ^ s.filled.length)).map fun j => bitsTo j s.filled.length := fun c hc => by
      obtain ⟨j, hj, rfl⟩ := q3 c hc
      exact List.mem_map.2 ⟨j, by simpa using hj, rfl⟩
    generalize candTo s.filled.length (s.filled.length + 1) = C at *
    cases hr : r.1 with
    | false =>
      have hno : C.find? (goodE s) = none := List.find?_eq_none.2 fun c hc => by rw [(hr3 hr).2 c (hmem c hc)]; simp
      rw [hno]; rfl
    | true =>
      obtain ⟨⟨h1, h2⟩, _, h4⟩ := hr2 hr
      have h2' : goodE s r.2 = true := by
        rcases h2 with e | e
        · rw [e] at hr; cases hr
        · exact e
      rw [if_pos rfl]
      cases hf : C.find? (goodE s) with
      | none => exact absurd h2' (List.find?_eq_none.1 hf _ h1)
      | some c =>
        obtain ⟨hg, la, lb, e1, e2⟩ := List.find?_eq_some_iff_append.1 hf
        have hcm : c ∈ C := by rw [e1]; simp
        rcases h4 c (hmem c hcm) hg with e | e
        · rw [e]
        · exfalso
          obtain ⟨i, hi, hri⟩ := List.getElem_of_mem h1
          have hrl : la.length < C.length := by rw [e1]; simp
          have hcl : C.getD la.length [] = c := by simp [e1]
          have hrc : C.getD i [] = r.2 := by simp [hi, hri]
          rw [← hcl, ← hrc, q1 _ hrl _ hi, decide_eq_true_eq] at e
          have : C[i] ∈ la := by
            have : C[i]? = la[i]? := by rw [e1, List.getElem?_append_left e]
            rw [List.getElem?_eq_getElem hi, List.getElem?_eq_getElem e, Option.some.injEq] at this
            rw [this]; exact List.getElem_mem e
          have := e2 _ this
          rw [hri, h2'] at this
          simp at this
  · rw [if_pos he, if_pos he]
end Go.Proofs.Ytihahmggfjjkjaa
namespace Go.Proofs.Ytihahmggfjjkjaa
open Go.AM Go.IntWalk Go.PL
set_option maxRecDepth 100000
set_option maxHeartbeats 4000000
set_option linter.unusedSimpArgs false
variable {H : AH} {R : AV → AH → Prop}
theorem pow_le16 {n : Nat} (h : n ≤ 4) : 2 ^ n ≤ 16 := Nat.le_trans (Nat.pow_le_pow_right (by omega) h) (Nat.le_refl _)
theorem wTo_len {s : Series} {n : Nat} : ∀ m, (wTo s n m).2.length ≤ n
  | 0 => Nat.zero_le _
  | m + 1 => by
    have ih := wTo_len (s := s) (n := n) m
    rw [wTo_succ, wStep]
    split
    · exact ih
    · split
      · exact bitsTo_length
      · exact ih
theorem Wrong_run (vl vg vf : AV) (s : Series) (hh : IsSer (Old H) H vl vg vf s) (hs : Sized s)
    (k : ∀ H' v, Grew H H' → IsInts (Old H') H' v (wrongE s).1 → R (.tuple [v, I (wrongE s).2]) H') : CallQ prog (.func 32 [] []) [serArg vl vg vf s] H R := by
  rw [← pWrong_eq, pWrong] at k
  refine CallQ_enter (fn:=c32) rfl (Nat.le_of_ble_eq_true rfl) ?_;simp(maxSteps:=9999999)(disch:=first|omega|(simp only[AN];omega))only[c32,envFrom,hh.l.isCell,hh.g.isCell,hh.f.isCell,↓KP,EN,↓reduceIte,reduceCtorEq,Nat.reduceEqDiff,Nat.reduceAdd,Nat.reduceLeDiff,Nat.reduceMul]
  first|refine C_call ?_|refine C_calld ?_
  refine Check_run vl vg vf s (hh.grow GW) hs fun H1 hg1 => ?_
  have hg1n:=hg1.next;try simp only[AN]at hg1n
  have hg1' : Grew H H1 := Grew.trans GW hg1
  have hbox1 : H1.get H.next = some (.cells false [vl, I s.lo, I s.hi, vg, .bool s.unseen, vf]) := by simp(maxSteps:=9999999)(disch:=first|omega|(simp only[AN];omega))only[hg1.get,↓KP,EN,↓reduceIte,reduceCtorEq,Nat.reduceEqDiff,Nat.reduceAdd,Nat.reduceLeDiff,Nat.reduceMul]
  by_cases he : (checkE s).2.2 = 0
  · have he' : errE s = 0 := he
    have hfine := fine_of he'
    have hfl := hfine.fl
    rw [if_neg (fun h => h he')] at k
    have hsh := shl_one (s.filled.length : Int) (by omega)
    rw [Int.toNat_natCast] at hsh
    have hq := pow_le16 hfl
    simp(maxSteps:=9999999)(disch:=first|omega|(simp only[AN];omega))only[he,hbox1,hh.f.len,hsh,↓KP,EN,↓reduceIte,reduceCtorEq,Nat.reduceEqDiff,Nat.reduceAdd,Nat.reduceLeDiff,Nat.reduceMul]
    generalize hN : s.filled.length = n at *
    generalize 2 ^ n = q at *
    refine K_loop (fun mz ez H2 => ∃ (j : Nat) (vb : AV) (a : Bool × List Int) (tail : Env), ez = (0, serArg vl vg vf s) :: (1, .ptr H.next 0) :: (2, vb) :: (3, I 0) :: tail ∧ (tail.get 4 = some (.bool a.1)) ∧ (tail.get 20 = some (I q)) ∧ (tail.get 21 = some (I j)) ∧ (Grew H1 H2) ∧ (j ≤ q) ∧ (a = wTo s n j) ∧ (IsInts (Old H2) H2 vb a.2) ∧ mz = q - j) _ ⟨0, .nilslice, (false, []), _, rfl, ?_, ?_, ?_, ?_, ?_, (by rfl), (by exact .inl ⟨rfl, rfl⟩), rfl⟩ ?_
    iterate 5 (focus (first|(with_reducible rfl)|omega|(with_reducible(repeat first|exact Grew.refl _|assumption|apply Grew.alloc|refine Grew.set ?_ _ (by first|omega|(simp only[AN];omega)));done)|(simp(maxSteps:=9999999)(disch:=first|omega|(simp only[AN];omega))only[↓KP,EN,↓reduceIte,reduceCtorEq,Nat.reduceEqDiff,Nat.reduceAdd,Nat.reduceLeDiff,Nat.reduceMul]<;>first|omega|rfl)|(simp;done)|rfl))
    rintro mz ez H2 ⟨j, vb, a, tail, rfl, f4, f20, f21, hG, hj, ha, hvb, hmz⟩; subst mz; have hGn := hG.next
    have hst : wTo s n (j + 1) = wStep s n (wTo s n j) j := wTo_succ
    rw [← ha, wStep] at hst
    have hal : a.2.length ≤ n := by rw [ha]; exact wTo_len _
    simp(maxSteps:=9999999)(disch:=first|omega|(simp only[AN];omega))only[f20,f21,↓KP,EN,↓reduceIte,reduceCtorEq,Nat.reduceEqDiff,Nat.reduceAdd,Nat.reduceLeDiff,Nat.reduceMul]
    refine C_decide (fun hc => ?_) (fun hc => ?_)
    · have hj' : j < q := by omega
      have e1 : IntKind.i64.wrap ((j : Int) + 1) = ((j + 1 : Nat) : Int) := i64_in _ (by omega)
      simp(maxSteps:=9999999)(disch:=first|omega|(simp only[AN];omega))only[f20,f21,hG.get,hbox1,hh.f.len,hN,↓KP,EN,↓reduceIte,reduceCtorEq,Nat.reduceEqDiff,Nat.reduceAdd,Nat.reduceLeDiff,Nat.reduceMul]
      refine K_loop (fun mz ez H3 => ∃ (i : Nat) (vq : AV) (tail : Env), ez = (0, serArg vl vg vf s) :: (1, .ptr H.next 0) :: (2, vb) :: (3, I 0) :: tail ∧ (tail.get 4 = some (.bool a.1)) ∧ (tail.get 20 = some (I q)) ∧ (tail.get 21 = some (I j)) ∧ (tail.get 5 = some (I j)) ∧ (tail.get 6 = some vq) ∧ (tail.get 26 = some (I n)) ∧ (tail.get 27 = some (I i)) ∧ (Grew H2 H3) ∧ (i ≤ n) ∧ (Mine 1 EInt (fun _ => False) H2.next H3 vq (bitsTo j i)) ∧ mz = n - i) _ ⟨0, .nilslice, _, rfl, (by simp(maxSteps:=9999999)(disch:=first|omega|(simp only[AN];omega))only[f4,↓KP,EN,↓reduceIte,reduceCtorEq,Nat.reduceEqDiff,Nat.reduceAdd,Nat.reduceLeDiff,Nat.reduceMul]), (by simp(maxSteps:=9999999)(disch:=first|omega|(simp only[AN];omega))only[f20,↓KP,EN,↓reduceIte,reduceCtorEq,Nat.reduceEqDiff,Nat.reduceAdd,Nat.reduceLeDiff,Nat.reduceMul]), (by simp(maxSteps:=9999999)(disch:=first|omega|(simp only[AN];omega))only[f21,↓KP,EN,↓reduceIte,reduceCtorEq,Nat.reduceEqDiff,Nat.reduceAdd,Nat.reduceLeDiff,Nat.reduceMul]), ?_, ?_, ?_, ?_, ?_, ?_, (by exact Mine.nil), rfl⟩ ?_
      iterate 6 (focus (first|(with_reducible rfl)|omega|(with_reducible(repeat first|exact Grew.refl _|assumption|apply Grew.alloc|refine Grew.set ?_ _ (by first|omega|(simp only[AN];omega)));done)|(simp(maxSteps:=9999999)(disch:=first|omega|(simp only[AN];omega))only[↓KP,EN,↓reduceIte,reduceCtorEq,Nat.reduceEqDiff,Nat.reduceAdd,Nat.reduceLeDiff,Nat.reduceMul]<;>first|omega|rfl)|(simp;done)|rfl))
      rintro mz ez H3 ⟨i, vq, tail, rfl, g4, g20, g21, g5, g6, g26, g27, hG3, hi, hvq, hmz⟩; subst mz; have hG3n := hG3.next
      simp(maxSteps:=9999999)(disch:=first|omega|(simp only[AN];omega))only[g26,g27,↓KP,EN,↓reduceIte,reduceCtorEq,Nat.reduceEqDiff,Nat.reduceAdd,Nat.reduceLeDiff,Nat.reduceMul]
      refine C_decide (fun hc2 => ?_) (fun hc2 => ?_)
      · have hi' : i < n := by omega
        have e2 : IntKind.i64.wrap ((i : Int) + 1) = ((i + 1 : Nat) : Int) := i64_in _ (by omega)
        have hbs := bitsTo_succ (j := j) (n := i)
        have hbl := bitsTo_length (j := j) (n := i)
        have s1 := shr_nat j i (by omega)
        have s2 := and_one (j / 2 ^ i) (Nat.lt_of_le_of_lt (Nat.div_le_self _ _) (by omega))
        have s3 := bit_is j i
        cases hb : j.testBit i with
        | true =>
          rw [hb] at s3
          rw [hb, if_pos rfl] at hbs
          have s4 : ((j / 2 ^ i % 2 : Nat) : Int) = 1 := of_decide_eq_true s3
          obtain ⟨vb', H5, b1, b2, b3, b4⟩ := hvq.push (bytes := 8) (cs := [I (i : Int)]) (a := (i : Int)) (F := fun _ => False) EInt.stays (by omega) rfl (fun _ h => h.elim) rfl rfl (by omega)
          simp(maxSteps:=9999999)(disch:=first|omega|(simp only[AN];omega))only[g5,g6,g27,s1,s2,eq_true s4,b1,e2,↓KP,EN,↓reduceIte,reduceCtorEq,Nat.reduceEqDiff,Nat.reduceAdd,Nat.reduceLeDiff,Nat.reduceMul]
          refine ⟨_, ?_, i + 1, vb', _, rfl, ?_, ?_, ?_, ?_, ?_, ?_, ?_, (by exact ⟨by omega, fun b hb => by simp(maxSteps:=9999999)(disch:=first|omega|(simp only[AN];omega))only[b4,hG3.get,↓KP,EN,↓reduceIte,reduceCtorEq,Nat.reduceEqDiff,Nat.reduceAdd,Nat.reduceLeDiff,Nat.reduceMul]⟩), ?_, (by rw [hbs]; exact b2), rfl⟩ <;> (first|omega|(with_reducible assumption)|(with_reducible(repeat first|exact Grew.refl _|assumption|apply Grew.alloc|refine Grew.set ?_ _ (by first|omega|(simp only[AN];omega)));done)|(simp(maxSteps:=9999999)(disch:=first|omega|(simp only[AN];omega))only[g4,g20,g21,g5,g26,↓KP,EN,↓reduceIte,reduceCtorEq,Nat.reduceEqDiff,Nat.reduceAdd,Nat.reduceLeDiff,Nat.reduceMul]<;>first|omega|rfl))
        | false =>
          rw [hb] at s3
          rw [hb, if_neg (by simp), List.append_nil] at hbs
          have s4 : ¬ ((j / 2 ^ i % 2 : Nat) : Int) = 1 := of_decide_eq_false s3
          simp(maxSteps:=9999999)(disch:=first|omega|(simp only[AN];omega))only[g5,g6,g27,s1,s2,s4,e2,↓KP,EN,↓reduceIte,reduceCtorEq,Nat.reduceEqDiff,Nat.reduceAdd,Nat.reduceLeDiff,Nat.reduceMul]
          refine ⟨_, ?_, i + 1, vq, _, rfl, ?_, ?_, ?_, ?_, ?_, ?_, ?_, ?_, ?_, (by rw [hbs]; exact hvq), rfl⟩ <;> (first|omega|(with_reducible assumption)|(with_reducible(repeat first|exact Grew.refl _|assumption|apply Grew.alloc|refine Grew.set ?_ _ (by first|omega|(simp only[AN];omega))|refine Grew.trans ?_ hG3);done)|(simp(maxSteps:=9999999)(disch:=first|omega|(simp only[AN];omega))only[g4,g20,g21,g5,g6,g26,hG3.get,↓KP,EN,↓reduceIte,reduceCtorEq,Nat.reduceEqDiff,Nat.reduceAdd,Nat.reduceLeDiff,Nat.reduceMul]<;>first|omega|rfl))
      · have hin : i = n := by omega
        subst hin
        have hbl := bitsTo_length (j := j) (n := i)
        have hvqs := hvq.sl EInt.stays
        have hvb3 := hvb.grow EInt.stays hG3
        have hgH3 : Grew H H3 := hg1'.trans (hG.trans hG3)
        have hgx : gtE (bitsTo j i) a.2 = (decide ((a.2.length : Int) < (bitsTo j i).length) || (decide (((bitsTo j i).length : Int) = a.2.length) && decide (0 < compE (bitsTo j i) a.2))) := rfl
        generalize bitsTo j i = L at *
        cases ha1 : a.1 with
        | false =>
          rw [ha1] at g4 hst
          simp(maxSteps:=9999999)(disch:=first|omega|(simp only[AN];omega))only[g4,↓KP,EN,↓reduceIte,reduceCtorEq,Nat.reduceEqDiff,Nat.reduceAdd,Nat.reduceLeDiff,Nat.reduceMul]
          simp(maxSteps:=9999999)(disch:=first|omega|(simp only[AN];omega))only[g5,hG3.get,hG.get,hbox1,↓KP,EN,↓reduceIte,reduceCtorEq,Nat.reduceEqDiff,Nat.reduceAdd,Nat.reduceLeDiff,Nat.reduceMul]
          first|refine C_call ?_|refine C_calld ?_
          refine look_run vl vg vf s j (hh.grow hgH3) fun H4 p m hg4 hm4 hheld => ?_
          have hg4n := hg4.next
          simp(maxSteps:=9999999)(disch:=first|omega|(simp only[AN];omega))only[↓KP,EN,↓reduceIte,reduceCtorEq,Nat.reduceEqDiff,Nat.reduceAdd,Nat.reduceLeDiff,Nat.reduceMul]
          first|refine C_call ?_|refine C_calld ?_
          refine some_run hfine (by omega) hheld fun H5 hg5 hh5 => ?_
          have hg5' : Grew H3 H5 := ⟨by have := hg5.next; omega, fun b hb' => by rw [hg5.get b (by omega) (by omega), hg4.get b hb']⟩
          have hg5n := hg5'.next
          by_cases ht : 0 < (truthsB s j).length
          · rw [if_neg (by simp), if_pos ht] at hst
            simp(maxSteps:=9999999)(disch:=first|omega|(simp only[AN];omega))only[ht,↓KP,EN,↓reduceIte,reduceCtorEq,Nat.reduceEqDiff,Nat.reduceAdd,Nat.reduceLeDiff,Nat.reduceMul]
            simp(maxSteps:=9999999)(disch:=first|omega|(simp only[AN];omega))only[g4,g6,g20,g21,e1,↓KP,EN,↓reduceIte,reduceCtorEq,Nat.reduceEqDiff,Nat.reduceAdd,Nat.reduceLeDiff,Nat.reduceMul]
            refine ⟨_, ?_, j + 1, vq, (true, L), _, rfl, ?_, ?_, ?_, ?_, ?_, (by exact hst.symm), (by exact hvqs.grow EInt.stays hg5'), rfl⟩ <;> (first|omega|(with_reducible assumption)|(with_reducible(repeat first|exact Grew.refl _|assumption|apply Grew.alloc|refine Grew.set ?_ _ (by first|omega|(simp only[AN];omega))|refine Grew.trans ?_ hg5'|refine Grew.trans ?_ hG3|refine Grew.trans ?_ hG);done)|(simp(maxSteps:=9999999)(disch:=first|omega|(simp only[AN];omega))only[g4,g6,g20,g21,e1,hg5'.get,hG3.get,hG.get,↓KP,EN,↓reduceIte,reduceCtorEq,Nat.reduceEqDiff,Nat.reduceAdd,Nat.reduceLeDiff,Nat.reduceMul]<;>first|omega|rfl))
          · rw [if_neg (by simp), if_neg ht] at hst
            simp(maxSteps:=9999999)(disch:=first|omega|(simp only[AN];omega))only[ht,↓KP,EN,↓reduceIte,reduceCtorEq,Nat.reduceEqDiff,Nat.reduceAdd,Nat.reduceLeDiff,Nat.reduceMul]
            simp(maxSteps:=9999999)(disch:=first|omega|(simp only[AN];omega))only[g4,g6,g20,g21,e1,↓KP,EN,↓reduceIte,reduceCtorEq,Nat.reduceEqDiff,Nat.reduceAdd,Nat.reduceLeDiff,Nat.reduceMul]
            refine ⟨_, ?_, j + 1, vb, a, _, rfl, (by rw [ha1]; simp(maxSteps:=9999999)(disch:=first|omega|(simp only[AN];omega))only[g4,↓KP,EN,↓reduceIte,reduceCtorEq,Nat.reduceEqDiff,Nat.reduceAdd,Nat.reduceLeDiff,Nat.reduceMul]), ?_, ?_, ?_, ?_, (by exact hst.symm), (by exact hvb3.grow EInt.stays hg5'), rfl⟩ <;> (first|omega|(with_reducible assumption)|(with_reducible(repeat first|exact Grew.refl _|assumption|apply Grew.alloc|refine Grew.set ?_ _ (by first|omega|(simp only[AN];omega))|refine Grew.trans ?_ hg5'|refine Grew.trans ?_ hG3|refine Grew.trans ?_ hG);done)|(simp(maxSteps:=9999999)(disch:=first|omega|(simp only[AN];omega))only[g4,g6,g20,g21,e1,hg5'.get,hG3.get,hG.get,↓KP,EN,↓reduceIte,reduceCtorEq,Nat.reduceEqDiff,Nat.reduceAdd,Nat.reduceLeDiff,Nat.reduceMul]<;>first|omega|rfl))
        | true =>
          rw [ha1] at g4 hst
          by_cases c1 : (a.2.length : Int) < L.length
          · rw [decide_eq_true c1, Bool.true_or] at hgx
            rw [if_pos ⟨rfl, hgx⟩] at hst
            simp(maxSteps:=9999999)(disch:=first|omega|(simp only[AN];omega))only[g4,g6,hvq.len,hvb.len,c1,↓KP,EN,↓reduceIte,reduceCtorEq,Nat.reduceEqDiff,Nat.reduceAdd,Nat.reduceLeDiff,Nat.reduceMul]
            simp(maxSteps:=9999999)(disch:=first|omega|(simp only[AN];omega))only[g4,g6,g20,g21,e1,↓KP,EN,↓reduceIte,reduceCtorEq,Nat.reduceEqDiff,Nat.reduceAdd,Nat.reduceLeDiff,Nat.reduceMul]
            refine ⟨_, ?_, j + 1, vb, a, _, rfl, (by rw [ha1]; simp(maxSteps:=9999999)(disch:=first|omega|(simp only[AN];omega))only[g4,↓KP,EN,↓reduceIte,reduceCtorEq,Nat.reduceEqDiff,Nat.reduceAdd,Nat.reduceLeDiff,Nat.reduceMul]), ?_, ?_, ?_, ?_, (by exact hst.symm), (by exact hvb3), rfl⟩ <;> (first|omega|(with_reducible assumption)|(with_reducible(repeat first|exact Grew.refl _|assumption|apply Grew.alloc|refine Grew.set ?_ _ (by first|omega|(simp only[AN];omega))|refine Grew.trans ?_ hG3|refine Grew.trans ?_ hG);done)|(simp(maxSteps:=9999999)(disch:=first|omega|(simp only[AN];omega))only[g4,g6,g20,g21,e1,hG3.get,hG.get,↓KP,EN,↓reduceIte,reduceCtorEq,Nat.reduceEqDiff,Nat.reduceAdd,Nat.reduceLeDiff,Nat.reduceMul]<;>first|omega|rfl))
          · by_cases c2 : (L.length : Int) = a.2.length
            · simp(maxSteps:=9999999)(disch:=first|omega|(simp only[AN];omega))only[g4,g6,hvq.len,hvb.len,c1,eq_true c2,↓KP,EN,↓reduceIte,reduceCtorEq,Nat.reduceEqDiff,Nat.reduceAdd,Nat.reduceLeDiff,Nat.reduceMul]
              first|refine C_call ?_|refine C_calld ?_
              refine Compare_run vq vb L a.2 hvqs hvb3 (by omega) (by omega) ?_
              by_cases c3 : 0 < compE L a.2
              · rw [decide_eq_true c2, decide_eq_true c3, Bool.true_and, Bool.or_true] at hgx
                rw [if_pos ⟨rfl, hgx⟩] at hst
                simp(maxSteps:=9999999)(disch:=first|omega|(simp only[AN];omega))only[c3,↓KP,EN,↓reduceIte,reduceCtorEq,Nat.reduceEqDiff,Nat.reduceAdd,Nat.reduceLeDiff,Nat.reduceMul]
                simp(maxSteps:=9999999)(disch:=first|omega|(simp only[AN];omega))only[g4,g6,g20,g21,e1,↓KP,EN,↓reduceIte,reduceCtorEq,Nat.reduceEqDiff,Nat.reduceAdd,Nat.reduceLeDiff,Nat.reduceMul]
                refine ⟨_, ?_, j + 1, vb, a, _, rfl, (by rw [ha1]; simp(maxSteps:=9999999)(disch:=first|omega|(simp only[AN];omega))only[g4,↓KP,EN,↓reduceIte,reduceCtorEq,Nat.reduceEqDiff,Nat.reduceAdd,Nat.reduceLeDiff,Nat.reduceMul]), ?_, ?_, ?_, ?_, (by exact hst.symm), (by exact hvb3), rfl⟩ <;> (first|omega|(with_reducible assumption)|(with_reducible(repeat first|exact Grew.refl _|assumption|apply Grew.alloc|refine Grew.set ?_ _ (by first|omega|(simp only[AN];omega))|refine Grew.trans ?_ hG3|refine Grew.trans ?_ hG);done)|(simp(maxSteps:=9999999)(disch:=first|omega|(simp only[AN];omega))only[g4,g6,g20,g21,e1,hG3.get,hG.get,↓KP,EN,↓reduceIte,reduceCtorEq,Nat.reduceEqDiff,Nat.reduceAdd,Nat.reduceLeDiff,Nat.reduceMul]<;>first|omega|rfl))
              · rw [decide_eq_false c1, decide_eq_false c3, Bool.and_false, Bool.or_false] at hgx
                simp(maxSteps:=9999999)(disch:=first|omega|(simp only[AN];omega))only[c3,↓KP,EN,↓reduceIte,reduceCtorEq,Nat.reduceEqDiff,Nat.reduceAdd,Nat.reduceLeDiff,Nat.reduceMul]
                simp(maxSteps:=9999999)(disch:=first|omega|(simp only[AN];omega))only[g5,hG3.get,hG.get,hbox1,↓KP,EN,↓reduceIte,reduceCtorEq,Nat.reduceEqDiff,Nat.reduceAdd,Nat.reduceLeDiff,Nat.reduceMul]
                first|refine C_call ?_|refine C_calld ?_
                refine look_run vl vg vf s j (hh.grow hgH3) fun H4 p m hg4 hm4 hheld => ?_
                have hg4n := hg4.next
                simp(maxSteps:=9999999)(disch:=first|omega|(simp only[AN];omega))only[↓KP,EN,↓reduceIte,reduceCtorEq,Nat.reduceEqDiff,Nat.reduceAdd,Nat.reduceLeDiff,Nat.reduceMul]
                first|refine C_call ?_|refine C_calld ?_
                refine some_run hfine (by omega) hheld fun H5 hg5 hh5 => ?_
                have hg5' : Grew H3 H5 := ⟨by have := hg5.next; omega, fun b hb' => by rw [hg5.get b (by omega) (by omega), hg4.get b hb']⟩
                have hg5n := hg5'.next
                by_cases ht : 0 < (truthsB s j).length
                · rw [if_neg (by rw [hgx]; simp), if_pos ht] at hst
                  simp(maxSteps:=9999999)(disch:=first|omega|(simp only[AN];omega))only[ht,↓KP,EN,↓reduceIte,reduceCtorEq,Nat.reduceEqDiff,Nat.reduceAdd,Nat.reduceLeDiff,Nat.reduceMul]
                  simp(maxSteps:=9999999)(disch:=first|omega|(simp only[AN];omega))only[g4,g6,g20,g21,e1,↓KP,EN,↓reduceIte,reduceCtorEq,Nat.reduceEqDiff,Nat.reduceAdd,Nat.reduceLeDiff,Nat.reduceMul]
                  refine ⟨_, ?_, j + 1, vq, (true, L), _, rfl, ?_, ?_, ?_, ?_, ?_, (by exact hst.symm), (by exact hvqs.grow EInt.stays hg5'), rfl⟩ <;> (first|omega|(with_reducible assumption)|(with_reducible(repeat first|exact Grew.refl _|assumption|apply Grew.alloc|refine Grew.set ?_ _ (by first|omega|(simp only[AN];omega))|refine Grew.trans ?_ hg5'|refine Grew.trans ?_ hG3|refine Grew.trans ?_ hG);done)|(simp(maxSteps:=9999999)(disch:=first|omega|(simp only[AN];omega))only[g4,g6,g20,g21,e1,hg5'.get,hG3.get,hG.get,↓KP,EN,↓reduceIte,reduceCtorEq,Nat.reduceEqDiff,Nat.reduceAdd,Nat.reduceLeDiff,Nat.reduceMul]<;>first|omega|rfl))
                · rw [if_neg (by rw [hgx]; simp), if_neg ht] at hst
                  simp(maxSteps:=9999999)(disch:=first|omega|(simp only[AN];omega))only[ht,↓KP,EN,↓reduceIte,reduceCtorEq,Nat.reduceEqDiff,Nat.reduceAdd,Nat.reduceLeDiff,Nat.reduceMul]
                  simp(maxSteps:=9999999)(disch:=first|omega|(simp only[AN];omega))only[g4,g6,g20,g21,e1,↓KP,EN,↓reduceIte,reduceCtorEq,Nat.reduceEqDiff,Nat.reduceAdd,Nat.reduceLeDiff,Nat.reduceMul]
                  refine ⟨_, ?_, j + 1, vb, a, _, rfl, (by rw [ha1]; simp(maxSteps:=9999999)(disch:=first|omega|(simp only[AN];omega))only[g4,↓KP,EN,↓reduceIte,reduceCtorEq,Nat.reduceEqDiff,Nat.reduceAdd,Nat.reduceLeDiff,Nat.reduceMul]), ?_, ?_, ?_, ?_, (by exact hst.symm), (by exact hvb3.grow EInt.stays hg5'), rfl⟩ <;> (first|omega|(with_reducible assumption)|(with_reducible(repeat first|exact Grew.refl _|assumption|apply Grew.alloc|refine Grew.set ?_ _ (by first|omega|(simp only[AN];omega))|refine Grew.trans ?_ hg5'|refine Grew.trans ?_ hG3|refine Grew.trans ?_ hG);done)|(simp(maxSteps:=9999999)(disch:=first|omega|(simp only[AN];omega))only[g4,g6,g20,g21,e1,hg5'.get,hG3.get,hG.get,↓KP,EN,↓reduceIte,reduceCtorEq,Nat.reduceEqDiff,Nat.reduceAdd,Nat.reduceLeDiff,Nat.reduceMul]<;>first|omega|rfl))
            · rw [decide_eq_false c1, decide_eq_false c2, Bool.false_and, Bool.or_false] at hgx
              simp(maxSteps:=9999999)(disch:=first|omega|(simp only[AN];omega))only[g4,g6,hvq.len,hvb.len,c1,c2,↓KP,EN,↓reduceIte,reduceCtorEq,Nat.reduceEqDiff,Nat.reduceAdd,Nat.reduceLeDiff,Nat.reduceMul]
              simp(maxSteps:=9999999)(disch:=first|omega|(simp only[AN];omega))only[g5,hG3.get,hG.get,hbox1,↓KP,EN,↓reduceIte,reduceCtorEq,Nat.reduceEqDiff,Nat.reduceAdd,Nat.reduceLeDiff,Nat.reduceMul]
              first|refine C_call ?_|refine C_calld ?_
              refine look_run vl vg vf s j (hh.grow hgH3) fun H4 p m hg4 hm4 hheld => ?_
              have hg4n := hg4.next
              simp(maxSteps:=9999999)(disch:=first|omega|(simp only[AN];omega))only[↓KP,EN,↓reduceIte,reduceCtorEq,Nat.reduceEqDiff,Nat.reduceAdd,Nat.reduceLeDiff,Nat.reduceMul]
              first|refine C_call ?_|refine C_calld ?_
              refine some_run hfine (by omega) hheld fun H5 hg5 hh5 => ?_
              have hg5' : Grew H3 H5 := ⟨by have := hg5.next; omega, fun b hb' => by rw [hg5.get b (by omega) (by omega), hg4.get b hb']⟩
              have hg5n := hg5'.next
              by_cases ht : 0 < (truthsB s j).length
              · rw [if_neg (by rw [hgx]; simp), if_pos ht] at hst
                simp(maxSteps:=9999999)(disch:=first|omega|(simp only[AN];omega))only[ht,↓KP,EN,↓reduceIte,reduceCtorEq,Nat.reduceEqDiff,Nat.reduceAdd,Nat.reduceLeDiff,Nat.reduceMul]
                simp(maxSteps:=9999999)(disch:=first|omega|(simp only[AN];omega))only[g4,g6,g20,g21,e1,↓KP,EN,↓reduceIte,reduceCtorEq,Nat.reduceEqDiff,Nat.reduceAdd,Nat.reduceLeDiff,Nat.reduceMul]
                refine ⟨_, ?_, j + 1, vq, (true, L), _, rfl, ?_, ?_, ?_, ?_, ?_, (by exact hst.symm), (by exact hvqs.grow EInt.stays hg5'), rfl⟩ <;> (first|omega|(with_reducible assumption)|(with_reducible(repeat first|exact Grew.refl _|assumption|apply Grew.alloc|refine Grew.set ?_ _ (by first|omega|(simp only[AN];omega))|refine Grew.trans ?_ hg5'|refine Grew.trans ?_ hG3|refine Grew.trans ?_ hG);done)|(simp(maxSteps:=9999999)(disch:=first|omega|(simp only[AN];omega))only[g4,g6,g20,g21,e1,hg5'.get,hG3.get,hG.get,↓KP,EN,↓reduceIte,reduceCtorEq,Nat.reduceEqDiff,Nat.reduceAdd,Nat.reduceLeDiff,Nat.reduceMul]<;>first|omega|rfl))
              · rw [if_neg (by rw [hgx]; simp), if_neg ht] at hst
                simp(maxSteps:=9999999)(disch:=first|omega|(simp only[AN];omega))only[ht,↓KP,EN,↓reduceIte,reduceCtorEq,Nat.reduceEqDiff,Nat.reduceAdd,Nat.reduceLeDiff,Nat.reduceMul]
                simp(maxSteps:=9999999)(disch:=first|omega|(simp only[AN];omega))only[g4,g6,g20,g21,e1,↓KP,EN,↓reduceIte,reduceCtorEq,Nat.reduceEqDiff,Nat.reduceAdd,Nat.reduceLeDiff,Nat.reduceMul]
                refine ⟨_, ?_, j + 1, vb, a, _, rfl, (by rw [ha1]; simp(maxSteps:=9999999)(disch:=first|omega|(simp only[AN];omega))only[g4,↓KP,EN,↓reduceIte,reduceCtorEq,Nat.reduceEqDiff,Nat.reduceAdd,Nat.reduceLeDiff,Nat.reduceMul]), ?_, ?_, ?_, ?_, (by exact hst.symm), (by exact hvb3.grow EInt.stays hg5'), rfl⟩ <;> (first|omega|(with_reducible assumption)|(with_reducible(repeat first|exact Grew.refl _|assumption|apply Grew.alloc|refine Grew.set ?_ _ (by first|omega|(simp only[AN];omega))|refine Grew.trans ?_ hg5'|refine Grew.trans ?_ hG3|refine Grew.trans ?_ hG);done)|(simp(maxSteps:=9999999)(disch:=first|omega|(simp only[AN];omega))only[g4,g6,g20,g21,e1,hg5'.get,hG3.get,hG.get,↓KP,EN,↓reduceIte,reduceCtorEq,Nat.reduceEqDiff,Nat.reduceAdd,Nat.reduceLeDiff,Nat.reduceMul]<;>first|omega|rfl))
    · have hje : j = q := by omega
      subst hje
      rw [← ha] at k
      cases ha1 : a.1 with
      | false =>
        rw [ha1] at k f4
        simp(maxSteps:=9999999)(disch:=first|omega|(simp only[AN];omega))only[f4,↓KP,EN,↓reduceIte,reduceCtorEq,Nat.reduceEqDiff,Nat.reduceAdd,Nat.reduceLeDiff,Nat.reduceMul]
        exact k _ _ GW (.inl ⟨rfl, rfl⟩)
      | true =>
        rw [ha1] at k f4
        simp(maxSteps:=9999999)(disch:=first|omega|(simp only[AN];omega))only[f4,↓KP,EN,↓reduceIte,reduceCtorEq,Nat.reduceEqDiff,Nat.reduceAdd,Nat.reduceLeDiff,Nat.reduceMul]
        exact k _ _ GW hvb
  · have he' : ¬ errE s = 0 := he
    rw [if_pos he'] at k
    simp(maxSteps:=9999999)(disch:=first|omega|(simp only[AN];omega))only[he,↓KP,EN,↓reduceIte,reduceCtorEq,Nat.reduceEqDiff,Nat.reduceAdd,Nat.reduceLeDiff,Nat.reduceMul]
    exact k _ _ GW (.inl ⟨rfl, rfl⟩)
end Go.Proofs.Ytihahmggfjjkjaa
namespace Go.Proofs.Ytihahmggfjjkjaa
open Go.AM Go.IntWalk Go.PL
set_option maxRecDepth 100000
set_option maxHeartbeats 4000000
set_option linter.unusedSimpArgs false
variable {H : AH} {R : AV → AH → Prop}
def seriesE (f : List (Int × Int)) : Series := ⟨[true, false, false, true, false, false, false, true], 3, 5, [8, 9], true, f⟩
def fillA (a : Int) : List (Int × Int) := if 0 ≤ a then [(4, a)] else []
def fillE (a b : Int) : List (Int × Int) := fillA a ++ (if 0 ≤ b then [(2, b)] else [])
theorem span_run (a b : Int) (k : ∀ H', Grew H H' → R (.agg [I a, I b]) H') : CallQ prog (.func 36 [] []) [I a, I b] H R := by
  refine CallQ_enter (fn:=c36) rfl (Nat.le_of_ble_eq_true rfl) ?_;simp(maxSteps:=9999999)(disch:=first|omega|(simp only[AN];omega))only[c36,envFrom,↓KP,EN,↓reduceIte,reduceCtorEq,Nat.reduceEqDiff,Nat.reduceAdd,Nat.reduceLeDiff,Nat.reduceMul]
  refine k _ ?_
  exact GW
theorem bool_rows {F : Nat → Prop} {H : AH} : ∀ l : List Bool, Go.AM.Rows 1 (EB F H) (l.map AV.bool) l
  | [] => .nil
  | a :: l => .cons (cs := [.bool a]) rfl rfl (bool_rows l)
theorem Series_run (a b : Int) (k : ∀ H' vl vg vf, Grew H H' → IsSer (Old H') H' vl vg vf (seriesE (fillE a b)) → R (serArg vl vg vf (seriesE (fillE a b))) H') : CallQ prog (.func 35 [] []) [I a, I b] H R := by
  refine CallQ_enter (fn:=c35) rfl (Nat.le_of_ble_eq_true rfl) ?_;simp(maxSteps:=9999999)(disch:=first|omega|(simp only[AN];omega))only[c35,envFrom,↓KP,EN,↓reduceIte,reduceCtorEq,Nat.reduceEqDiff,Nat.reduceAdd,Nat.reduceLeDiff,Nat.reduceMul]
  first|refine C_call ?_|refine C_calld ?_
  refine span_run 3 5 fun H1 hg1 => ?_
  have hg1n:=hg1.next;try simp only[AN]at hg1n
  have hg1' : Grew H H1 := Grew.trans GW hg1
  simp(maxSteps:=9999999)(disch:=first|omega|(simp only[AN];omega))only[↓KP,EN,↓reduceIte,reduceCtorEq,Nat.reduceEqDiff,Nat.reduceAdd,Nat.reduceLeDiff,Nat.reduceMul]
  generalize hB : AH.set _ _ _ = B
  have e0 : B.get (H.next + 1) = some (.cells false ([true, false, false, true, false, false, false, true].map AV.bool)) := by rw [← hB]; simp(maxSteps:=9999999)(disch:=first|omega|(simp only[AN];omega))only[hg1.get,↓KP,EN,↓reduceIte,reduceCtorEq,Nat.reduceEqDiff,Nat.reduceAdd,Nat.reduceLeDiff,Nat.reduceMul]; rfl
  have e1 : B.get H1.next = some (.cells false [I 8, I 9]) := by rw [← hB]; simp(maxSteps:=9999999)(disch:=first|omega|(simp only[AN];omega))only[↓KP,EN,↓reduceIte,reduceCtorEq,Nat.reduceEqDiff,Nat.reduceAdd,Nat.reduceLeDiff,Nat.reduceMul]
  have e2 : B.get (H1.next + 1) = some (.cells false [.slice (H.next + 1) 0 8 1, I 3, I 5, .slice H1.next 0 2 1, .bool true, .nilslice]) := by rw [← hB]; simp(maxSteps:=9999999)(disch:=first|omega|(simp only[AN];omega))only[↓KP,EN,↓reduceIte,reduceCtorEq,Nat.reduceEqDiff,Nat.reduceAdd,Nat.reduceLeDiff,Nat.reduceMul]
  have e3 : B.get H.next = some (.cells false [.nilslice, I 0, I 0, .nilslice, .bool false, .nilslice]) := by rw [← hB]; simp(maxSteps:=9999999)(disch:=first|omega|(simp only[AN];omega))only[hg1.get,↓KP,EN,↓reduceIte,reduceCtorEq,Nat.reduceEqDiff,Nat.reduceAdd,Nat.reduceLeDiff,Nat.reduceMul]
  have hn : B.next = H1.next + 1 + 1 := by rw [← hB]; rfl
  have hgB : Grew H B := by rw [← hB]; exact GW
  clear hB
  refine C_join (fun e' H' => e' = [(0, I a), (1, I b), (4, .ptr H.next 0), (5, .ptr (H1.next + 1) 0), (11, .bool (decide (0 ≤ a)))] ∧ ∃ vf, B.next ≤ H'.next ∧ (∀ b, b < B.next → b ≠ H1.next + 1 → H'.get b = B.get b) ∧ H'.get (H1.next + 1) = some (.cells false [.slice (H.next + 1) 0 8 1, I 3, I 5, .slice H1.next 0 2 1, .bool true, vf]) ∧ Mine 2 EP (fun _ => False) B.next H' vf (fillA a)) ?_ ?_
  · refine C_decide (fun ha => ?_) (fun ha => ?_)
    · obtain ⟨v, H2, b1, b2, b3, b4⟩ := (Mine.nil (H := B) (z := 2) (E := EP) (P := fun _ => False) (N := B.next)).push (bytes := 16) (cs := [I 4, I a]) (a := (4, a)) (F := fun _ => False) EP.stays (by omega) rfl (fun _ h => h.elim) rfl rfl (by decide)
      have b5 : H2.get (H1.next + 1) = B.get (H1.next + 1) := b4 _ (by omega)
      simp(maxSteps:=9999999)(disch:=first|omega|(simp only[AN];omega))only[e2,b1,b5,b2.cells?,b2.isCell,↓KP,EN,↓reduceIte,reduceCtorEq,Nat.reduceEqDiff,Nat.reduceAdd,Nat.reduceLeDiff,Nat.reduceMul]
      refine K_joined ⟨?_, v, ?_, ?_, ?_, ?_⟩
      · rw [decide_eq_true ha]
      · simp(maxSteps:=9999999)(disch:=first|omega|(simp only[AN];omega))only[↓KP,EN,↓reduceIte,reduceCtorEq,Nat.reduceEqDiff,Nat.reduceAdd,Nat.reduceLeDiff,Nat.reduceMul]; omega
      · intro b hb hb'
        simp(maxSteps:=9999999)(disch:=first|omega|(simp only[AN];omega))only[b4,↓KP,EN,↓reduceIte,reduceCtorEq,Nat.reduceEqDiff,Nat.reduceAdd,Nat.reduceLeDiff,Nat.reduceMul]
      · simp(maxSteps:=9999999)(disch:=first|omega|(simp only[AN];omega))only[↓KP,EN,↓reduceIte,reduceCtorEq,Nat.reduceEqDiff,Nat.reduceAdd,Nat.reduceLeDiff,Nat.reduceMul]
      · rw [fillA, if_pos ha]
        exact b2.move EP.stays (fun k hk hor => by rcases hor with h | h; exact h.elim; simp(maxSteps:=9999999)(disch:=first|omega|(simp only[AN];omega))only[↓KP,EN,↓reduceIte,reduceCtorEq,Nat.reduceEqDiff,Nat.reduceAdd,Nat.reduceLeDiff,Nat.reduceMul]) (by simp(maxSteps:=9999999)(disch:=first|omega|(simp only[AN];omega))only[↓KP,EN,↓reduceIte,reduceCtorEq,Nat.reduceEqDiff,Nat.reduceAdd,Nat.reduceLeDiff,Nat.reduceMul]; omega)
    · simp(maxSteps:=9999999)(disch:=first|omega|(simp only[AN];omega))only[↓KP,EN,↓reduceIte,reduceCtorEq,Nat.reduceEqDiff,Nat.reduceAdd,Nat.reduceLeDiff,Nat.reduceMul]
      refine K_joined ⟨?_, .nilslice, Nat.le_refl _, fun _ _ _ => rfl, e2, ?_⟩
      · rw [decide_eq_false ha]
      · rw [fillA, if_neg ha]; exact Mine.nil
  · rintro _ H2 ⟨rfl, v2, c1, c2, c3, c4⟩
    have hl2 : (fillA a).length ≤ 1 := by unfold fillA; split <;> simp
    simp(maxSteps:=9999999)(disch:=first|omega|(simp only[AN];omega))only[↓KP,EN,↓reduceIte,reduceCtorEq,Nat.reduceEqDiff,Nat.reduceAdd,Nat.reduceLeDiff,Nat.reduceMul]
    refine C_join (fun e' H' => e' = [(0, I a), (1, I b), (4, .ptr H.next 0), (5, .ptr (H1.next + 1) 0), (11, .bool (decide (0 ≤ a))), (20, .bool (decide (0 ≤ b)))] ∧ ∃ vf, B.next ≤ H'.next ∧ (∀ b, b < B.next → b ≠ H1.next + 1 → H'.get b = B.get b) ∧ H'.get (H1.next + 1) = some (.cells false [.slice (H.next + 1) 0 8 1, I 3, I 5, .slice H1.next 0 2 1, .bool true, vf]) ∧ Mine 2 EP (fun _ => False) B.next H' vf (fillE a b)) ?_ ?_
    · refine C_decide (fun hb => ?_) (fun hb => ?_)
      · obtain ⟨v3, H3, b1, b2, b3, b4⟩ := copy_mine (P := fun _ => False) (N := H2.next) (bytes := 16) EP.stays (c4.sl EP.stays) (fun k hk => hk) (fun _ _ h => h) (Nat.le_refl _) EP.isCell (by omega)
        have b5 : H3.get (H1.next + 1) = H2.get (H1.next + 1) := b4 _ (by omega)
        obtain ⟨v4, H4, d1, d2, d3, d4⟩ := b2.push (bytes := 16) (cs := [I 2, I b]) (a := (2, b)) (F := fun _ => False) EP.stays (by omega) rfl (fun _ h => h.elim) rfl rfl (by omega)
        have d5 : H4.get (H1.next + 1) = H2.get (H1.next + 1) := by rw [d4 _ (by omega), b5]
        simp(maxSteps:=9999999)(disch:=first|omega|(simp only[AN];omega))only[c3,b1,b5,d1,d5,d2.cells?,d2.isCell,↓KP,EN,↓reduceIte,reduceCtorEq,Nat.reduceEqDiff,Nat.reduceAdd,Nat.reduceLeDiff,Nat.reduceMul]
        refine K_joined ⟨?_, v4, ?_, ?_, ?_, ?_⟩
        · rw [decide_eq_true hb]
        · simp(maxSteps:=9999999)(disch:=first|omega|(simp only[AN];omega))only[↓KP,EN,↓reduceIte,reduceCtorEq,Nat.reduceEqDiff,Nat.reduceAdd,Nat.reduceLeDiff,Nat.reduceMul]; omega
        · intro b hb hb'
          simp(maxSteps:=9999999)(disch:=first|omega|(simp only[AN];omega))only[d4,b4,c2,↓KP,EN,↓reduceIte,reduceCtorEq,Nat.reduceEqDiff,Nat.reduceAdd,Nat.reduceLeDiff,Nat.reduceMul]
        · simp(maxSteps:=9999999)(disch:=first|omega|(simp only[AN];omega))only[↓KP,EN,↓reduceIte,reduceCtorEq,Nat.reduceEqDiff,Nat.reduceAdd,Nat.reduceLeDiff,Nat.reduceMul]
        · rw [fillE, if_pos hb]
          exact (d2.move (H' := H4.set (H1.next + 1) _) EP.stays (fun k hk hor => by rcases hor with h | h; exact h.elim; simp(maxSteps:=9999999)(disch:=first|omega|(simp only[AN];omega))only[↓KP,EN,↓reduceIte,reduceCtorEq,Nat.reduceEqDiff,Nat.reduceAdd,Nat.reduceLeDiff,Nat.reduceMul]) (by simp(maxSteps:=9999999)(disch:=first|omega|(simp only[AN];omega))only[↓KP,EN,↓reduceIte,reduceCtorEq,Nat.reduceEqDiff,Nat.reduceAdd,Nat.reduceLeDiff,Nat.reduceMul]; omega)).weak (by omega) (fun _ h => h.elim) EP.stays
      · simp(maxSteps:=9999999)(disch:=first|omega|(simp only[AN];omega))only[↓KP,EN,↓reduceIte,reduceCtorEq,Nat.reduceEqDiff,Nat.reduceAdd,Nat.reduceLeDiff,Nat.reduceMul]
        refine K_joined ⟨?_, v2, c1, c2, c3, ?_⟩
        · rw [decide_eq_false hb]
        · rw [fillE, if_neg hb, List.append_nil]; exact c4
    · rintro _ H3 ⟨rfl, v3, d1, d2, d3, d4⟩
      have d6 := d2 H.next (by omega) (by omega)
      rw [e3] at d6
      simp(maxSteps:=9999999)(disch:=first|omega|(simp only[AN];omega))only[d3,d6,d4.isCell,↓KP,EN,↓reduceIte,reduceCtorEq,Nat.reduceEqDiff,Nat.reduceAdd,Nat.reduceLeDiff,Nat.reduceMul]
      have hgF : ∀ o, Grew H (H3.set H.next o) := fun o => ⟨by simp(maxSteps:=9999999)(disch:=first|omega|(simp only[AN];omega))only[↓KP,EN,↓reduceIte,reduceCtorEq,Nat.reduceEqDiff,Nat.reduceAdd,Nat.reduceLeDiff,Nat.reduceMul]; omega, fun b hb => by simp(maxSteps:=9999999)(disch:=first|omega|(simp only[AN];omega))only[d2,hgB.get,↓KP,EN,↓reduceIte,reduceCtorEq,Nat.reduceEqDiff,Nat.reduceAdd,Nat.reduceLeDiff,Nat.reduceMul]⟩
      have l8 : (H3.set H.next (.cells false [.slice (H.next + 1) 0 8 1, I 3, I 5, .slice H1.next 0 2 1, .bool true, v3])).read (H.next + 1) 0 8 = some ([true, false, false, true, false, false, false, true].map AV.bool) := by simp only [AH.read]; simp(maxSteps:=9999999)(disch:=first|omega|(simp only[AN];omega))only[d2,e0,↓KP,EN,↓reduceIte,reduceCtorEq,Nat.reduceEqDiff,Nat.reduceAdd,Nat.reduceLeDiff,Nat.reduceMul]; rfl
      have l2 : (H3.set H.next (.cells false [.slice (H.next + 1) 0 8 1, I 3, I 5, .slice H1.next 0 2 1, .bool true, v3])).read H1.next 0 2 = some [I 8, I 9] := by simp only [AH.read]; simp(maxSteps:=9999999)(disch:=first|omega|(simp only[AN];omega))only[d2,e1,↓KP,EN,↓reduceIte,reduceCtorEq,Nat.reduceEqDiff,Nat.reduceAdd,Nat.reduceLeDiff,Nat.reduceMul]
      refine k _ (.slice (H.next + 1) 0 8 1) (.slice H1.next 0 2 1) v3 (hgF _) ⟨.inr ⟨H.next + 1, 0, _, rfl, ?_, l8, bool_rows _⟩, .inr ⟨H1.next, 0, _, rfl, ?_, l2, ints_rows [8, 9]⟩, ?_⟩
      · show H.next + 1 < H3.next; omega
      · show H1.next < H3.next; omega
      · exact (d4.move (H' := H3.set H.next _) EP.stays (fun k hk hor => by rcases hor with h | h; exact h.elim; simp(maxSteps:=9999999)(disch:=first|omega|(simp only[AN];omega))only[↓KP,EN,↓reduceIte,reduceCtorEq,Nat.reduceEqDiff,Nat.reduceAdd,Nat.reduceLeDiff,Nat.reduceMul]) (by simp(maxSteps:=9999999)(disch:=first|omega|(simp only[AN];omega))only[↓KP,EN,↓reduceIte,reduceCtorEq,Nat.reduceEqDiff,Nat.reduceAdd,Nat.reduceLeDiff,Nat.reduceMul]; omega)).sl EP.stays
theorem sized_series (f : List (Int × Int)) (h : f.length ≤ 4) : Sized (seriesE f) := ⟨by show 8 ≤ 9223372036854775807; omega, by show 2 ≤ 9223372036854775807; omega, Nat.le_trans h (by omega), by show IntKind.i64.min ≤ 3 ∧ 3 ≤ IntKind.i64.max; decide, by show IntKind.i64.min ≤ 5 ∧ 5 ≤ IntKind.i64.max; decide⟩
theorem series_s : fillE (-1) (-1) = [] := rfl
theorem series_f : fillE 3 (-1) = [(4, 3)] := rfl
theorem series_w : fillE 3 0 = [(4, 3), (2, 0)] := rfl
end Go.Proofs.Ytihahmggfjjkjaa
namespace Go.Proofs.Ytihahmggfjjkjaa
open Go.AM Go.IntWalk Go.PL
set_option maxRecDepth 100000
set_option maxHeartbeats 4000000
set_option linter.unusedSimpArgs false
variable {H : AH} {R : AV → AH → Prop}
abbrev sS : Series := seriesE []
abbrev sF : Series := seriesE [(4, 3)]
abbrev sW : Series := seriesE [(4, 3), (2, 0)]
theorem ex_t1 : thereE sS 0 4 = (0, 0) := by decide +kernel
theorem ex_t2 : thereE sS 1 2 = (1, 0) := by decide +kernel
theorem ex_t3 : thereE sS 1 5 = (2, 0) := by decide +kernel
theorem ex_n1 : numberE sS 4 = ((0, 3), 0) := by decide +kernel
theorem ex_n2 : numberE sF 5 = ((1, 2), 0) := by decide +kernel
theorem ex_l1 : lastedE sS 1 = ((4, 5), 0) := by decide +kernel
theorem ex_u1 : unseenE sF = (1, 0) := by decide +kernel
theorem ex_f1 : firstE sS = ([(1, 3), (0, 3)], 0) := by decide +kernel
theorem ex_o1 : openE sS = (4, 3, 0) := by decide +kernel
theorem ex_w1 : wrongE sW = ([1], 0) := by decide +kernel
theorem ex_u2 : unseenE sW = (0, 8) := by decide +kernel
theorem ex_t4 : thereE sS 2 0 = (0, 4) := by decide +kernel
theorem two_spans (H : AH) (p q : Int × Int) : IsSl 2 EP (Old (H.alloc (.cells false [I p.1, I p.2, I q.1, I q.2]))) (H.alloc (.cells false [I p.1, I p.2, I q.1, I q.2])) (.slice H.next 0 2 2) [p, q] :=
  .inr ⟨_, _, [I p.1, I p.2, I q.1, I q.2], rfl, (by show H.next < H.next + 1; omega), by simp [AH.read, get_alloc_new, readN], Rows.cons (cs := [I p.1, I p.2]) rfl rfl (Rows.single rfl rfl)⟩
theorem Awake_run (k : ∀ H', Grew H H' → R (.bool true) H') : CallQ prog (.func 22 [] []) [] H R := by
  refine CallQ_enter (fn:=c22) rfl (Nat.le_of_ble_eq_true rfl) ?_;simp(maxSteps:=9999999)(disch:=first|omega|(simp only[AN];omega))only[c22,envFrom,↓KP,EN,↓reduceIte,reduceCtorEq,Nat.reduceEqDiff,Nat.reduceAdd,Nat.reduceLeDiff,Nat.reduceMul]
  first|refine C_call ?_|refine C_calld ?_
  refine Series_run (-1) (-1) fun A1 l1 g1 f1 ga1 ha1 => ?_
  rw [series_s] at ha1 ⊢
  have na1 := ga1.next
  simp(maxSteps:=9999999)(disch:=first|omega|(simp only[AN];omega))only[↓KP,EN,↓reduceIte,reduceCtorEq,Nat.reduceEqDiff,Nat.reduceAdd,Nat.reduceLeDiff,Nat.reduceMul]
  first|refine C_call ?_|refine C_calld ?_
  refine Series_run 3 (-1) fun A2 l2 g2 f2 ga2 ha2 => ?_
  rw [series_f] at ha2 ⊢
  have na2 := ga2.next
  simp(maxSteps:=9999999)(disch:=first|omega|(simp only[AN];omega))only[↓KP,EN,↓reduceIte,reduceCtorEq,Nat.reduceEqDiff,Nat.reduceAdd,Nat.reduceLeDiff,Nat.reduceMul]
  first|refine C_call ?_|refine C_calld ?_
  refine Series_run 3 0 fun A3 l3 g3 f3 ga3 ha3 => ?_
  rw [series_w] at ha3 ⊢
  have na3 := ga3.next
  replace ha1 := (ha1.grow ga2).grow ga3
  replace ha2 := ha2.grow ga3
  have hgA : Grew H A3 := (ga1.trans ga2).trans ga3
  simp(maxSteps:=9999999)(disch:=first|omega|(simp only[AN];omega))only[ha1.l.isCell,ha1.g.isCell,ha1.f.isCell,ha2.l.isCell,ha2.g.isCell,ha2.f.isCell,ha3.l.isCell,ha3.g.isCell,ha3.f.isCell,↓KP,EN,↓reduceIte,reduceCtorEq,Nat.reduceEqDiff,Nat.reduceAdd,Nat.reduceLeDiff,Nat.reduceMul]
  generalize hB : AH.set _ _ _ = B
  have b1 : B.get A3.next = some (.cells false [l1, I 3, I 5, g1, .bool true, f1]) := by rw [← hB]; simp(maxSteps:=9999999)(disch:=first|omega|(simp only[AN];omega))only[↓KP,EN,↓reduceIte,reduceCtorEq,Nat.reduceEqDiff,Nat.reduceAdd,Nat.reduceLeDiff,Nat.reduceMul]; rfl
  have b2 : B.get (A3.next + 1) = some (.cells false [l2, I 3, I 5, g2, .bool true, f2]) := by rw [← hB]; simp(maxSteps:=9999999)(disch:=first|omega|(simp only[AN];omega))only[↓KP,EN,↓reduceIte,reduceCtorEq,Nat.reduceEqDiff,Nat.reduceAdd,Nat.reduceLeDiff,Nat.reduceMul]; rfl
  have b3 : B.get (A3.next + 1 + 1) = some (.cells false [l3, I 3, I 5, g3, .bool true, f3]) := by rw [← hB]; simp(maxSteps:=9999999)(disch:=first|omega|(simp only[AN];omega))only[↓KP,EN,↓reduceIte,reduceCtorEq,Nat.reduceEqDiff,Nat.reduceAdd,Nat.reduceLeDiff,Nat.reduceMul]; rfl
  have hgB : Grew A3 B := by rw [← hB]; exact GW
  have hBn : B.next = A3.next + 1 + 1 + 1 := by rw [← hB]; rfl
  clear hB
  replace ha1 := ha1.grow hgB
  replace ha2 := ha2.grow hgB
  replace ha3 := ha3.grow hgB
  have hgH : Grew H B := hgA.trans hgB
  have z1 := sized_series [] (by decide)
  have z2 := sized_series [(4, 3)] (by decide)
  have z3 := sized_series [(4, 3), (2, 0)] (by decide)
  first|refine C_call ?_|refine C_calld ?_
  refine There_run l1 g1 f1 sS 0 4 (ha1.grow GW) z1 fun D1 hg1 => ?_
  have hg1n := hg1.next; try simp only [AN] at hg1n
  rw [ex_t1]
  simp(maxSteps:=9999999)(disch:=first|omega|(simp only[AN];omega))only[hg1.get,b1,b2,b3,↓KP,EN,↓reduceIte,reduceCtorEq,Nat.reduceEqDiff,Nat.reduceAdd,Nat.reduceLeDiff,Nat.reduceMul]
  first|refine C_call ?_|refine C_calld ?_
  refine There_run l1 g1 f1 sS 1 2 (ha1.grow GW) z1 fun D2 hg2 => ?_
  have hg2n := hg2.next; try simp only [AN] at hg2n
  rw [ex_t2]
  simp(maxSteps:=9999999)(disch:=first|omega|(simp only[AN];omega))only[hg2.get,hg1.get,b1,b2,b3,↓KP,EN,↓reduceIte,reduceCtorEq,Nat.reduceEqDiff,Nat.reduceAdd,Nat.reduceLeDiff,Nat.reduceMul]
  first|refine C_call ?_|refine C_calld ?_
  refine There_run l1 g1 f1 sS 1 5 (ha1.grow GW) z1 fun D3 hg3 => ?_
  have hg3n := hg3.next; try simp only [AN] at hg3n
  rw [ex_t3]
  simp(maxSteps:=9999999)(disch:=first|omega|(simp only[AN];omega))only[hg3.get,hg2.get,hg1.get,b1,b2,b3,↓KP,EN,↓reduceIte,reduceCtorEq,Nat.reduceEqDiff,Nat.reduceAdd,Nat.reduceLeDiff,Nat.reduceMul]
  first|refine C_call ?_|refine C_calld ?_
  refine Number_run l1 g1 f1 sS 4 (ha1.grow GW) z1 fun D4 hg4 => ?_
  have hg4n := hg4.next; try simp only [AN] at hg4n
  rw [ex_n1]
  simp(maxSteps:=9999999)(disch:=first|omega|(simp only[AN];omega))only[hg4.get,hg3.get,hg2.get,hg1.get,b1,b2,b3,↓KP,EN,↓reduceIte,reduceCtorEq,Nat.reduceEqDiff,Nat.reduceAdd,Nat.reduceLeDiff,Nat.reduceMul]
  first|refine C_call ?_|refine C_calld ?_
  refine Number_run l2 g2 f2 sF 5 (ha2.grow GW) z2 fun D5 hg5 => ?_
  have hg5n := hg5.next; try simp only [AN] at hg5n
  rw [ex_n2]
  simp(maxSteps:=9999999)(disch:=first|omega|(simp only[AN];omega))only[hg5.get,hg4.get,hg3.get,hg2.get,hg1.get,b1,b2,b3,↓KP,EN,↓reduceIte,reduceCtorEq,Nat.reduceEqDiff,Nat.reduceAdd,Nat.reduceLeDiff,Nat.reduceMul]
  first|refine C_call ?_|refine C_calld ?_
  refine Lasted_run l1 g1 f1 sS 1 (ha1.grow GW) z1 fun D6 hg6 => ?_
  have hg6n := hg6.next; try simp only [AN] at hg6n
  rw [ex_l1]
  simp(maxSteps:=9999999)(disch:=first|omega|(simp only[AN];omega))only[hg6.get,hg5.get,hg4.get,hg3.get,hg2.get,hg1.get,b1,b2,b3,↓KP,EN,↓reduceIte,reduceCtorEq,Nat.reduceEqDiff,Nat.reduceAdd,Nat.reduceLeDiff,Nat.reduceMul]
  first|refine C_call ?_|refine C_calld ?_
  refine Unseen_run l2 g2 f2 sF (ha2.grow GW) z2 fun D7 hg7 => ?_
  have hg7n := hg7.next; try simp only [AN] at hg7n
  rw [ex_u1]
  simp(maxSteps:=9999999)(disch:=first|omega|(simp only[AN];omega))only[hg7.get,hg6.get,hg5.get,hg4.get,hg3.get,hg2.get,hg1.get,b1,b2,b3,↓KP,EN,↓reduceIte,reduceCtorEq,Nat.reduceEqDiff,Nat.reduceAdd,Nat.reduceLeDiff,Nat.reduceMul]
  first|refine C_call ?_|refine C_calld ?_
  refine First_run l1 g1 f1 sS (ha1.grow GW) z1 fun D8 v8 hg8 hv8 => ?_
  have hg8n := hg8.next; try simp only [AN] at hg8n
  rw [ex_f1] at hv8 ⊢
  simp(maxSteps:=9999999)(disch:=first|omega|(simp only[AN];omega))only[hg8.get,hg7.get,hg6.get,hg5.get,hg4.get,hg3.get,hg2.get,hg1.get,b1,b2,b3,↓KP,EN,↓reduceIte,reduceCtorEq,Nat.reduceEqDiff,Nat.reduceAdd,Nat.reduceLeDiff,Nat.reduceMul]
  first|refine C_call ?_|refine C_calld ?_
  refine Open_run l1 g1 f1 sS (ha1.grow GW) z1 fun D9 hg9 => ?_
  have hg9n := hg9.next; try simp only [AN] at hg9n
  rw [ex_o1]
  simp(maxSteps:=9999999)(disch:=first|omega|(simp only[AN];omega))only[hg9.get,hg8.get,hg7.get,hg6.get,hg5.get,hg4.get,hg3.get,hg2.get,hg1.get,b1,b2,b3,↓KP,EN,↓reduceIte,reduceCtorEq,Nat.reduceEqDiff,Nat.reduceAdd,Nat.reduceLeDiff,Nat.reduceMul]
  first|refine C_call ?_|refine C_calld ?_
  refine Wrong_run l3 g3 f3 sW (ha3.grow GW) z3 fun D10 v10 hg10 hv10 => ?_
  have hg10n := hg10.next; try simp only [AN] at hg10n
  rw [ex_w1] at hv10 ⊢
  simp(maxSteps:=9999999)(disch:=first|omega|(simp only[AN];omega))only[hg10.get,hg9.get,hg8.get,hg7.get,hg6.get,hg5.get,hg4.get,hg3.get,hg2.get,hg1.get,b1,b2,b3,↓KP,EN,↓reduceIte,reduceCtorEq,Nat.reduceEqDiff,Nat.reduceAdd,Nat.reduceLeDiff,Nat.reduceMul]
  first|refine C_call ?_|refine C_calld ?_
  refine Unseen_run l3 g3 f3 sW (ha3.grow GW) z3 fun D11 hg11 => ?_
  have hg11n := hg11.next; try simp only [AN] at hg11n
  rw [ex_u2]
  simp(maxSteps:=9999999)(disch:=first|omega|(simp only[AN];omega))only[hg11.get,hg10.get,hg9.get,hg8.get,hg7.get,hg6.get,hg5.get,hg4.get,hg3.get,hg2.get,hg1.get,b1,b2,b3,↓KP,EN,↓reduceIte,reduceCtorEq,Nat.reduceEqDiff,Nat.reduceAdd,Nat.reduceLeDiff,Nat.reduceMul]
  first|refine C_call ?_|refine C_calld ?_
  refine There_run l1 g1 f1 sS 2 0 (ha1.grow GW) z1 fun D12 hg12 => ?_
  have hg12n := hg12.next; try simp only [AN] at hg12n
  rw [ex_t4]
  simp(maxSteps:=9999999)(disch:=first|omega|(simp only[AN];omega))only[hg12.get,hg11.get,hg10.get,hg9.get,hg8.get,hg7.get,hg6.get,hg5.get,hg4.get,hg3.get,hg2.get,hg1.get,b1,b2,b3,↓KP,EN,↓reduceIte,reduceCtorEq,Nat.reduceEqDiff,Nat.reduceAdd,Nat.reduceLeDiff,Nat.reduceMul]
  have c1 : D12.get D4.next = some (.cells false [I 0, I 3]) := by simp(maxSteps:=9999999)(disch:=first|omega|(simp only[AN];omega))only[hg12.get,hg11.get,hg10.get,hg9.get,hg8.get,hg7.get,hg6.get,hg5.get,hg4.get,hg3.get,hg2.get,hg1.get,↓KP,EN,↓reduceIte,reduceCtorEq,Nat.reduceEqDiff,Nat.reduceAdd,Nat.reduceLeDiff,Nat.reduceMul]
  have c2 : D12.get D5.next = some (.cells false [I 1, I 2]) := by simp(maxSteps:=9999999)(disch:=first|omega|(simp only[AN];omega))only[hg12.get,hg11.get,hg10.get,hg9.get,hg8.get,hg7.get,hg6.get,hg5.get,hg4.get,hg3.get,hg2.get,hg1.get,↓KP,EN,↓reduceIte,reduceCtorEq,Nat.reduceEqDiff,Nat.reduceAdd,Nat.reduceLeDiff,Nat.reduceMul]
  have c3 : D12.get D6.next = some (.cells false [I 4, I 5]) := by simp(maxSteps:=9999999)(disch:=first|omega|(simp only[AN];omega))only[hg12.get,hg11.get,hg10.get,hg9.get,hg8.get,hg7.get,hg6.get,hg5.get,hg4.get,hg3.get,hg2.get,hg1.get,↓KP,EN,↓reduceIte,reduceCtorEq,Nat.reduceEqDiff,Nat.reduceAdd,Nat.reduceLeDiff,Nat.reduceMul]
  have hgD : Grew B D12 := GW
  have nD := hgD.next
  replace hv8 := hv8.grow EP.stays (((hg9.trans hg10).trans hg11).trans hg12)
  replace hv10 := hv10.grow EInt.stays (hg11.trans hg12)
  have n4 : D4.next < D12.next := by omega
  have n5 : D5.next < D12.next := by omega
  have n6 : D6.next < D12.next := by omega
  clear hg1 hg2 hg3 hg4 hg5 hg6 hg7 hg8 hg9 hg10 hg11 hg12 b1 b2 b3
  refine K_draw ?_
  simp(maxSteps:=9999999)(disch:=first|omega|(simp only[AN];omega))only[eqs2,c1,c2,c3,↓KP,EN,↓reduceIte,reduceCtorEq,Nat.reduceEqDiff,Nat.reduceAdd,Nat.reduceLeDiff,Nat.reduceMul]
  refine C_calld ?_
  refine span_run 0 3 fun E1 he1 => ?_
  have he1n:=he1.next;try simp only[AN]at he1n
  simp(maxSteps:=9999999)(disch:=first|omega|(simp only[AN];omega))only[eqs2,he1.get,c1,c2,c3,↓KP,EN,↓reduceIte,reduceCtorEq,Nat.reduceEqDiff,Nat.reduceAdd,Nat.reduceLeDiff,Nat.reduceMul]
  refine C_calld ?_
  refine span_run 1 2 fun E2 he2 => ?_
  have he2n:=he2.next;try simp only[AN]at he2n
  simp(maxSteps:=9999999)(disch:=first|omega|(simp only[AN];omega))only[eqs2,he2.get,he1.get,c1,c2,c3,↓KP,EN,↓reduceIte,reduceCtorEq,Nat.reduceEqDiff,Nat.reduceAdd,Nat.reduceLeDiff,Nat.reduceMul]
  refine C_calld ?_
  refine span_run 4 5 fun E3 he3 => ?_
  have he3n:=he3.next;try simp only[AN]at he3n
  simp(maxSteps:=9999999)(disch:=first|omega|(simp only[AN];omega))only[eqs2,he3.get,he2.get,he1.get,c1,c2,c3,↓KP,EN,↓reduceIte,reduceCtorEq,Nat.reduceEqDiff,Nat.reduceAdd,Nat.reduceLeDiff,Nat.reduceMul]
  refine C_calld ?_
  refine span_run 1 3 fun E4 he4 => ?_
  have he4n:=he4.next;try simp only[AN]at he4n
  simp(maxSteps:=9999999)(disch:=first|omega|(simp only[AN];omega))only[eqs2,he4.get,he3.get,he2.get,he1.get,c1,c2,c3,↓KP,EN,↓reduceIte,reduceCtorEq,Nat.reduceEqDiff,Nat.reduceAdd,Nat.reduceLeDiff,Nat.reduceMul]
  refine C_calld ?_
  refine span_run 0 3 fun E5 he5 => ?_
  have he5n:=he5.next;try simp only[AN]at he5n
  simp(maxSteps:=9999999)(disch:=first|omega|(simp only[AN];omega))only[eqs2,he5.get,he4.get,he3.get,he2.get,he1.get,c1,c2,c3,↓KP,EN,↓reduceIte,reduceCtorEq,Nat.reduceEqDiff,Nat.reduceAdd,Nat.reduceLeDiff,Nat.reduceMul]
  refine C_calld ?_
  have hD5 : Grew D12 E5 := (((he1.trans he2).trans he3).trans he4).trans he5
  refine Spans_run _ _ [(1, 3), (0, 3)] [(1, 3), (0, 3)] (hv8.grow EP.stays GW) (two_spans E5 (1, 3) (0, 3)) (by decide) ?_
  rw [decide_eq_true rfl]
  simp(maxSteps:=9999999)(disch:=first|omega|(simp only[AN];omega))only[eqs2,he5.get,he4.get,he3.get,he2.get,he1.get,c1,c2,c3,↓KP,EN,↓reduceIte,reduceCtorEq,Nat.reduceEqDiff,Nat.reduceAdd,Nat.reduceLeDiff,Nat.reduceMul]
  refine C_calld ?_
  refine Ints_run v10 _ [1] [1] (hv10.grow EInt.stays GW) (one_slice _ 1) (by decide) ?_
  simp(maxSteps:=9999999)(disch:=first|omega|(simp only[AN];omega))only[eqs2,he5.get,he4.get,he3.get,he2.get,he1.get,c1,c2,c3,↓KP,EN,↓reduceIte,reduceCtorEq,Nat.reduceEqDiff,Nat.reduceAdd,Nat.reduceLeDiff,Nat.reduceMul]
  exact k _ GW
end Go.Proofs.Ytihahmggfjjkjaa
namespace Go.Proofs.Ytihahmggfjjkjaa
open Go.AM Go.IntWalk Go.PL
set_option maxRecDepth 100000
set_option maxHeartbeats 4000000
set_option linter.unusedSimpArgs false
variable {H : AH} {R : AV → AH → Prop}
theorem cand_len {n m : Nat} {c : List Int} (h : c ∈ candTo n m) : c.length < m ∧ ∀ f ∈ c, 0 ≤ f ∧ f < n := by
  obtain ⟨k, hk, hc⟩ := List.mem_flatMap.1 h
  have := choicesE_mem hc
  have hk := List.mem_range.1 hk
  exact ⟨by omega, this.2⟩
theorem wrong_len (s : Series) : (wrongE s).1.length ≤ 4 := by
  unfold wrongE
  split
  · exact Nat.zero_le _
  · rename_i he
    have hf := fine_of (s := s) (Classical.not_not.1 he)
    have hfl := hf.fl
    cases hc : (candTo s.filled.length (s.filled.length + 1)).find? (goodE s) with
    | none => exact Nat.zero_le _
    | some c =>
      have := (cand_len (List.mem_of_find?_eq_some hc)).1
      show c.length ≤ 4
      omega
end Go.Proofs.Ytihahmggfjjkjaa
namespace Go.Proofs.Ytihahmggfjjkjaa
open Go.AM Go.IntWalk Go.PL
set_option maxRecDepth 100000
set_option maxHeartbeats 4000000
set_option linter.unusedSimpArgs false
variable {H : AH} {R : AV → AH → Prop}
theorem valid_run (vl vg vf : AV) (s : Series) (hh : IsSer (Old H) H vl vg vf s) (hs : Sized s) (k : ∀ H', Grew H H' → R (.bool (decide (errE s = 0))) H') : CallQ prog (.func 37 [] []) [serArg vl vg vf s] H R := by
  refine CallQ_enter (fn:=c37) rfl (Nat.le_of_ble_eq_true rfl) ?_;simp(maxSteps:=9999999)(disch:=first|omega|(simp only[AN];omega))only[c37,envFrom,hh.l.isCell,hh.g.isCell,hh.f.isCell,↓KP,EN,↓reduceIte,reduceCtorEq,Nat.reduceEqDiff,Nat.reduceAdd,Nat.reduceLeDiff,Nat.reduceMul]
  first|refine C_call ?_|refine C_calld ?_
  refine rCheck_run vl vg vf s (hh.grow GW) hs fun H1 hg1 => ?_
  have hg1n:=hg1.next;try simp only[AN]at hg1n
  simp(maxSteps:=9999999)(disch:=first|omega|(simp only[AN];omega))only[↓KP,EN,↓reduceIte,reduceCtorEq,Nat.reduceEqDiff,Nat.reduceAdd,Nat.reduceLeDiff,Nat.reduceMul]
  exact k _ GW
end Go.Proofs.Ytihahmggfjjkjaa
namespace Go.Proofs.Ytihahmggfjjkjaa
open Go.AM Go.IntWalk Go.PL
set_option maxRecDepth 100000
set_option maxHeartbeats 4000000
set_option linter.unusedSimpArgs false
variable {H : AH} {R : AV → AH → Prop}
theorem cand_facts : ∀ n, n ≤ 4 → (∀ i, i < (candTo n (n + 1)).length → ∀ j, j < (candTo n (n + 1)).length → fewerE ((candTo n (n + 1)).getD i []) ((candTo n (n + 1)).getD j []) = decide (i < j)) ∧ (∀ c ∈ candTo n (n + 1), risingE c (-1) n = true) := by
  decide +kernel
theorem bitsTo_mod' {x n : Nat} : ∀ m, m ≤ n → bitsTo x m = bitsTo (x % 2 ^ n) m
  | 0, _ => rfl
  | m + 1, h => by
    rw [bitsTo_succ, bitsTo_succ, bitsTo_mod' (n := n) m (by omega), Nat.testBit_mod_two_pow, decide_eq_true (show m < n by omega), Bool.true_and]
theorem bitsTo_mod {x n : Nat} : bitsTo x n = bitsTo (x % 2 ^ n) n := bitsTo_mod' n (Nat.le_refl _)
theorem bits_cand {x n : Nat} (hn : n ≤ 4) : bitsTo x n ∈ candTo n (n + 1) := by
  rw [bitsTo_mod]
  exact (cand_rank n hn).2.1 _ (Nat.mod_lt _ (Nat.two_pow_pos n))
theorem wrong_cases {s : Series} (he : errE s = 0) : (wrongE s = ([], 8) ∧ ∀ c ∈ candTo s.filled.length (s.filled.length + 1), goodE s c = false) ∨
    ∃ c, wrongE s = (c, 0) ∧ c ∈ candTo s.filled.length (s.filled.length + 1) ∧ goodE s c = true ∧ risingE c (-1) s.filled.length = true ∧ ∀ d ∈ candTo s.filled.length (s.filled.length + 1), goodE s d = true → fewerE d c = false := by
  have hfl := (fine_of he).fl
  obtain ⟨q1, q2⟩ := cand_facts _ hfl
  rw [wrongE, if_neg (fun h => h he)]
  generalize candTo s.filled.length (s.filled.length + 1) = C at *
  cases hf : C.find? (goodE s) with
  | none => exact .inl ⟨rfl, fun c hc => by simpa using List.find?_eq_none.1 hf c hc⟩
  | some c =>
    obtain ⟨hg, la, lb, e1, e2⟩ := List.find?_eq_some_iff_append.1 hf
    have hcm : c ∈ C := by rw [e1]; simp
    refine .inr ⟨c, rfl, hcm, hg, q2 c hcm, fun d hd hgd => ?_⟩
    obtain ⟨i, hi, hdi⟩ := List.getElem_of_mem hd
    have hrl : la.length < C.length := by rw [e1]; simp
    have hcl : C.getD la.length [] = c := by simp [e1]
    have hdc : C.getD i [] = d := by simp [hi, hdi]
    rw [← hcl, ← hdc, q1 _ hi _ hrl, decide_eq_false_iff_not]
    intro hlt
    have : C[i] ∈ la := by
      have : C[i]? = la[i]? := by rw [e1, List.getElem?_append_left hlt]
      rw [List.getElem?_eq_getElem hi, List.getElem?_eq_getElem hlt, Option.some.injEq] at this
      rw [this]; exact List.getElem_mem hlt
    have := e2 _ this
    rw [hdi, hgd] at this
    cases this
theorem full_cand {n : Nat} (hn : n ≤ 4) : ∀ k, k < n → (k : Int) ∈ bitsTo (2 ^ n - 1) n := fun k hk => by
  rw [bitsTo_mem hk, Nat.testBit_two_pow_sub_one]
  simpa using hk
theorem all_none {s : Series} (he : errE s = 0) (h : ∀ c ∈ candTo s.filled.length (s.filled.length + 1), goodE s c = false) : allE s = [] := by
  have hfl := (fine_of he).fl
  have hg := h _ (bits_cand (x := 2 ^ s.filled.length - 1) hfl)
  rw [goodE, decide_eq_false_iff_not, Classical.not_not] at hg
  rw [List.eq_nil_iff_forall_not_mem]
  intro t ht
  have : t ∈ truthsE s (bitsTo (2 ^ s.filled.length - 1) s.filled.length) := by
    rw [mem_truthsE]
    refine ⟨ht, ?_⟩
    rw [soE_eq, List.all_eq_true]
    intro k hk
    rw [soK, decide_eq_true (full_cand hfl k (by simpa using hk)), Bool.true_or]
  rw [hg] at this; cases this
theorem Fewest_run (vl vg vf : AV) (s : Series) (x : Nat) (hh : IsSer (Old H) H vl vg vf s) (hs : Sized s) (hx : x < 256) (k : ∀ H', Grew H H' → R (.bool true) H') : CallQ prog (.func 9 [] []) [serArg vl vg vf s, .int .u8 x] H R := by
  have lw := wrong_len s
  refine CallQ_enter (fn:=c9) rfl (Nat.le_of_ble_eq_true rfl) ?_;simp(maxSteps:=9999999)(disch:=first|omega|(simp only[AN];omega))only[c9,envFrom,hh.l.isCell,hh.g.isCell,hh.f.isCell,↓KP,EN,↓reduceIte,reduceCtorEq,Nat.reduceEqDiff,Nat.reduceAdd,Nat.reduceLeDiff,Nat.reduceMul]
  first|refine C_call ?_|refine C_calld ?_
  refine Wrong_run vl vg vf s (hh.grow GW) hs fun H1 va hg1 hva => ?_
  have hg1n := hg1.next; try simp only [AN] at hg1n
  simp(maxSteps:=9999999)(disch:=first|omega|(simp only[AN];omega))only[hg1.get,↓KP,EN,↓reduceIte,reduceCtorEq,Nat.reduceEqDiff,Nat.reduceAdd,Nat.reduceLeDiff,Nat.reduceMul]
  first|refine C_call ?_|refine C_calld ?_
  refine valid_run vl vg vf s (hh.grow GW) hs fun H2 hg2 => ?_
  have hg2n:=hg2.next;try simp only[AN]at hg2n
  have hbox : H2.get H.next = some (.cells false [vl, I s.lo, I s.hi, vg, .bool s.unseen, vf]) := by simp(maxSteps:=9999999)(disch:=first|omega|(simp only[AN];omega))only[hg2.get,hg1.get,↓KP,EN,↓reduceIte,reduceCtorEq,Nat.reduceEqDiff,Nat.reduceAdd,Nat.reduceLeDiff,Nat.reduceMul]
  have hg0 : Grew H H2 := GW
  replace hva := hva.grow EInt.stays hg2
  by_cases he : errE s = 0
  · have hfine := fine_of he
    have hfl := hfine.fl
    have hoc := bits_cand (x := x) hfl
    have hbl0 := bitsTo_length (j := x) (n := s.filled.length)
    have wx : IntKind.i64.wrap (x : Int) = (x : Int) := i64_in _ (by omega)
    have hcs := wrong_cases he
    have han := all_none he
    have htl := fun c => truthsE_length (but := c) hfine
    simp(maxSteps:=9999999)(disch:=first|omega|(simp only[AN];omega))only[eq_true he,↓KP,EN,↓reduceIte,reduceCtorEq,Nat.reduceEqDiff,Nat.reduceAdd,Nat.reduceLeDiff,Nat.reduceMul]
    generalize hN : s.filled.length = n at *
    refine K_loop (fun mz ez H4 => ∃ (i : Nat) (v7 : AV) (tail : Env), ez = (0, serArg vl vg vf s) :: (1, .int .u8 x) :: (2, .ptr H.next 0) :: (4, .bool false) :: (5, va) :: (6, I (wrongE s).2) :: tail ∧ (tail.get 7 = some v7) ∧ (tail.get 8 = some (I i)) ∧ (Grew H2 H4) ∧ (i ≤ n) ∧ (Mine 1 EInt (fun _ => False) H2.next H4 v7 (bitsTo x i)) ∧ mz = n - i) _ ⟨0, .nilslice, _, rfl, ?_, ?_, ?_, ?_, (by exact Mine.nil), rfl⟩ ?_
    iterate 4 (focus (first|(with_reducible rfl)|omega|(with_reducible(repeat first|exact Grew.refl _|assumption|apply Grew.alloc|refine Grew.set ?_ _ (by first|omega|(simp only[AN];omega)));done)|(simp(maxSteps:=9999999)(disch:=first|omega|(simp only[AN];omega))only[↓KP,EN,↓reduceIte,reduceCtorEq,Nat.reduceEqDiff,Nat.reduceAdd,Nat.reduceLeDiff,Nat.reduceMul]<;>first|omega|rfl)|(simp;done)|rfl))
    rintro mz ez H4 ⟨i, v7, tail, rfl, f7, f8, hG, hi, hv7, hmz⟩; subst mz; have hGn := hG.next
    simp(maxSteps:=9999999)(disch:=first|omega|(simp only[AN];omega))only[f8,hG.get,hbox,hh.f.len,hN,↓KP,EN,↓reduceIte,reduceCtorEq,Nat.reduceEqDiff,Nat.reduceAdd,Nat.reduceLeDiff,Nat.reduceMul]
    refine C_decide (fun hc => ?_) (fun hc => ?_)
    · have hi' : i < n := by omega
      have e1 : IntKind.i64.wrap ((i : Int) + 1) = ((i + 1 : Nat) : Int) := i64_in _ (by omega)
      have hbs := bitsTo_succ (j := x) (n := i)
      have hbl := bitsTo_length (j := x) (n := i)
      simp(maxSteps:=9999999)(disch:=first|omega|(simp only[AN];omega))only[f8,wx,↓KP,EN,↓reduceIte,reduceCtorEq,Nat.reduceEqDiff,Nat.reduceAdd,Nat.reduceLeDiff,Nat.reduceMul]
      first|refine C_call ?_|refine C_calld ?_
      refine Bit_run x i (by omega) (by omega) ?_
      cases hb : x.testBit i with
      | false =>
        rw [hb, if_neg (by simp), List.append_nil] at hbs
        simp(maxSteps:=9999999)(disch:=first|omega|(simp only[AN];omega))only[f7,f8,e1,↓KP,EN,↓reduceIte,reduceCtorEq,Nat.reduceEqDiff,Nat.reduceAdd,Nat.reduceLeDiff,Nat.reduceMul]
        refine ⟨_, ?_, i + 1, v7, _, rfl, ?_, ?_, ?_, ?_, (by rw [hbs]; exact hv7), rfl⟩ <;> (first|omega|(with_reducible assumption)|(with_reducible(repeat first|exact Grew.refl _|assumption|apply Grew.alloc|refine Grew.set ?_ _ (by first|omega|(simp only[AN];omega))|refine Grew.trans ?_ hG);done)|(simp(maxSteps:=9999999)(disch:=first|omega|(simp only[AN];omega))only[f7,f8,hG.get,↓KP,EN,↓reduceIte,reduceCtorEq,Nat.reduceEqDiff,Nat.reduceAdd,Nat.reduceLeDiff,Nat.reduceMul]<;>first|omega|rfl))
      | true =>
        rw [hb, if_pos rfl] at hbs
        obtain ⟨vb, H5, b1, b2, b3, b4⟩ := hv7.push (bytes := 8) (cs := [I (i : Int)]) (a := (i : Int)) (F := fun _ => False) EInt.stays hG.next rfl (fun _ h => h.elim) rfl rfl (by omega)
        simp(maxSteps:=9999999)(disch:=first|omega|(simp only[AN];omega))only[f7,f8,b1,e1,↓KP,EN,↓reduceIte,reduceCtorEq,Nat.reduceEqDiff,Nat.reduceAdd,Nat.reduceLeDiff,Nat.reduceMul]
        refine ⟨_, ?_, i + 1, vb, _, rfl, ?_, ?_, (by exact ⟨by have := hG.next; omega, fun b hb => by simp(maxSteps:=9999999)(disch:=first|omega|(simp only[AN];omega))only[b4,hG.get,↓KP,EN,↓reduceIte,reduceCtorEq,Nat.reduceEqDiff,Nat.reduceAdd,Nat.reduceLeDiff,Nat.reduceMul]⟩), ?_, (by rw [hbs]; exact b2), rfl⟩ <;> (first|omega|(with_reducible assumption)|(with_reducible(repeat first|exact Grew.refl _|assumption|apply Grew.alloc|refine Grew.set ?_ _ (by first|omega|(simp only[AN];omega)));done)|(simp(maxSteps:=9999999)(disch:=first|omega|(simp only[AN];omega))only[f8,↓KP,EN,↓reduceIte,reduceCtorEq,Nat.reduceEqDiff,Nat.reduceAdd,Nat.reduceLeDiff,Nat.reduceMul]<;>first|omega|rfl))
    · have hin : i = n := by omega
      subst hin
      have hv7s := hv7.sl EInt.stays
      have hva4 := hva.grow EInt.stays hG
      have hgo : goodE s (bitsTo x i) = decide (0 < ((truthsE s (bitsTo x i)).length : Int)) := by
        rw [goodE]; exact decide_eq_decide.2 (by rw [← List.length_pos_iff]; omega)
      generalize bitsTo x i = O at *
      simp(maxSteps:=9999999)(disch:=first|omega|(simp only[AN];omega))only[f7,hG.get,hbox,↓KP,EN,↓reduceIte,reduceCtorEq,Nat.reduceEqDiff,Nat.reduceAdd,Nat.reduceLeDiff,Nat.reduceMul]
      first|refine C_call ?_|refine C_calld ?_
      refine Truths_run vl vg vf v7 s O (hh.grow GW) hfine hv7s (by omega) fun H5 vt hg5 hvt => ?_
      have hg5n := hg5.next
      rcases hcs with ⟨hw, hno⟩ | ⟨c, hw, hcm, hgc, hri, hfew⟩
      · have ho := hno O hoc
        rw [ho] at hgo
        have hgo' : ¬ 0 < ((truthsE s O).length : Int) := of_decide_eq_false hgo.symm
        rw [hw] at hva4 ⊢
        have hval : ∀ S, opLen false va S = some (.int .i64 0, S) := hva4.len
        have e80 : ¬ (8 : Int) = 0 := by decide
        simp(maxSteps:=9999999)(disch:=first|omega|(simp only[AN];omega))only[hvt.len,hgo',e80,hval,hg5.get,hG.get,hbox,↓KP,EN,↓reduceIte,reduceCtorEq,Nat.reduceEqDiff,Nat.reduceAdd,Nat.reduceLeDiff,Nat.reduceMul]
        first|refine C_call ?_|refine C_calld ?_
        refine All_run vl vg vf s (hh.grow GW) hfine fun H6 vu hg6 hvu => ?_
        have hg6n := hg6.next
        rw [han hno] at hvu
        have hvul : ∀ S, opLen false vu S = some (.int .i64 0, S) := hvu.len
        simp(maxSteps:=9999999)(disch:=first|omega|(simp only[AN];omega))only[hvul,↓KP,EN,↓reduceIte,reduceCtorEq,Nat.reduceEqDiff,Nat.reduceAdd,Nat.reduceLeDiff,Nat.reduceMul]
        first|refine C_call ?_|refine C_calld ?_
        refine Awake_run fun H7 hg7 => ?_
        have hg7n:=hg7.next;try simp only[AN]at hg7n
        simp(maxSteps:=9999999)(disch:=first|omega|(simp only[AN];omega))only[↓KP,EN,↓reduceIte,reduceCtorEq,Nat.reduceEqDiff,Nat.reduceAdd,Nat.reduceLeDiff,Nat.reduceMul]
        exact k _ GW
      · rw [hw] at hva4 lw ⊢
        simp only at hva4 lw
        have hgc' : 0 < ((truthsE s c).length : Int) := by
          rw [goodE, decide_eq_true_eq, ← List.length_pos_iff] at hgc; omega
        simp(maxSteps:=9999999)(disch:=first|omega|(simp only[AN];omega))only[f7,hvt.len,hg5.get,hG.get,hbox,hh.f.len,hN,↓KP,EN,↓reduceIte,reduceCtorEq,Nat.reduceEqDiff,Nat.reduceAdd,Nat.reduceLeDiff,Nat.reduceMul]
        first|refine C_call ?_|refine C_calld ?_
        refine Rising_run va c i (hva4.grow EInt.stays GW) (by omega) (by omega) hri fun H6 hg6 => ?_
        have hg6n:=hg6.next;try simp only[AN]at hg6n
        simp(maxSteps:=9999999)(disch:=first|omega|(simp only[AN];omega))only[hg6.get,hg5.get,hG.get,hbox,↓KP,EN,↓reduceIte,reduceCtorEq,Nat.reduceEqDiff,Nat.reduceAdd,Nat.reduceLeDiff,Nat.reduceMul]
        first|refine C_call ?_|refine C_calld ?_
        refine Truths_run vl vg vf va s c (hh.grow GW) hfine (hva4.grow EInt.stays (hg5.trans hg6)) (by omega) fun H7 vu hg7 hvu => ?_
        have hg7n := hg7.next
        by_cases hgo' : 0 < ((truthsE s O).length : Int)
        · have hfe := hfew O hoc (by rw [hgo]; exact decide_eq_true hgo')
          have hol : O.length < 1000000000 := by omega
          simp(maxSteps:=9999999)(disch:=first|omega|(simp only[AN];omega))only[hvu.len,hgc',hgo',f7,↓KP,EN,↓reduceIte,reduceCtorEq,Nat.reduceEqDiff,Nat.reduceAdd,Nat.reduceLeDiff,Nat.reduceMul]
          first|refine C_call ?_|refine C_calld ?_
          refine Fewer_run v7 va O c (hv7s.grow EInt.stays ((hg5.trans hg6).trans hg7)) (hva4.grow EInt.stays ((hg5.trans hg6).trans hg7)) hol (by omega) ?_
          rw [hfe]
          simp(maxSteps:=9999999)(disch:=first|omega|(simp only[AN];omega))only[↓KP,EN,↓reduceIte,reduceCtorEq,Nat.reduceEqDiff,Nat.reduceAdd,Nat.reduceLeDiff,Nat.reduceMul]
          first|refine C_call ?_|refine C_calld ?_
          refine Awake_run fun H8 hg8 => ?_
          have hg8n:=hg8.next;try simp only[AN]at hg8n
          simp(maxSteps:=9999999)(disch:=first|omega|(simp only[AN];omega))only[↓KP,EN,↓reduceIte,reduceCtorEq,Nat.reduceEqDiff,Nat.reduceAdd,Nat.reduceLeDiff,Nat.reduceMul]
          exact k _ GW
        · simp(maxSteps:=9999999)(disch:=first|omega|(simp only[AN];omega))only[hvu.len,hgc',hgo',f7,↓KP,EN,↓reduceIte,reduceCtorEq,Nat.reduceEqDiff,Nat.reduceAdd,Nat.reduceLeDiff,Nat.reduceMul]
          first|refine C_call ?_|refine C_calld ?_
          refine Awake_run fun H8 hg8 => ?_
          have hg8n:=hg8.next;try simp only[AN]at hg8n
          simp(maxSteps:=9999999)(disch:=first|omega|(simp only[AN];omega))only[↓KP,EN,↓reduceIte,reduceCtorEq,Nat.reduceEqDiff,Nat.reduceAdd,Nat.reduceLeDiff,Nat.reduceMul]
          exact k _ GW
  · have hE : wrongE s = ([], errE s) := by rw [wrongE, if_pos he]
    rw [hE] at hva
    have hval : ∀ S, opLen false va S = some (.int .i64 0, S) := hva.len
    have n1 : ¬ (wrongE s).2 = 0 := by rw [hE]; exact he
    simp(maxSteps:=9999999)(disch:=first|omega|(simp only[AN];omega))only[he,n1,hval,↓KP,EN,↓reduceIte,reduceCtorEq,Nat.reduceEqDiff,Nat.reduceAdd,Nat.reduceLeDiff,Nat.reduceMul]
    first|refine C_call ?_|refine C_calld ?_
    refine Awake_run fun H8 hg8 => ?_
    have hg8n:=hg8.next;try simp only[AN]at hg8n
    simp(maxSteps:=9999999)(disch:=first|omega|(simp only[AN];omega))only[↓KP,EN,↓reduceIte,reduceCtorEq,Nat.reduceEqDiff,Nat.reduceAdd,Nat.reduceLeDiff,Nat.reduceMul]
    exact k _ GW
end Go.Proofs.Ytihahmggfjjkjaa
namespace Go.AM
theorem aop_alloc {call : ACall} {e : Env} {H H' : AH} {o : AOp} {v : AV} (hc : o.cls = .alloc) (h : aop call e H o = some (v, H')) : ∃ obj, H' = H.alloc obj := by
  cases o <;> simp only [AOp.cls, reduceCtorEq] at hc
  all_goals simp only [aop] at h
  all_goals
    try simp only [with1, withP, opAlloc, opBox, opMkslice, opMakeSlice] at h
    repeat' split at h
    all_goals first
      | (simp at h; done)
      | (simp only [Option.some.injEq, Prod.mk.injEq] at h; exact ⟨_, h.2.symm⟩)
theorem hasNat_mem : ∀ {l : List Nat} {t : Nat}, hasNat l t = true ↔ t ∈ l
  | [], t => by simp [hasNat]
  | k :: l, t => by
    simp only [hasNat, List.mem_cons]
    by_cases h : k = t
    · simp [h]
    · have h' : ¬ t = k := fun e => h e.symm
      simp [h, h', hasNat_mem]
def Chain (call : ACall) : List Step → Env → AH → Env → AH → Prop
  | [], e, H, e', H' => e = e' ∧ H = H'
  | s :: l, e, H, e', H' => s.env = e ∧ s.before = H ∧ s.o.wanted e = some s.want ∧ (s.want = true → aop call e H s.o.op = some (s.v, s.after)) ∧ (s.want = false → s.v = .tuple [] ∧ s.after = H) ∧ Chain call l (putDst e s.o.dst s.v) s.after e' H'
theorem aopsT_chain {call : ACall} : ∀ {os : List AOper} {e : Env} {H : AH} {L : List Step} {e' : Env} {H' : AH}, aopsT call os e H = some (L, e', H') → Chain call L e H e' H' ∧ L.map (·.o) = os
  | [], e, H, L, e', H', h => by
    simp only [aopsT, Option.some.injEq, Prod.mk.injEq] at h
    obtain ⟨rfl, rfl, rfl⟩ := h
    exact ⟨⟨rfl, rfl⟩, rfl⟩
  | o :: os, e, H, L, e', H', h => by
    simp only [aopsT] at h
    split at h
    · rename_i hw
      split at h
      · rename_i v H1 hop
        split at h
        · rename_i l r hl
          simp only [Option.some.injEq, Prod.mk.injEq] at h
          obtain ⟨rfl, rfl⟩ := h
          obtain ⟨h1, h2⟩ := aopsT_chain hl
          exact ⟨⟨rfl, rfl, hw, fun _ => hop, by simp, h1⟩, by simp [h2]⟩
        · simp at h
      · simp at h
    · rename_i hw
      split at h
      · rename_i l r hl
        simp only [Option.some.injEq, Prod.mk.injEq] at h
        obtain ⟨rfl, rfl⟩ := h
        obtain ⟨h1, h2⟩ := aopsT_chain hl
        exact ⟨⟨rfl, rfl, hw, by simp, fun _ => ⟨rfl, rfl⟩, h1⟩, by simp [h2]⟩
      · simp at h
    · simp at h
def envD (d : Step → Bool) : Env → List Step → Env
  | e, [] => e
  | e, s :: l => envD d (if d s then putDst e s.o.dst s.v else e) l
theorem get_putDst (e : Env) (d : Option Nat) (v : AV) (t : Nat) : (putDst e d v).get t = if d = some t then some v else e.get t := by
  cases d with
  | none => simp [putDst]
  | some k => simp [putDst, Env.get_put]
theorem envD_append (d : Step → Bool) : ∀ (l : List Step) (e : Env) (l' : List Step), envD d e (l ++ l') = envD d (envD d e l) l'
  | [], _, _ => rfl
  | s :: l, e, l' => by simp only [List.cons_append, envD]; exact envD_append d l _ l'
theorem envD_congr {d d' : Step → Bool} {t : Nat} : ∀ (l : List Step) {e e' : Env}, e.get t = e'.get t → (∀ x ∈ l, d x ≠ d' x → x.o.dst ≠ some t) → (envD d e l).get t = (envD d' e' l).get t
  | [], _, _, h, _ => h
  | s :: l, e, e', h, hx => by
    simp only [envD]
    refine envD_congr l ?_ fun x hm => hx x (by simp [hm])
    have h1 := hx s (by simp)
    by_cases hd : d s = d' s
    · rw [hd]
      cases d' s with
      | true => simp only [if_true]; rw [get_putDst, get_putDst, h]
      | false => simpa using h
    · have h2 := h1 hd
      have g1 : ∀ (c : Bool) (e : Env), (if c = true then putDst e s.o.dst s.v else e).get t = e.get t := fun c e => by
        cases c with
        | true => simp only [if_true]; rw [get_putDst, if_neg h2]
        | false => simp
      rw [g1, g1, h]
theorem envD_skip {d : Step → Bool} {t : Nat} (l : List Step) {e : Env} (h : ∀ x ∈ l, d x = true → x.o.dst ≠ some t) : (envD d e l).get t = e.get t := by
  have h0 : ∀ (l : List Step) (e : Env), envD (fun _ => false) e l = e := fun l => by
    induction l with
    | nil => intro e; rfl
    | cons s l ih => intro e; simp [envD, ih]
  rw [envD_congr (d' := fun _ => false) l (e' := e) rfl, h0]
  intro x hx hne
  exact h x hx (by cases hd : d x <;> simp_all)
theorem Chain.split {call : ACall} : ∀ {A R : List Step} {e : Env} {H : AH} {e' : Env} {H' : AH}, Chain call (A ++ R) e H e' H' → ∃ H1, Chain call A e H (envD (fun _ => true) e A) H1 ∧ Chain call R (envD (fun _ => true) e A) H1 e' H'
  | [], R, e, H, e', H', h => ⟨H, ⟨rfl, rfl⟩, h⟩
  | s :: A, R, e, H, e', H', h => by
    simp only [List.cons_append, Chain] at h
    obtain ⟨h1, h2, h3, h4, h5, h6⟩ := h
    obtain ⟨H1, k1, k2⟩ := Chain.split h6
    exact ⟨H1, ⟨h1, h2, h3, h4, h5, by simpa [envD] using k1⟩, by simpa [envD] using k2⟩
theorem Chain.end_ {call : ACall} : ∀ {A : List Step} {e : Env} {H : AH} {e' : Env} {H' : AH}, Chain call A e H e' H' → e' = envD (fun _ => true) e A
  | [], _, _, _, _, h => h.1.symm
  | s :: A, e, H, e', H', h => by
    simp only [Chain] at h
    have := Chain.end_ h.2.2.2.2.2
    simpa [envD] using this
def headOf (R : List Step) (H' : AH) : AH :=
  match R with
  | [] => H'
  | s :: _ => s.before
def effsOf (l : List Step) : List AOper := (l.filter (·.o.isEff)).map (·.o)
theorem stable_at {call : ACall} {all : List Step} {last : AH} : ∀ {A : List Step} {over : List AOper} {R : List Step}, stable call all over (A ++ R) last = true → (∀ s l, R = s :: l → s.o.isEff = true) → ∀ s ∈ all, stableIn call (headOf R last) (over ++ effsOf A) (effsOf R) s = true
  | [], over, [], h, _, s, hs => by
    simp only [List.nil_append, stable, List.all_eq_true] at h
    simpa [effsOf, headOf] using h s hs
  | [], over, r :: R, h, hR, s, hs => by
    have hr := hR r R rfl
    simp only [List.nil_append, stable, hr, if_true, Bool.and_eq_true, List.all_eq_true] at h
    have := h.1 s hs
    simpa [effsOf, headOf, hr] using this
  | a :: A, over, R, h, hR, s, hs => by
    simp only [List.cons_append, stable] at h
    by_cases ha : a.o.isEff = true
    · simp only [ha, if_true, Bool.and_eq_true] at h
      have := stable_at h.2 hR s hs
      simpa [effsOf, ha] using this
    · simp only [ha, Bool.false_eq_true, if_false] at h
      have := stable_at h hR s hs
      simpa [effsOf, ha] using this
structure Stat (P : Program) (call : ACall) (ops : Array Oper) (nt : Nat) (L : List Step) (e : Env) (H : AH) (e' : Env) (H' : AH) : Prop where
  mem : ∀ s ∈ L, ∃ o, ops[s.o.id]? = some o ∧ cOper P nt ops s.o.id s.o.pre o = some s.o
  cover : ∀ i, i < ops.size → ∃ s ∈ L, s.o.id = i
  nodup : L.Pairwise fun x y => x.o.id ≠ y.o.id
  edges : ∀ L1 s L2, L = L1 ++ s :: L2 → ∀ o, ops[s.o.id]? = some o → ∀ ed ∈ o.after, Region.binds .any ed = true → ∃ x ∈ L1, x.o.id = ed.on
  pre : ∀ s ∈ L, ∀ o, ops[s.o.id]? = some o → ∀ k, hasNat s.o.pre k = true → ∃ ed ∈ o.after, Region.binds .any ed = true ∧ (ed.on = k ∨ ∃ b ∈ L, b.o.id = ed.on ∧ hasNat b.o.pre k = true)
  pairs : L.Pairwise fun x y => pairOk x.o y.o = true
  chain : Chain call L e H e' H'
  stable : ∀ A R, L = A ++ R → (∀ s l, R = s :: l → s.o.isEff = true) → ∀ s ∈ L, stableIn call (headOf R H') (effsOf A) (effsOf R) s = true
def dn (listed : Array Bool) (s : Step) : Bool := listed.getD s.o.id false
def mkr (s : Step) : Prop := s.want = true ∧ s.o.op.cls = .alloc
structure Inv (P : Program) (base : Array Obj) (ops : Array Oper) (nt : Nat) (L : List Step) (e : Env) (H : AH) (w0 : World) (m0 : CM) (H' : AH) (listed : Array Bool) (a : Act) (w : World) (m : CM) (A R : List Step) : Prop where
  size : listed.size = ops.size
  nt : a.tmps.size = nt
  split : L = A ++ R
  doneA : ∀ s ∈ A, s.o.isEff = true → dn listed s = true
  headR : ∀ s l, R = s :: l → s.o.isEff = true ∧ dn listed s = false
  pre : ∀ s ∈ L, dn listed s = true → ∀ k, hasNat s.o.pre k = true → listed.getD k false = true
  rel : Rel P base m (headOf R H') w
  ext : Ext m0 H w0 m (headOf R H') w
  env : EnvR m (envD (dn listed) e L) a.tmps
  room : ∀ s ∈ A, mkr s → H.next ≤ s.before.next ∧ s.before.next < (headOf R H').next
  apart : ∀ s ∈ A, ∀ s' ∈ A, mkr s → mkr s' → s.o.id ≠ s'.o.id → s.before.next ≠ s'.before.next
  unreal : ∀ s ∈ A, mkr s → dn listed s = false → m s.before.next = none ∧ (headOf R H').get s.before.next = s.after.get s.before.next
section
variable {P : Program} {base : Array Obj} {m m0 : CM} {H H' : AH} {w w0 : World} {nt : Nat} {e e' : Env} {a : Act} {v : AV} {F : Fence} {n : Nat} {call : ACall} {ops : Array Oper} {L : List Step} {listed : Array Bool} {A R : List Step}
theorem dn_set {s x : Step} (hlt : s.o.id < listed.size) : dn (listed.setIfInBounds s.o.id true) x = if x.o.id = s.o.id then true else dn listed x := by
  unfold dn
  by_cases h : x.o.id = s.o.id
  · rw [h, if_pos rfl]; simp [hlt]
  · rw [if_neg h, getD_set_ne false (fun e => h e.symm)]
theorem walk_quiet (hS : Rel P base m H w) : ∀ {N : List Step} {e e1 : Env} {H H1 : AH}, Chain call N e H e1 H1 → (∀ s ∈ N, s.o.isEff = false) → Rel P base m H w → Rel P base m H1 w ∧ Ext m H w m H1 w ∧
    (∀ s ∈ N, mkr s → H.next ≤ s.before.next ∧ s.before.next < H1.next ∧ m s.before.next = none ∧ H1.get s.before.next = s.after.get s.before.next) ∧
    N.Pairwise fun x y => mkr x → mkr y → x.before.next ≠ y.before.next
  | [], e, e1, H, H1, h, _, hr => by
    obtain ⟨rfl, rfl⟩ := h
    exact ⟨hr, Ext.refl _ _ _, by simp, .nil⟩
  | s :: N, e, e1, H, H1, h, hq, hr => by
    simp only [Chain] at h
    obtain ⟨h1, h2, h3, h4, h5, h6⟩ := h
    have hne := hq s (by simp)
    have key : (s.after = H ∧ ¬ mkr s) ∨ ∃ obj, s.after = H.alloc obj := by
      cases hw : s.want with
      | false => exact .inl ⟨(h5 hw).2, fun hm => by rw [hm.1] at hw; cases hw⟩
      | true =>
        have h4 := h4 hw
        cases hcl : s.o.op.cls with
        | pure => exact .inl ⟨(aop_pure hcl h4).1, fun hm => by rw [hm.2] at hcl; cases hcl⟩
        | load => exact .inl ⟨aop_load hcl h4, fun hm => by rw [hm.2] at hcl; cases hcl⟩
        | alloc => exact .inr (aop_alloc hcl h4)
        | eff => simp [AOper.isEff, hcl] at hne
    have step : Rel P base m s.after w ∧ Ext m H w m s.after w ∧ (mkr s → s.after.next = H.next + 1) := by
      rcases key with ⟨hk, hnm⟩ | ⟨obj, hk⟩
      · rw [hk]; exact ⟨hr, Ext.refl _ _ _, fun hm => absurd hm hnm⟩
      · rw [hk]; exact ⟨hr.unreal obj, Ext.unreal' obj (hr.top _ (Nat.le_refl _)), fun _ => rfl⟩
    obtain ⟨r1, r2, r3, r4⟩ := walk_quiet hS h6 (fun x hx => hq x (by simp [hx])) step.1
    refine ⟨r1, step.2.1.trans r2, fun x hx hm => ?_, ?_⟩
    · rcases List.mem_cons.1 hx with rfl | hx
      · have hn := step.2.2 hm
        have hmn : m H.next = none := hr.top _ (Nat.le_refl _)
        rw [h2]
        refine ⟨Nat.le_refl _, ?_, hmn, ?_⟩
        · have := r2.next; omega
        · exact (r2.unreal H.next (by omega) hmn).2
      · obtain ⟨k1, k2, k3, k4⟩ := r3 x hx hm
        exact ⟨Nat.le_trans step.2.1.next k1, k2, k3, k4⟩
    · refine List.pairwise_cons.2 ⟨fun y hy hmx hmy => ?_, r4⟩
      have hn := step.2.2 hmx
      have := (r3 y hy hmy).1
      rw [h2]; omega
theorem quiet_split : ∀ (R : List Step), ∃ N R', R = N ++ R' ∧ (∀ s ∈ N, s.o.isEff = false) ∧ (∀ s l, R' = s :: l → s.o.isEff = true)
  | [] => ⟨[], [], rfl, by simp, by simp⟩
  | s :: R => by
    by_cases h : s.o.isEff = true
    · exact ⟨[], s :: R, rfl, by simp, fun x l hx => by cases hx; exact h⟩
    · obtain ⟨N, R', h1, h2, h3⟩ := quiet_split R
      refine ⟨s :: N, R', by rw [h1]; rfl, fun x hx => ?_, h3⟩
      rcases List.mem_cons.1 hx with rfl | hx
      · simpa using h
      · exact h2 x hx
theorem headOf_chain {R : List Step} {e e' : Env} {H1 H' : AH} (h : Chain call R e H1 e' H') : headOf R H' = H1 := by
  cases R with
  | nil => exact h.2.symm
  | cons s R => exact h.2.1
theorem around (hst : Stat P call ops nt L e H e' H') (hi : Inv P base ops nt L e H w0 m0 H' listed a w m A R) {L1 L2 : List Step} {s : Step} (hL : L = L1 ++ s :: L2) (hu : dn listed s = false)
    (hready : ∀ k, hasNat s.o.pre k = true → listed.getD k false = true) :
    (∀ x ∈ L1, dn listed x = false → clash x.o s.o = false ∧ (x.o.isEff && (s.o.isEff || decide (s.o.op.cls = .alloc))) = false) ∧
    (∀ y ∈ L2, dn listed y = true → clash s.o y.o = false ∧ (s.o.isEff && (y.o.isEff || decide (y.o.op.cls = .alloc))) = false) ∧
    (∀ x ∈ L, x.o.id = s.o.id → x = s) := by
  have hp := hst.pairs
  have hn := hst.nodup
  rw [hL] at hp hn
  obtain ⟨p1, p2, p3⟩ := List.pairwise_append.1 hp
  obtain ⟨n1, n2, n3⟩ := List.pairwise_append.1 hn
  obtain ⟨q1, q2⟩ := List.pairwise_cons.1 p2
  obtain ⟨o1, o2⟩ := List.pairwise_cons.1 n2
  refine ⟨fun x hx hxu => ?_, fun y hy hyd => ?_, fun x hx hid => ?_⟩
  · have := p3 x hx s (by simp)
    simp only [pairOk, Bool.or_eq_true, Bool.and_eq_true, Bool.not_eq_true'] at this
    rcases this with h | h
    · have := hready _ h
      unfold dn at hxu
      rw [this] at hxu; cases hxu
    · exact h
  · have := q1 y hy
    simp only [pairOk, Bool.or_eq_true, Bool.and_eq_true, Bool.not_eq_true'] at this
    rcases this with h | h
    · have := hi.pre y (by rw [hL]; simp [hy]) hyd _ h
      unfold dn at hu
      rw [this] at hu; cases hu
    · exact h
  · rw [hL] at hx
    rcases List.mem_append.1 hx with h | h
    · exact absurd hid (n3 x h s (by simp))
    · rcases List.mem_cons.1 h with rfl | h
      · rfl
      · exact absurd hid.symm (o1 x h)
theorem clash_reads {x s : AOper} (h : clash x s = false) : (∀ t, x.dst = some t → t ∉ s.reads ∧ s.dst ≠ some t) ∧ (∀ t, s.dst = some t → t ∉ x.reads) := by
  simp only [clash, Bool.or_eq_false_iff] at h
  refine ⟨fun t ht => ?_, fun t ht => ?_⟩
  · have := h.1
    rw [ht] at this
    simp only [Bool.or_eq_false_iff, decide_eq_false_iff_not] at this
    exact ⟨fun hm => by rw [hasNat_mem.2 hm] at this; exact absurd this.1 (by simp), this.2⟩
  · have := h.2
    rw [ht] at this
    simp only at this
    exact fun hm => by rw [hasNat_mem.2 hm] at this; cases this
theorem reads_same (hst : Stat P call ops nt L e H e' H') (hi : Inv P base ops nt L e H w0 m0 H' listed a w m A R) {L1 L2 : List Step} {s : Step} (hL : L = L1 ++ s :: L2) (hu : dn listed s = false)
    (hready : ∀ k, hasNat s.o.pre k = true → listed.getD k false = true) : ∀ t ∈ s.o.reads, (envD (dn listed) e L).get t = s.env.get t := by
  obtain ⟨h1, h2, _⟩ := around hst hi hL hu hready
  intro t ht
  have hc := hst.chain
  rw [hL] at hc
  obtain ⟨H1, c1, c2⟩ := hc.split
  have hse : s.env = envD (fun _ => true) e L1 := c2.1
  rw [hL, envD_append, envD, hu]
  simp only [Bool.false_eq_true, if_false]
  rw [envD_skip L2 fun y hy hyd hdst => ((clash_reads (h2 y hy hyd).1).2 t hdst) ht, hse]
  refine envD_congr L1 rfl fun x hx hne hdst => ?_
  have hxu : dn listed x = false := by cases hd : dn listed x <;> simp_all
  exact ((clash_reads (h1 x hx hxu).1).1 t hdst).1 ht
theorem env_done (hst : Stat P call ops nt L e H e' H') (hi : Inv P base ops nt L e H w0 m0 H' listed a w m A R) {L1 L2 : List Step} {s : Step} (hL : L = L1 ++ s :: L2) (hu : dn listed s = false)
    (hready : ∀ k, hasNat s.o.pre k = true → listed.getD k false = true) (hlt : s.o.id < listed.size) (t : Nat) :
    (envD (dn (listed.setIfInBounds s.o.id true)) e L).get t = (putDst (envD (dn listed) e L) s.o.dst s.v).get t := by
  obtain ⟨h1, h2, h3⟩ := around hst hi hL hu hready
  have hds : dn (listed.setIfInBounds s.o.id true) s = true := by rw [dn_set hlt, if_pos rfl]
  have hdx : ∀ x ∈ L, x ≠ s → dn (listed.setIfInBounds s.o.id true) x = dn listed x := fun x hx hne => by
    rw [dn_set hlt, if_neg fun hid => hne (h3 x hx hid)]
  rw [get_putDst]
  by_cases hd : s.o.dst = some t
  · rw [if_pos hd, hL, envD_append, envD, hds]
    simp only [if_true]
    rw [envD_skip L2, get_putDst, if_pos hd]
    intro y hy hyd hdst
    by_cases hys : y = s
    · have hn := hst.nodup
      rw [hL] at hn
      obtain ⟨n1, n2, n3⟩ := List.pairwise_append.1 hn
      exact (List.pairwise_cons.1 n2).1 y hy (by rw [hys])
    · rw [hdx y (by rw [hL]; simp [hy]) hys] at hyd
      exact ((clash_reads (h2 y hy hyd).1).1 t hd).2 hdst
  · rw [if_neg hd]
    refine envD_congr L rfl fun x hx hne => ?_
    by_cases hxs : x = s
    · rw [hxs]; exact hd
    · exact absurd (hdx x hx hxs) hne
theorem pairwise_sym {α : Type} {R : α → α → Prop} (hs : ∀ x y, R x y → R y x) : ∀ {l : List α}, l.Pairwise R → ∀ x ∈ l, ∀ y ∈ l, x ≠ y → R x y
  | [], _, x, hx, _, _, _ => by simp at hx
  | a :: l, h, x, hx, y, hy, hne => by
    obtain ⟨h1, h2⟩ := List.pairwise_cons.1 h
    rcases List.mem_cons.1 hx with hx1 | hx1
    · rcases List.mem_cons.1 hy with hy1 | hy1
      · exact absurd (hx1.trans hy1.symm) hne
      · rw [hx1]; exact h1 y hy1
    · rcases List.mem_cons.1 hy with hy1 | hy1
      · rw [hy1]; exact hs _ _ (h1 x hx1)
      · exact pairwise_sym hs h2 x hx1 y hy1 hne
theorem pre_done (hst : Stat P call ops nt L e H e' H') (hi : Inv P base ops nt L e H w0 m0 H' listed a w m A R) {s : Step} (hs : s ∈ L) {o : Oper} (ho : ops[s.o.id]? = some o)
    (hr : ∀ ed ∈ o.after, Region.binds .any ed = true → listed.getD ed.on false = true) : ∀ k, hasNat s.o.pre k = true → listed.getD k false = true := by
  intro k hk
  obtain ⟨ed, h1, h2, h3⟩ := hst.pre s hs o ho k hk
  have hd := hr ed h1 h2
  rcases h3 with rfl | ⟨b, hb, hid, hbk⟩
  · exact hd
  · exact hi.pre b hb (by unfold dn; rw [hid]; exact hd) k hbk
theorem Inv.quiet (hst : Stat P call ops nt L e H e' H') (hi : Inv P base ops nt L e H w0 m0 H' listed a w m A R) {L1 L2 : List Step} {s : Step} (hL : L = L1 ++ s :: L2) (hu : dn listed s = false)
    (hready : ∀ k, hasNat s.o.pre k = true → listed.getD k false = true) (hlt : s.o.id < ops.size) (hq : s.o.isEff = false) (hdst : cDst nt s.o.dst = true) {m' : CM} {w' : World} {u : Value} (hv : VR m' s.v u) (hle : m.le m')
    (hr : Rel P base m' (headOf R H') w') (hx : Ext m0 H w0 m' (headOf R H') w') (hm : ∀ r, r < (headOf R H').next → m r = none → (mkr s → s ∈ A ∧ r ≠ s.before.next) → m' r = none) :
    (mkr s → s ∈ A) → Inv P base ops nt L e H w0 m0 H' (listed.setIfInBounds s.o.id true) (a.put s.o.dst u) w' m' A R := by
  intro hsA
  have hlt' : s.o.id < listed.size := by rw [hi.size]; exact hlt
  obtain ⟨_, _, huniq⟩ := around hst hi hL hu hready
  have hAL : ∀ x ∈ A, x ∈ L := fun x h => by rw [hi.split]; simp [h]
  refine ⟨by simp [hi.size], by rw [Act.put_size]; exact hi.nt, hi.split, fun x hx he => ?_, fun x l hR => ?_, fun x hx hd k hk => ?_, hr, hx, fun t v hv' => ?_, hi.room, hi.apart, fun x hx hmk hd => ?_⟩
  · rw [dn_set hlt']; split
    · rfl
    · exact hi.doneA x hx he
  · obtain ⟨h1, h2⟩ := hi.headR x l hR
    refine ⟨h1, ?_⟩
    have hxL : x ∈ L := by rw [hi.split, hR]; simp
    rw [dn_set hlt', if_neg]
    · exact h2
    · intro hid
      rw [huniq x hxL hid] at h1
      rw [h1] at hq; cases hq
  · rw [dn_set hlt'] at hd
    by_cases hid : x.o.id = s.o.id
    · rw [huniq x hx hid] at hk
      exact getD_set_true (hready k hk)
    · rw [if_neg hid] at hd
      exact getD_set_true (hi.pre x hx hd k hk)
  · rw [env_done hst hi hL hu hready hlt'] at hv'
    exact (hi.env.mono hle).putDst (by rw [hi.nt]; exact hdst) hv t v hv'
  · rw [dn_set hlt'] at hd
    by_cases hid : x.o.id = s.o.id
    · rw [if_pos hid] at hd; cases hd
    · rw [if_neg hid] at hd
      obtain ⟨h1, h2⟩ := hi.unreal x hx hmk hd
      refine ⟨hm _ (hi.room x hx hmk).2 h1 fun hms => ⟨hsA hms, hi.apart x hx s (hsA hms) hmk hms hid⟩, h2⟩
theorem Inv.effect (hst : Stat P call ops nt L e H e' H') (hi : Inv P base ops nt L e H w0 m0 H' listed a w m A R) {s : Step} {R0 : List Step} (hR : R = s :: R0) (hu : dn listed s = false)
    (hready : ∀ k, hasNat s.o.pre k = true → listed.getD k false = true) (hlt : s.o.id < ops.size) (hq : s.o.isEff = true) (hdst : cDst nt s.o.dst = true) {m' : CM} {w' : World} {u : Value} (hv : VR m' s.v u)
    (hr : Rel P base m' s.after w') (hx : Ext m (headOf R H') w m' s.after w') :
    ∃ A' R', Inv P base ops nt L e H w0 m0 H' (listed.setIfInBounds s.o.id true) (a.put s.o.dst u) w' m' A' R' := by
  have hlt' : s.o.id < listed.size := by rw [hi.size]; exact hlt
  have hL : L = A ++ s :: R0 := by rw [hi.split, hR]
  obtain ⟨_, _, huniq⟩ := around hst hi hL hu hready
  obtain ⟨N, R', hN, hNq, hRe⟩ := quiet_split R0
  have hc := hst.chain
  rw [hL] at hc
  obtain ⟨H1, _, c2⟩ := hc.split
  have c3 := c2.2.2.2.2.2
  rw [hN] at c3
  obtain ⟨H2, c4, c5⟩ := c3.split
  have hH2 : headOf R' H' = H2 := headOf_chain c5
  obtain ⟨r1, r2, r3, r4⟩ := walk_quiet hr c4 hNq hr
  have hx2 : Ext m (headOf R H') w m' H2 w' := hx.trans r2
  have hnms : ¬ mkr s := fun hm => by
    have := hm.2
    simp only [AOper.isEff, decide_eq_true_eq] at hq
    rw [this] at hq; cases hq
  have hmem : ∀ x, x ∈ A ++ s :: N → mkr x → x ∈ A ∨ x ∈ N := fun x h hm => by
    rcases List.mem_append.1 h with h | h
    · exact .inl h
    · rcases List.mem_cons.1 h with rfl | h
      · exact absurd hm hnms
      · exact .inr h
  have hn1 := hx.next
  have hn2 := r2.next
  have hn3 := hi.ext.next
  refine ⟨A ++ s :: N, R', by simp [hi.size], by rw [Act.put_size]; exact hi.nt, by rw [hL, hN]; simp, fun x hx' he => ?_, fun x l hR' => ?_, fun x hx' hd k hk => ?_, by rw [hH2]; exact r1, by rw [hH2]; exact hi.ext.trans hx2, fun t v hv' => ?_, fun x hx' hmk => ?_, fun x hx' y hy' hmx hmy hne => ?_, fun x hx' hmk hd => ?_⟩
  · rw [dn_set hlt']
    rcases List.mem_append.1 hx' with h | h
    · split
      · rfl
      · exact hi.doneA x h he
    · rcases List.mem_cons.1 h with rfl | h
      · rw [if_pos rfl]
      · rw [hNq x h] at he; cases he
  · have hxe := hRe x l hR'
    refine ⟨hxe, ?_⟩
    have hp := hst.pairs
    have hn := hst.nodup
    rw [hL] at hp hn
    have hxR0 : x ∈ R0 := by rw [hN, hR']; simp
    have hp1 := (List.pairwise_cons.1 (List.pairwise_append.1 hp).2.1).1 x hxR0
    have hn1 := (List.pairwise_cons.1 (List.pairwise_append.1 hn).2.1).1 x hxR0
    rw [dn_set hlt', if_neg (fun h => hn1 h.symm)]
    simp only [pairOk, hq, hxe, Bool.or_eq_true, Bool.and_eq_true, Bool.not_eq_true', Bool.true_or, Bool.and_self, Bool.true_eq_false, and_false, or_false] at hp1
    cases hd : dn listed x with
    | false => rfl
    | true =>
      have := hi.pre x (by rw [hL]; simp [hxR0]) hd _ hp1
      unfold dn at hu
      rw [this] at hu; cases hu
  · rw [dn_set hlt'] at hd
    by_cases hid : x.o.id = s.o.id
    · rw [huniq x hx' hid] at hk
      exact getD_set_true (hready k hk)
    · rw [if_neg hid] at hd
      exact getD_set_true (hi.pre x hx' hd k hk)
  · rw [env_done hst hi hL hu hready hlt'] at hv'
    exact (hi.env.mono hx2.le).putDst (by rw [hi.nt]; exact hdst) hv t v hv'
  · rw [hH2]
    rcases hmem x hx' hmk with h | h
    · have := hi.room x h hmk; omega
    · have := r3 x h hmk; omega
  · rcases hmem x hx' hmx with h | h
    · rcases hmem y hy' hmy with h' | h'
      · exact hi.apart x h y h' hmx hmy hne
      · have := hi.room x h hmx; have := r3 y h' hmy; omega
    · rcases hmem y hy' hmy with h' | h'
      · have := hi.room y h' hmy; have := r3 x h hmx; omega
      · exact pairwise_sym (fun x y h a b => (h b a).symm) r4 x h y h' (fun e => hne (by rw [e])) hmx hmy
  · rw [hH2]
    rcases hmem x hx' hmk with h | h
    · rw [dn_set hlt'] at hd
      by_cases hid : x.o.id = s.o.id
      · rw [if_pos hid] at hd; cases hd
      · rw [if_neg hid] at hd
        obtain ⟨h1, h2⟩ := hi.unreal x h hmk hd
        obtain ⟨h3, h4⟩ := hx2.unreal _ (hi.room x h hmk).2 h1
        exact ⟨h3, h4.trans h2⟩
    · exact ⟨(r3 x h hmk).2.2.1, (r3 x h hmk).2.2.2⟩
theorem Inv.start (hst : Stat P call ops nt L e H e' H') (hr : Rel P base m H w) (he : EnvR m e a.tmps) (hnt : a.tmps.size = nt) : ∃ A R, Inv P base ops nt L e H w m H' (Array.replicate ops.size false) a w m A R := by
  obtain ⟨N, R', hN, hNq, hRe⟩ := quiet_split L
  have hc := hst.chain
  rw [hN] at hc
  obtain ⟨H2, c4, c5⟩ := hc.split
  have hH2 : headOf R' H' = H2 := headOf_chain c5
  obtain ⟨r1, r2, r3, r4⟩ := walk_quiet hr c4 hNq hr
  have hd0 : ∀ k, (Array.replicate ops.size false).getD k false = false := fun k => by
    simp only [Array.getD]; split <;> simp
  have hd : ∀ x, dn (Array.replicate ops.size false) x = false := fun x => hd0 _
  refine ⟨N, R', by simp, hnt, hN, fun x hx h => (by rw [hNq x hx] at h; cases h), fun x l h => ⟨hRe x l h, hd x⟩, fun x _ h => (by rw [hd] at h; cases h), by rw [hH2]; exact r1, by rw [hH2]; exact r2, fun t v hv => ?_, fun x hx hm => ?_, fun x hx y hy hmx hmy hne => ?_, fun x hx hm _ => ?_⟩
  · rw [envD_skip L (fun x _ h => by rw [hd] at h; cases h)] at hv
    exact he t v hv
  · rw [hH2]; have := r3 x hx hm; omega
  · exact pairwise_sym (fun x y h a b => (h b a).symm) r4 x hx y hy (fun e => hne (by rw [e])) hmx hmy
  · rw [hH2]; exact ⟨(r3 x hx hm).2.2.1, (r3 x hx hm).2.2.2⟩
theorem first_undone (d : Step → Bool) : ∀ (L : List Step), (∀ s ∈ L, d s = true) ∨ ∃ L1 s L2, L = L1 ++ s :: L2 ∧ (∀ x ∈ L1, d x = true) ∧ d s = false
  | [] => .inl (by simp)
  | s :: L => by
    cases hd : d s with
    | false => exact .inr ⟨[], s, L, rfl, by simp, hd⟩
    | true =>
      rcases first_undone d L with h | ⟨L1, x, L2, h1, h2, h3⟩
      · exact .inl fun x hx => by
          rcases List.mem_cons.1 hx with rfl | hx
          · exact hd
          · exact h x hx
      · refine .inr ⟨s :: L1, x, L2, by rw [h1]; rfl, fun y hy => ?_, h3⟩
        rcases List.mem_cons.1 hy with rfl | hy
        · exact hd
        · exact h2 y hy
theorem all_done (hst : Stat P call ops nt L e H e' H') (hsz : listed.size = ops.size) (h : Region.ready .any ops listed = []) : ∀ s ∈ L, dn listed s = true := by
  rcases first_undone (dn listed) L with h1 | ⟨L1, s, L2, h1, h2, h3⟩
  · exact h1
  · exfalso
    obtain ⟨o, ho, _⟩ := hst.mem s (by rw [h1]; simp)
    have : s.o.id ∈ Region.ready .any ops listed := by
      rw [mem_ready]
      refine ⟨?_, o, ho, fun ed hed hb => ?_⟩
      · have hlt : s.o.id < listed.size := by rw [hsz]; exact (Array.getElem?_eq_some_iff.1 ho).1
        unfold dn at h3
        simpa [Array.getD, hlt] using h3
      · obtain ⟨x, hx, hid⟩ := hst.edges L1 s L2 h1 o ho ed hed hb
        have := h2 x hx
        unfold dn at this
        rw [hid] at this; exact this
    rw [h] at this; simp at this
def undone (listed : Array Bool) (L : List Step) : Nat := L.countP fun s => !dn listed s
theorem undone_less {s : Step} (hs : s ∈ L) (hu : dn listed s = false) (hlt : s.o.id < listed.size) : undone (listed.setIfInBounds s.o.id true) L < undone listed L := by
  unfold undone
  induction L with
  | nil => simp at hs
  | cons x l ih =>
    have hle : ∀ l : List Step, l.countP (fun s' => !dn (listed.setIfInBounds s.o.id true) s') ≤ l.countP (fun s' => !dn listed s') := fun l => by
      refine List.countP_mono_left fun y _ hy => ?_
      rw [dn_set hlt] at hy
      split at hy
      · simp at hy
      · exact hy
    simp only [List.countP_cons]
    rcases List.mem_cons.1 hs with rfl | hs
    · have h1 : dn (listed.setIfInBounds s.o.id true) s = true := by rw [dn_set hlt, if_pos rfl]
      rw [h1, hu]
      have := hle l
      simp; omega
    · have h1 := ih hs
      have h2 : dn listed x = true → dn (listed.setIfInBounds s.o.id true) x = true := fun h => by
        rw [dn_set hlt]; split
        · rfl
        · exact h
      cases hx : dn listed x with
      | true => rw [h2 hx]; simpa using h1
      | false =>
        cases hy : dn (listed.setIfInBounds s.o.id true) x <;> simp <;> omega
theorem wanted_congr {e1 e2 : Env} {o : AOper} (h : ∀ t ∈ o.reads, e1.get t = e2.get t) : o.wanted e1 = o.wanted e2 := by
  unfold AOper.wanted
  cases hg : o.guard with
  | none => rfl
  | some p =>
    obtain ⟨t, want⟩ := p
    simp only
    rw [h t (by simp [AOper.reads, hg])]
theorem op_congr {e1 e2 : Env} {o : AOper} (h : ∀ t ∈ o.reads, e1.get t = e2.get t) : aop call e1 H o.op = aop call e2 H o.op :=
  aop_congr fun t ht => h t (by unfold AOper.reads; cases o.guard <;> simp [ht])
theorem draw_go (hS : SimCall P call) (hF : WideF F) {Q : Exit → Act → World → Prop} {a0 : Act} (hst : Stat P call ops nt L e H e' H')
    (hq : ∀ m' a' w', Rel P base m' H' w' → Ext m0 H w0 m' H' w' → EnvR m' e' a'.tmps → a'.tmps.size = nt → a'.defers = a0.defers → Q .normal a' w') :
    ∀ (fuel : Nat) (listed : Array Bool) (a : Act) (w : World) (m : CM) (A R : List Step), Inv P base ops nt L e H w0 m0 H' listed a w m A R → a.defers = a0.defers → undone listed L ≤ fuel → wpAnyIn F n P .any ops Q fuel listed a w := by
  have hnone : ∀ {listed : Array Bool} {a : Act} {w : World} {m : CM} {A R : List Step}, Inv P base ops nt L e H w0 m0 H' listed a w m A R → a.defers = a0.defers → Region.ready .any ops listed = [] → Q .normal a w := by
    intro listed a w m A R hi hdf hr
    have hall := all_done hst hi.size hr
    have hR : R = [] := by
      cases R with
      | nil => rfl
      | cons s l =>
        have h1 := (hi.headR s l rfl).2
        rw [hall s (by rw [hi.split]; simp)] at h1; cases h1
    have hrel := hi.rel
    have hext := hi.ext
    rw [hR] at hrel hext
    refine hq m a w hrel hext (fun t v hv => ?_) hi.nt hdf
    have he' := hst.chain.end_
    refine hi.env t v ?_
    rw [← hv, he']
    refine envD_congr L rfl fun x hx hne => ?_
    rw [hall x hx] at hne
    exact absurd rfl hne
  intro fuel
  induction fuel with
  | zero =>
    intro listed a w m A R hi hdf hu
    have hr : Region.ready .any ops listed = [] := by
      cases hr : Region.ready .any ops listed with
      | nil => rfl
      | cons i is =>
        exfalso
        have hmem : i ∈ Region.ready .any ops listed := by rw [hr]; simp
        rw [mem_ready] at hmem
        obtain ⟨h1, o, ho, _⟩ := hmem
        obtain ⟨s, hs, hid⟩ := hst.cover i (Array.getElem?_eq_some_iff.1 ho).1
        have h2 : dn listed s = false := by
          have hlt : i < listed.size := by rw [hi.size]; exact (Array.getElem?_eq_some_iff.1 ho).1
          unfold dn; rw [hid]
          simpa [Array.getD, hlt] using h1
        have : 0 < undone listed L := List.countP_pos_iff.2 ⟨s, hs, by simp [h2]⟩
        omega
    exact ⟨hr, hnone hi hdf hr⟩
  | succ fuel ih =>
    intro listed a w m A R hi hdf hu
    refine ⟨hnone hi hdf, fun i hmem => ?_⟩
    rw [mem_ready] at hmem
    obtain ⟨hl, o, ho, hedges⟩ := hmem
    have hlt : i < ops.size := (Array.getElem?_eq_some_iff.1 ho).1
    obtain ⟨s, hs, hid⟩ := hst.cover i hlt
    subst hid
    have hlt' : s.o.id < listed.size := by rw [hi.size]; exact hlt
    have hsu : dn listed s = false := by
      unfold dn
      simpa [Array.getD, hlt'] using hl
    obtain ⟨o', ho', hco⟩ := hst.mem s hs
    rw [ho] at ho'; cases ho'
    have hready := pre_done hst hi hs ho hedges
    obtain ⟨L1, L2, hL⟩ := List.append_of_mem hs
    obtain ⟨har1, har2, huniq⟩ := around hst hi hL hsu hready
    have hreads := reads_same hst hi hL hsu hready
    have hc := hst.chain
    rw [hL] at hc
    obtain ⟨H1, c1, c2⟩ := hc.split
    obtain ⟨k1, k2, k3, k4, k5, k6⟩ := c2
    rw [← k1] at k3 k4
    rw [← k2] at k4 k5
    have hwant : s.o.wanted (envD (dn listed) e L) = some s.want := by rw [wanted_congr hreads]; exact k3
    have hco' := hco
    rw [← hi.nt] at hco'
    have hwd := wanted_eq hi.env hco' hwant
    obtain ⟨d1, d2, d3⟩ := cOper_op hco
    have hless : undone (listed.setIfInBounds s.o.id true) L ≤ fuel := by have := undone_less hs hsu hlt'; omega
    have hdst : cDst nt s.o.dst = true := by rw [d3]; exact d2
    have hnext : ∀ {u : Value} {m' : CM} {w' : World} {A' R' : List Step}, Inv P base ops nt L e H w0 m0 H' (listed.setIfInBounds s.o.id true) (a.put s.o.dst u) w' m' A' R' → wpAnyIn F n P .any ops Q fuel (listed.setIfInBounds s.o.id true) (a.put o.dst u) w' := by
      intro u m' w' A' R' hi'
      rw [d3] at hi'
      exact ih _ _ _ _ _ _ hi' (by rw [put_defers']; exact hdf) hless
    have hin : s ∈ A ∨ s ∈ R := by
      have := hs
      rw [hi.split] at this
      exact List.mem_append.1 this
    have hheadOnly : s ∈ R → (s.o.isEff || decide (s.o.op.cls = .alloc)) = true → ∃ R0, R = s :: R0 := fun hm hc => by
      cases hRc : R with
      | nil => rw [hRc] at hm; simp at hm
      | cons x l =>
        obtain ⟨h1, h2⟩ := hi.headR x l hRc
        rw [hRc] at hm
        rcases List.mem_cons.1 hm with rfl | hm
        · exact ⟨l, rfl⟩
        · exfalso
          have hp := hst.pairs
          rw [hi.split, hRc] at hp
          have := (List.pairwise_cons.1 (List.pairwise_append.1 hp).2.1).1 s hm
          simp only [pairOk, h1, hc, Bool.true_and, Bool.not_true, Bool.and_false, Bool.or_false] at this
          have := hready _ this
          unfold dn at h2
          rw [this] at h2; cases h2
    have hefA : s.o.isEff = true → ∃ R0, R = s :: R0 := fun he => by
      rcases hin with h | h
      · have := hi.doneA s h he
        rw [hsu] at this; cases this
      · exact hheadOnly h (by simp [he])
    have hmkA : mkr s → s ∈ A := fun hm => by
      rcases hin with h | h
      · exact h
      · obtain ⟨R0, hR0⟩ := hheadOnly h (by simp [hm.2])
        have := (hi.headR s R0 hR0).1
        simp [AOper.isEff, hm.2] at this
    unfold wpOpIn
    rw [ho]
    simp only [hwd]
    cases hsw : s.want with
    | false =>
      simp only [Bool.false_eq_true, if_false]
      refine ⟨fun g _ => hF.fn g, ?_⟩
      obtain ⟨hv, haf⟩ := k5 hsw
      have hvr : VR m s.v undef := by rw [hv]; exact .tuple .nil
      cases heff : s.o.isEff with
      | false =>
        exact hnext (hi.quiet hst hL hsu hready hlt heff hdst hvr (leR m) hi.rel hi.ext (fun r _ h _ => h) (fun hm => by rw [hm.1] at hsw; cases hsw))
      | true =>
        obtain ⟨R0, hR0⟩ := hefA heff
        have hS0 : headOf R H' = s.after := by rw [hR0, haf]; rfl
        obtain ⟨A', R', hi'⟩ := hi.effect hst hR0 hsu hready hlt heff hdst hvr (by rw [← hS0]; exact hi.rel) (by rw [hS0]; exact Ext.refl _ _ _)
        exact hnext hi'
    | true =>
      simp only [if_true]
      have hop := k4 hsw
      rw [← op_congr hreads] at hop
      have d1' := d1
      rw [← hi.nt] at d1'
      cases hcl : s.o.op.cls with
      | pure =>
        have heff : s.o.isEff = false := by simp [AOper.isEff, hcl]
        have h2 := (aop_pure hcl hop).2 (headOf R H')
        refine sim_oper hS d1' hF hi.rel hi.env h2 fun u m' w' hv hr' hx' => ?_
        exact hnext (hi.quiet hst hL hsu hready hlt heff hdst hv hx'.le hr' (hi.ext.trans hx') (fun r hr hm _ => (hx'.unreal r hr hm).1) (fun hm => by rw [hm.2] at hcl; cases hcl))
      | load =>
        have heff : s.o.isEff = false := by simp [AOper.isEff, hcl]
        have h1 := hst.stable A R hi.split (fun x l h => (hi.headR x l h).1) s hs
        have hRu : ∀ x ∈ R, x.o.isEff = true → dn listed x = false := fun x hx he => by
          cases hRc : R with
          | nil => rw [hRc] at hx; simp at hx
          | cons y l =>
            obtain ⟨q1, q2⟩ := hi.headR y l hRc
            rw [hRc] at hx
            rcases List.mem_cons.1 hx with rfl | hx
            · exact q2
            · have hp := hst.pairs
              rw [hi.split, hRc] at hp
              have := (List.pairwise_cons.1 (List.pairwise_append.1 hp).2.1).1 x hx
              simp only [pairOk, q1, he, Bool.true_and, Bool.true_or, Bool.not_true, Bool.and_false, Bool.or_false] at this
              cases hd : dn listed x with
              | false => rfl
              | true =>
                have := hi.pre x (by rw [hi.split, hRc]; simp [hx]) hd _ this
                unfold dn at q2
                rw [this] at q2; cases q2
        have hadm : admits s.o (effsOf A) (effsOf R) = true := by
          simp only [admits, Bool.and_eq_true, List.all_eq_true, Bool.not_eq_true']
          refine ⟨fun x hx => ?_, fun x hx => ?_⟩
          · simp only [effsOf, List.mem_map, List.mem_filter] at hx
            obtain ⟨y, ⟨hy, hye⟩, rfl⟩ := hx
            cases hh : hasNat s.o.pre y.o.id with
            | false => rfl
            | true =>
              have q1 := hready _ hh
              have q2 := hRu y hy hye
              unfold dn at q2
              rw [q1] at q2; cases q2
          · simp only [effsOf, List.mem_map, List.mem_filter] at hx
            obtain ⟨y, ⟨hy, hye⟩, rfl⟩ := hx
            cases hh : hasNat y.o.pre s.o.id with
            | false => rfl
            | true =>
              have q1 := hi.pre y (by rw [hi.split]; simp [hy]) (hi.doneA y hy hye) _ hh
              unfold dn at hsu
              rw [q1] at hsu; cases hsu
        simp only [stableIn, hsw, hcl, hadm, decide_true, Bool.and_self, if_true] at h1
        split at h1
        · rename_i v' H2 hv'
          have hve := eqA_eq h1
          subst hve
          have h3 : H2 = headOf R H' := aop_load hcl hv'
          rw [← op_congr hreads, h3] at hv'
          refine sim_oper hS d1' hF hi.rel hi.env hv' fun u m' w' hv hr' hx' => ?_
          exact hnext (hi.quiet hst hL hsu hready hlt heff hdst (by assumption) hx'.le hr' (hi.ext.trans hx') (fun r hr hm _ => (hx'.unreal r hr hm).1) (fun hm => by rw [hm.2] at hcl; cases hcl))
        · cases h1
      | alloc =>
        have heff : s.o.isEff = false := by simp [AOper.isEff, hcl]
        have hsA := hmkA ⟨hsw, hcl⟩
        obtain ⟨hm0, hg0⟩ := hi.unreal s hsA ⟨hsw, hcl⟩ hsu
        obtain ⟨hrm1, hrm2⟩ := hi.room s hsA ⟨hsw, hcl⟩
        obtain ⟨mk, obj, hv, haf, sm, hex, u, oC, k, hrun, hmade⟩ := made_op (w := w) (m := m) (N := base.size) d1' hcl hi.rel.size hi.env hop
        have hgo : (headOf R H').get s.before.next = some obj := by rw [hg0, haf, AH.get_alloc, if_pos rfl]
        obtain ⟨hvr, hob⟩ := hmade s.before.next (CM.add m s.before.next (w.heap.size, 0, k)) (CM.add_le hm0) (CM.add_same _ _ _)
        have hr' := hi.rel.realize hrm2 hm0 (n := k) (oC := oC) (by rw [hgo]; exact hob)
        obtain ⟨e1, e2⟩ := Ext.realize (H := headOf R H') (w := w) (n := k) (oC := oC) hm0 (fun k c o n hk => (hi.rel.blk k c o n hk).1)
        have hx' : Ext m0 H w0 (CM.add m s.before.next (w.heap.size, 0, k)) (headOf R H') (w.alloc oC) := by
          refine ⟨leT hi.ext.le e1, hi.ext.next, by have := hi.ext.heap; simp; omega, fun c hc hf => ?_, fun b hb hn => ?_, hi.ext.loops, hi.ext.os⟩
          · obtain ⟨f1, f2⟩ := hi.ext.free c hc hf
            obtain ⟨f3, f4⟩ := e2 c (Nat.lt_of_lt_of_le hc hi.ext.heap) f1
            exact ⟨f3, f4.trans f2⟩
          · obtain ⟨f1, f2⟩ := hi.ext.unreal b hb hn
            exact ⟨by rw [CM.add_ne _ _ (by omega)]; exact f1, f2⟩
        have hgoal := hnext (hi.quiet hst hL hsu hready hlt heff hdst (u := u) (by rw [hv]; exact hvr) e1 hr' hx' (fun r _ hrn hne => by rw [CM.add_ne _ _ (hne ⟨hsw, hcl⟩).2]; exact hrn) (fun _ => hsA))
        refine ⟨fun g _ => hF.fn g, ?_⟩
        have hnd : ∀ c, o.op ≠ .defer c := fun c hcd => by rw [hcd] at d1; simp [cOp] at d1
        rw [Oper.semAt_eq _ _ _ hnd, hex, Sem.run_bind, hrun]
        exact hgoal
      | eff =>
        have heff : s.o.isEff = true := by simp [AOper.isEff, hcl]
        obtain ⟨R0, hR0⟩ := hefA heff
        have hS0 : headOf R H' = s.before := by rw [hR0]; rfl
        refine sim_oper hS d1' hF (by rw [← hS0]; exact hi.rel) hi.env hop fun u m' w' hv hr' hx' => ?_
        obtain ⟨A', R', hi'⟩ := hi.effect hst hR0 hsu hready hlt heff hdst hv hr' (by rw [hS0]; exact hx')
        exact hnext hi'
theorem nodupN_pw {α : Type} (f : α → Nat) : ∀ {l : List α}, nodupN (l.map f) = true → l.Pairwise fun x y => f x ≠ f y
  | [], _ => .nil
  | x :: l, h => by
    simp only [List.map_cons, nodupN, Bool.and_eq_true, Bool.not_eq_true'] at h
    refine List.pairwise_cons.2 ⟨fun y hy he => ?_, nodupN_pw f h.2⟩
    have : hasNat (l.map f) (f x) = true := hasNat_mem.2 (by rw [he]; exact List.mem_map.2 ⟨y, hy, rfl⟩)
    rw [this] at h; cases h.1
theorem pairsOk_pw : ∀ {l : List AOper}, pairsOk l = true → l.Pairwise fun x y => pairOk x y = true
  | [], _ => .nil
  | x :: l, h => by
    simp only [pairsOk, Bool.and_eq_true, List.all_eq_true] at h
    exact List.pairwise_cons.2 ⟨h.1, pairsOk_pw h.2⟩
theorem edgesOk_at : ∀ {A : List AOper} {x : AOper} {B : List AOper} {seen : List Nat}, edgesOk ops (A ++ x :: B) seen = true → ∀ o, ops[x.id]? = some o → ∀ ed ∈ o.after, Region.binds .any ed = true → ed.on ∈ seen ∨ ∃ y ∈ A, y.id = ed.on
  | [], x, B, seen, h, o, ho, ed, hed, hb => by
    simp only [List.nil_append, edgesOk, ho, Bool.and_eq_true, List.all_eq_true] at h
    have := h.1 ed (by simpa using hed)
    simp only [hb, Bool.not_true, Bool.false_or] at this
    exact .inl (hasNat_mem.1 this)
  | y :: A, x, B, seen, h, o, ho, ed, hed, hb => by
    simp only [List.cons_append, edgesOk, Bool.and_eq_true] at h
    rcases edgesOk_at h.2 o ho ed hed hb with h1 | ⟨z, hz, hid⟩
    · rcases List.mem_cons.1 h1 with h1 | h1
      · exact .inr ⟨y, by simp, h1.symm⟩
      · exact .inl h1
    · exact .inr ⟨z, by simp [hz], hid⟩
theorem maskOf_go : ∀ {l : List Nat} {m k : Nat}, (l.foldl (fun m k => Nat.lor m (2 ^ k)) m).testBit k = (m.testBit k || decide (k ∈ l))
  | [], m, k => by simp
  | x :: l, m, k => by
    rw [List.foldl_cons, maskOf_go]
    show ((m ||| 2 ^ x).testBit k || _) = _
    rw [Nat.testBit_or, Nat.testBit_two_pow, Bool.or_assoc]
    congr 1
    by_cases h : x = k
    · subst h; simp
    · simp [h, Ne.symm h]
theorem maskOf_test {l : List Nat} {k : Nat} : (maskOf l).testBit k = decide (k ∈ l) := by
  unfold maskOf; rw [maskOf_go]; simp
theorem preMask_test {l : List AOper} {i k : Nat} (h : (preMask (l.map fun a => (a.id, maskOf a.pre)) i).testBit k = true) : ∃ b ∈ l, b.id = i ∧ hasNat b.pre k = true := by
  unfold preMask at h
  split at h
  · rename_i x hx
    have h1 := List.find?_some hx
    obtain ⟨b, hb, rfl⟩ := List.mem_map.1 (List.mem_of_find?_eq_some hx)
    refine ⟨b, hb, by simpa using h1, hasNat_mem.2 ?_⟩
    simp only [maskOf_test, decide_eq_true_eq] at h
    exact h
  · simp at h
theorem after_test {l : List AOper} {k : Nat} : ∀ {es : List Edge} {m : Nat}, (es.foldl (fun m e => if Region.binds .any e then Nat.lor m (Nat.lor (2 ^ e.on) (preMask (l.map fun a => (a.id, maskOf a.pre)) e.on)) else m) m).testBit k = true →
    m.testBit k = true ∨ ∃ e ∈ es, Region.binds .any e = true ∧ (e.on = k ∨ ∃ b ∈ l, b.id = e.on ∧ hasNat b.pre k = true)
  | [], m, h => .inl h
  | e :: es, m, h => by
    rw [List.foldl_cons] at h
    rcases after_test h with h1 | ⟨e', h1, h2⟩
    · split at h1
      · rename_i hb
        have h1 : (m ||| (2 ^ e.on ||| preMask (l.map fun a => (a.id, maskOf a.pre)) e.on)).testBit k = true := h1
        rw [Nat.testBit_or, Nat.testBit_or, Nat.testBit_two_pow] at h1
        simp only [Bool.or_eq_true, decide_eq_true_eq] at h1
        rcases h1 with h1 | h1 | h1
        · exact .inl h1
        · exact .inr ⟨e, by simp, hb, .inl h1⟩
        · exact .inr ⟨e, by simp, hb, .inr (preMask_test h1)⟩
      · exact .inl h1
    · exact .inr ⟨e', by simp [h1], h2⟩
theorem preOk_at {ops : Array Oper} {l : List AOper} (h : preOk ops l = true) {a : AOper} (ha : a ∈ l) {o : Oper} (ho : ops[a.id]? = some o) {k : Nat} (hk : k ∈ a.pre) :
    ∃ e ∈ o.after.toList, Region.binds .any e = true ∧ (e.on = k ∨ ∃ b ∈ l, b.id = e.on ∧ hasNat b.pre k = true) := by
  have h1 := List.all_eq_true.1 h a ha
  rw [ho] at h1
  have h2 := of_decide_eq_true h1
  have h3 : (maskOf a.pre).testBit k = true := by rw [maskOf_test]; exact decide_eq_true hk
  rw [← h2] at h3
  have h3 : (maskOf a.pre &&& _).testBit k = true := h3
  rw [Nat.testBit_and, Bool.and_eq_true] at h3
  rcases after_test h3.2 with h4 | h4
  · simp at h4
  · exact h4
theorem stat_of {os : List AOper} (hok : drawOk ops os = true) (hmem : ∀ x ∈ os, ∃ o, ops[x.id]? = some o ∧ cOper P nt ops x.id x.pre o = some x) (hch : Chain call L e H e' H') (hmap : L.map (·.o) = os) (hstab : AM.stable call L [] L H' = true) : Stat P call ops nt L e H e' H' := by
  subst hmap
  simp only [drawOk, Bool.and_eq_true] at hok
  obtain ⟨⟨⟨⟨hcov, hnd⟩, hed⟩, hpre⟩, hpairs⟩ := hok
  rw [List.map_map] at hnd
  refine ⟨fun s hs => hmem s.o (List.mem_map.2 ⟨s, hs, rfl⟩), fun i hi => ?_, nodupN_pw (fun s : Step => s.o.id) hnd, fun L1 s L2 hL o ho ed hm hb => ?_, fun s hs o ho k hk => ?_, ?_, hch, fun A R hAR hR s hs => ?_⟩
  · simp only [List.all_eq_true, List.mem_range, List.any_eq_true, List.mem_map, decide_eq_true_eq] at hcov
    obtain ⟨x, ⟨s, hs, rfl⟩, hid⟩ := hcov i hi
    exact ⟨s, hs, hid⟩
  · rw [hL, List.map_append, List.map_cons] at hed
    rcases edgesOk_at hed o ho ed hm hb with h1 | ⟨y, hy, hid⟩
    · simp at h1
    · obtain ⟨x, hx, rfl⟩ := List.mem_map.1 hy
      exact ⟨x, hx, hid⟩
  · obtain ⟨ed, h1, h2⟩ := preOk_at hpre (List.mem_map.2 ⟨s, hs, rfl⟩) ho (hasNat_mem.1 hk)
    refine ⟨ed, by simpa using h1, h2.1, ?_⟩
    rcases h2.2 with h3 | ⟨b, hb, h3, h4⟩
    · exact .inl h3
    · obtain ⟨x, hx, rfl⟩ := List.mem_map.1 hb
      exact .inr ⟨x, hx, h3, h4⟩
  · have := pairsOk_pw hpairs
    exact List.pairwise_map.1 this
  · have := stable_at (A := A) (over := []) (R := R) (by rw [← hAR]; exact hstab) hR s hs
    simpa using this
theorem stat_short (hst : Stat P call ops nt L e H e' H') : L.length ≤ ops.size := by
  have h1 : (L.map (·.o.id)).Nodup := List.pairwise_map.2 hst.nodup
  have h2 : ∀ i ∈ L.map (·.o.id), i ∈ List.range ops.size := fun i hi => by
    obtain ⟨s, hs, rfl⟩ := List.mem_map.1 hi
    obtain ⟨o, ho, _⟩ := hst.mem s hs
    exact List.mem_range.2 (Array.getElem?_eq_some_iff.1 ho).1
  have := List.Nodup.length_le_of_subset h1 h2
  simpa using this
theorem cDraw_mem {os : List AOper} (h : cDraw P nt ops = some os) : ∀ x ∈ os, ∃ o, ops[x.id]? = some o ∧ cOper P nt ops x.id x.pre o = some x := by
  unfold cDraw at h
  simp only at h
  split at h
  · simp only [Option.some.injEq] at h; subst h
    intro x hx
    obtain ⟨y, hy, hxy⟩ := List.mem_filterMap.1 hx
    obtain ⟨i, _, rfl⟩ := List.mem_map.1 hy
    simp only [id] at hxy
    obtain ⟨o, ho, hc⟩ := Option.bind_eq_some_iff.1 hxy
    have hid : x.id = i ∧ x.pre = maskList ops.size (((befM ops.toList)[i]?).getD 0) := by
      unfold cOper at hc
      split at hc
      · split at hc
        · split at hc
          · simp only [Option.some.injEq] at hc; subst hc; exact ⟨rfl, rfl⟩
          · split at hc
            · split at hc
              · simp only [Option.some.injEq] at hc; subst hc; exact ⟨rfl, rfl⟩
              · cases hc
            · cases hc
        · cases hc
      · cases hc
    refine ⟨o, by rw [hid.1]; exact ho, by rw [hid.1, hid.2]; exact hc⟩
  · cases h
theorem sim_draw (hS : SimCall P call) {ops : Array Oper} (hF : WideF F) (hmix : P.follows .mixedOrders = true) {Q : Exit → Act → World → Prop} {os : List AOper} {e' : Env} {id : Nat} (hok : drawOk ops os = true)
    (hmem : ∀ x ∈ os, ∃ o, ops[x.id]? = some o ∧ cOper P a.tmps.size ops x.id x.pre o = some x) (h : adraw call os e H = some (e', H'))
    (hr : Rel P base m H w) (he : EnvR m e a.tmps) (hq : ∀ m' a' w', Rel P base m' H' w' → Ext m H w m' H' w' → EnvR m' e' a'.tmps → a'.tmps.size = a.tmps.size → a'.defers = a.defers → Q .normal a' w') :
    (Code.region id ops true).wpIn F n P Q a w := by
  unfold adraw at h
  split at h
  · rename_i L e1 H1 hL
    split at h
    · rename_i hstab
      simp only [Option.some.injEq, Prod.mk.injEq] at h
      obtain ⟨rfl, rfl⟩ := h
      obtain ⟨hch, hmap⟩ := aopsT_chain hL
      have hst := stat_of hok hmem hch hmap hstab
      refine wpIn_region_any hmix ?_
      have hr1 : Rel P base m H { w with drawn := w.drawn + 1 } := hr.drew rfl
      obtain ⟨A, R, hi⟩ := Inv.start (a := a) hst hr1 he rfl
      refine draw_go (w0 := { w with drawn := w.drawn + 1 }) hS hF hst (a0 := a) (fun m' a' w' q1 q2 q3 q4 q5 => hq m' a' w' q1 ((Ext.drew (w := w) (w' := { w with drawn := w.drawn + 1 }) rfl).trans q2) q3 q4 q5) _ _ _ _ _ _ _ hi rfl ?_
      have h1 : undone (Array.replicate ops.size false) L ≤ L.length := List.countP_le_length
      have h2 : L.length ≤ ops.size := stat_short hst
      omega
    · cases h
  · cases h
end
end Go.AM
