/- The row FactorTrue: counts as any past makes them deny nothing of that past, for every house and past. -/
import Derived.RangeFuncRecord
import Derived.IntWalk
import Derived.Test.YtgncpbkedhchfaaA01
set_option linter.unusedVariables false
set_option linter.unusedSimpArgs false
namespace Go.AM
structure WideF (F : Fence) : Prop where
  fn : ∀ f, F.fn f
  depth : F.depth = none
theorem WideF.inRound {F : Fence} (h : WideF F) (l : Nat) : WideF (F.inRound l) := ⟨h.fn, h.depth⟩
theorem WideF.plain {F : Fence} (h : WideF F) : WideF F.plain := ⟨h.fn, h.depth⟩
section
variable {P : Program} {base : Array Obj} {m : CM} {H H' : AH} {w : World} {nt : Nat} {e : Env} {a : Act} {v : AV} {F : Fence} {n : Nat}
def After (P : Program) (base : Array Obj) (m : CM) (H : AH) (w : World) (v : AV) (H' : AH) : Ending → World → Prop :=
  fun e w' => ∃ u m', e = .returned u ∧ VR m' v u ∧ Rel P base m' H' w' ∧ Ext m H w m' H' w'
def CallV (F : Fence) (n : Nat) (P : Program) (uf : Value) (us : Array Value) (w : World) (R : Ending → World → Prop) : Prop :=
  match uf with
  | .func (.func f) first captured => (∃ fn, P.funcs[f]? = some fn ∧ fn.body.isSome = true ∧ (fn.name == "runtime.NumGoroutine") = false) ∧ CallsIn F n P f (first ++ us ++ captured) w R
  | .func (.yield l) first _ => first = #[] ∧ ∃ r, w.heap[l]? = some (.loop r) ∧ us.size = r.params.size ∧ RoundIn F n P l r.fn ((r.params.zip us).foldl (fun tmps (t, a) => tmps.setIfInBounds t a) r.tmps) r.assign r.body w R
  | _ => False
def SimCall (P : Program) (call : ACall) : Prop :=
  ∀ (base : Array Obj) (m : CM) (H : AH) (w : World) (fv : AV) (uf : Value) (args : List AV) (us : List Value) (v : AV) (H' : AH) (F : Fence) (n : Nat), WideF F → F.round = none → call fv args H = some (v, H') → Rel P base m H w → VR m fv uf → VRs m args us →
    CallV F n P uf us.toArray w (After P base m H w v H')
theorem wpIn_call {o : Oper} {f : Operand} {xs : Array Operand} {ts : Array TypeId} (ho : o.op = .call { callee := .value f, args := xs, argTypes := ts }) (hF : WideF F) {next : Act → World → Prop} {Q : Exit → Act → World → Prop} {R : Ending → World → Prop}
    (hc : ∀ n, CallV F.plain n P (a.eval f) (xs.map a.eval) w R) (hR : ∀ e w', R e w' → ∃ u, e = .returned u ∧ next (a.put o.dst u) w') : o.wpIn F n P a w next Q := by
  refine ⟨fun g _ => hF.fn g, ?_⟩
  rw [Oper.semAt_eq _ _ _ (fun c => by rw [ho]; simp)]
  have hd : F.depth.isSome = true → 1 ≤ n := fun h => by rw [hF.depth] at h; simp at h
  have hmono : ∀ (e : Ending) (w' : World), R e w' → (match e, w' with
      | .returned v, w'' => next (a.put o.dst v) w''
      | .panicked chain, w'' => Q (.panic chain) a w''
      | .outgrown, _ => LetsOut Q) := fun e w' h => by
    obtain ⟨u, rfl, h2⟩ := hR e w' h
    exact h2
  cases hf : a.eval f with
  | func fn first captured =>
    cases fn with
    | func g =>
      have hc' := hc (n - 1)
      rw [hf] at hc'
      obtain ⟨⟨fn, h1, h2, h3⟩, h4⟩ := hc'
      have hrun : (execOp a.eval o).run P w = .ok (.enter g (first ++ xs.map a.eval ++ captured)) w := by
        have hb : fn.body.isNone = false := by
          cases hbd : fn.body with
          | none => rw [hbd] at h2; simp at h2
          | some _ => rfl
        simp only [execOp, ho, resolve, hf, Deferred.ofValue, pure_bind, invoke, callFunc, Sem.run_bind, run_program, Result.andThen_ok, h1, h3, hb, Bool.false_eq_true, if_false, Sem.run_pure]
      rw [hrun]
      refine ⟨hd, ?_⟩
      exact CallsIn.mono h4 hmono
    | yield l =>
      have hc' := hc (n - 1)
      rw [hf] at hc'
      obtain ⟨rfl, r, h1, h2, h3⟩ := hc'
      have hrun : (execOp a.eval o).run P w = .ok (.round l r.fn ((r.params.zip (xs.map a.eval)).foldl (fun tmps (t, a) => tmps.setIfInBounds t a) r.tmps) r.assign r.body) w := by
        have := run_yield (P := P) (args := #[] ++ xs.map a.eval) h1 (by simpa using h2)
        simp only [execOp, ho, resolve, hf, Deferred.ofValue, pure_bind, invoke]
        simpa using this
      rw [hrun]
      refine ⟨hd, ?_⟩
      exact RoundIn.mono h3 hmono
    | _ => have hc' := hc 0; rw [hf] at hc'; exact hc'.elim
  | _ => have hc' := hc 0; rw [hf] at hc'; exact hc'.elim
theorem put_defers' (a : Act) (d : Option Tmp) (u : Value) : (a.put d u).defers = a.defers := by cases d <;> rfl
theorem wanted_eq (he : EnvR m e a.tmps) {ops : Array Oper} {o : Oper} {ao : AOper} {id : Nat} {pre : List Nat} (hc : cOper P a.tmps.size ops id pre o = some ao) {b : Bool} (h : ao.wanted e = some b) : Region.wanted o (yielded ops a.tmps) = b := by
  unfold cOper at hc
  split at hc
  · split at hc
    · split at hc
      · rename_i hg
        simp only [Option.some.injEq] at hc; subst hc
        simp only [AOper.wanted, Option.some.injEq] at h
        subst h
        simp [Region.wanted, hg]
      · rename_i j want hg
        split at hc
        · rename_i t ht
          split at hc
          · rename_i hlt
            simp only [Option.some.injEq] at hc; subst hc
            simp only [AOper.wanted] at h
            have hget : a.tmps[t]? = some (a.tmps.getD t undef) := by simp [Array.getD, hlt]
            split at h
            · rename_i b' hb'
              obtain ⟨_, hv⟩ := he t _ hb'
              simp only [Option.some.injEq] at h; subst h
              have hval : a.tmps.getD t undef = .bool b' := by
                cases hq : a.tmps.getD t undef <;> rw [hq] at hv <;> cases hv
                rfl
              rw [hval] at hget
              simp only [Region.wanted, hg, yielded, ht, Option.bind_some, hget]
              cases b' <;> cases want <;> rfl
            · rename_i hb'
              obtain ⟨_, hv⟩ := he t _ hb'
              simp only [Option.some.injEq] at h; subst h
              have hval : ∃ us, a.tmps.getD t undef = .tuple us := by
                cases hq : a.tmps.getD t undef <;> rw [hq] at hv <;> cases hv
                exact ⟨_, rfl⟩
              obtain ⟨us, hval⟩ := hval
              rw [hval] at hget
              simp only [Region.wanted, hg, yielded, ht, Option.bind_some, hget]
              cases want <;> rfl
            · simp at h
          · simp at hc
        · simp at hc
    · simp at hc
  · simp at hc
theorem cOper_op {ops : Array Oper} {o : Oper} {ao : AOper} {id : Nat} {pre : List Nat} (hc : cOper P nt ops id pre o = some ao) : cOp P nt o.op = some ao.op ∧ cDst nt o.dst = true ∧ ao.dst = o.dst := by
  unfold cOper at hc
  split at hc
  · rename_i op hop
    split at hc
    · rename_i hd
      split at hc
      · simp only [Option.some.injEq] at hc; subst hc; exact ⟨hop, hd, rfl⟩
      · split at hc
        · split at hc
          · simp only [Option.some.injEq] at hc; subst hc; exact ⟨hop, hd, rfl⟩
          · simp at hc
        · simp at hc
    · simp at hc
  · simp at hc
theorem cOp_call {o : Oper} {f : AOpd} {xs : List AOpd} (hc : cOp P nt o.op = some (.call f xs)) : ∃ g ys ts, o.op = .call { callee := .value g, args := ys, argTypes := ts } ∧ cOpd nt g = some f ∧ cOpds nt ys.toList = some xs := by
  unfold cOp at hc
  split at hc
  case h_29 c hop =>
    split at hc
    · rename_i g hg
      split at hc
      · rename_i f' as hf has
        simp only [Option.some.injEq, AOp.call.injEq] at hc
        obtain ⟨rfl, rfl⟩ := hc
        obtain ⟨cal, args, ats⟩ := c
        simp only at hg
        subst hg
        exact ⟨g, args, ats, by assumption, hf, has⟩
      · simp at hc
    · rename_i b hb
      unfold cBuiltin at hc
      repeat' split at hc
      all_goals simp at hc
    · simp at hc
  case h_11 => unfold cEql at hc; repeat' split at hc
               all_goals simp at hc
  case h_12 => unfold cEql at hc; repeat' split at hc
               all_goals simp at hc
  all_goals
    repeat' split at hc
    all_goals (simp at hc; done)
theorem sim_oper {call : ACall} (hS : SimCall P call) {o : Oper} {ao : AOp} (hc : cOp P a.tmps.size o.op = some ao) (hF : WideF F) (hr : Rel P base m H w) (he : EnvR m e a.tmps) (h : aop call e H ao = some (v, H')) {next : Act → World → Prop} {Q : Exit → Act → World → Prop}
    (hn : ∀ u m' w', VR m' v u → Rel P base m' H' w' → Ext m H w m' H' w' → next (a.put o.dst u) w') : o.wpIn F n P a w next Q := by
  by_cases hcall : ∃ f xs, ao = .call f xs
  · obtain ⟨f, xs, rfl⟩ := hcall
    obtain ⟨g, ys, ts, hop, hg, hys⟩ := cOp_call hc
    obtain ⟨fv, h1, h2⟩ := with1_eq h
    obtain ⟨vs, h3, h4⟩ := withL_eq h2
    have k1 := opd_vr he hg h1
    have k2 := opds_vrs he hys h3
    have hmap : (ys.toList.map a.eval).toArray = ys.map a.eval := toArray_map _ _
    refine wpIn_call hop hF (R := After P base m H w v H') (fun n => ?_) (fun e w' ⟨u, m', he', h5, h6, h7⟩ => ⟨u, he', hn u m' w' h5 h6 h7⟩)
    rw [← hmap]
    exact hS base m H w fv _ vs _ v H' F.plain n hF.plain rfl h4 hr k1 k2
  · have := sim_op hc hr he (fun f xs h => hcall ⟨f, xs, h⟩) h
    obtain ⟨nx, u, w', m', hrun, hnx, hv, hr', hx⟩ := this
    refine ⟨fun g _ => hF.fn g, ?_⟩
    have hnd : ∀ c, o.op ≠ .defer c := fun c hcd => by rw [hcd] at hc; simp [cOp] at hc
    rw [Oper.semAt_eq _ _ _ hnd, hrun]
    rcases hnx with rfl | ⟨rfl, rfl⟩
    · exact hn u m' w' hv hr' hx
    · exact hn undef m' w' hv hr' hx
theorem sim_ops {call : ACall} (hS : SimCall P call) {ops : Array Oper} (hF : WideF F) {Q : Exit → Act → World → Prop} : ∀ (os : List AOper) (k : Nat) (e : Env) (H : AH) (m : CM) (a : Act) (w : World) (e' : Env) (H' : AH), cOpers P a.tmps.size ops k (ops.toList.drop k) = some os → aops call os e H = some (e', H') →
    Rel P base m H w → EnvR m e a.tmps → (∀ m' a' w', Rel P base m' H' w' → Ext m H w m' H' w' → EnvR m' e' a'.tmps → a'.tmps.size = a.tmps.size → a'.defers = a.defers → Q .normal a' w') →
    wpOpsIn F n P ops Q (List.range' k (ops.size - k)) a w
  | [], k, e, H, m, a, w, e', H', hc, h, hr, he, hq => by
    have hk : ops.size - k = 0 := by
      cases hl : ops.toList.drop k with
      | nil => have := List.drop_eq_nil_iff.1 hl; simp at this; omega
      | cons o l =>
        rw [hl] at hc
        simp only [cOpers] at hc
        split at hc
        · split at hc <;> simp at hc
        · simp at hc
    rw [hk]
    simp only [aops, Option.some.injEq, Prod.mk.injEq] at h
    obtain ⟨rfl, rfl⟩ := h
    exact hq m a w hr (Ext.refl _ _ _) he rfl rfl
  | ao :: os, k, e, H, m, a, w, e', H', hc, h, hr, he, hq => by
    cases hl : ops.toList.drop k with
    | nil => rw [hl] at hc; simp [cOpers] at hc
    | cons o l =>
      rw [hl] at hc
      have hlt : k < ops.size := by
        rcases Nat.lt_or_ge k ops.size with h | h
        · exact h
        · rw [List.drop_eq_nil_of_le (by simpa using h)] at hl; simp at hl
      have hok : ops[k]? = some o := by
        have := congrArg (fun l => l[0]?) hl
        simpa [List.getElem?_drop] using this
      have hl' : ops.toList.drop (k + 1) = l := by
        rw [← List.drop_drop, hl]; rfl
      simp only [cOpers] at hc
      split at hc
      · rename_i ao' hao
        split at hc
        · rename_i os' hos
          simp only [Option.some.injEq, List.cons.injEq] at hc
          obtain ⟨rfl, rfl⟩ := hc
          have hrange : List.range' k (ops.size - k) = k :: List.range' (k + 1) (ops.size - (k + 1)) := by
            rw [show ops.size - k = (ops.size - (k + 1)) + 1 from by omega, List.range'_succ]
          rw [hrange]
          obtain ⟨c1, c2, c3⟩ := cOper_op hao
          simp only [aops] at h
          simp only [wpOpsIn, hok]
          split at h
          · rename_i hw
            rw [wanted_eq he hao hw]
            simp only [if_true]
            split at h
            · rename_i v1 H1 hop
              refine sim_oper hS c1 hF hr he hop fun u m1 w1 hv hr1 hx1 => ?_
              have hsz := Act.put_size a o.dst u
              refine sim_ops hS hF os' (k + 1) _ H1 m1 (a.put o.dst u) w1 e' H' (by rw [hsz, hl']; exact hos) h hr1 ?_ fun m' a' w' q1 q2 q3 q4 q5 => ?_
              · rw [c3]; exact (he.mono hx1.le).putDst c2 hv
              · exact hq m' a' w' q1 (hx1.trans q2) q3 (by rw [q4, hsz]) (by rw [q5, put_defers'])
            · simp at h
          · rename_i hw
            rw [wanted_eq he hao hw]
            simp only [Bool.false_eq_true, if_false]
            refine ⟨fun g _ => hF.fn g, ?_⟩
            have hsz := Act.put_size a o.dst undef
            refine sim_ops hS hF os' (k + 1) _ H m (a.put o.dst undef) w e' H' (by rw [hsz, hl']; exact hos) h hr ?_ fun m' a' w' q1 q2 q3 q4 q5 => ?_
            · rw [c3]; exact he.putDst c2 (.tuple .nil)
            · exact hq m' a' w' q1 q2 q3 (by rw [q4, hsz]) (by rw [q5, put_defers'])
          · simp at h
        · simp at hc
      · simp at hc
end
end Go.AM
namespace Go.AM
theorem val_congr {e1 e2 : Env} {x : AOpd} (h : ∀ t ∈ x.reads, e1.get t = e2.get t) : x.val e1 = x.val e2 := by
  cases x with
  | s t => exact h t (by simp [AOpd.reads])
  | c v => rfl
theorem vals_congr {e1 e2 : Env} : ∀ {xs : List AOpd}, (∀ t ∈ readsL xs, e1.get t = e2.get t) → vals e1 xs = vals e2 xs
  | [], _ => rfl
  | x :: xs, h => by
    have h1 : x.val e1 = x.val e2 := val_congr fun t ht => h t (by simp [readsL, ht])
    have h2 : vals e1 xs = vals e2 xs := vals_congr fun t ht => h t (by simp [readsL, ht])
    simp only [vals, h1, h2]
theorem partVals_congr {e1 e2 : Env} : ∀ {xs : List (Nat × Nat × AOpd)}, (∀ t ∈ readsP xs, e1.get t = e2.get t) → partVals e1 xs = partVals e2 xs
  | [], _ => rfl
  | (o, n, x) :: xs, h => by
    have h1 : x.val e1 = x.val e2 := val_congr fun t ht => h t (by simp [readsP, ht])
    have h2 : partVals e1 xs = partVals e2 xs := partVals_congr fun t ht => h t (by simp [readsP, ht])
    simp only [partVals, h1, h2]
theorem optVal_congr {e1 e2 : Env} {x : Option AOpd} (h : ∀ t ∈ readsO x, e1.get t = e2.get t) : optVal e1 x = optVal e2 x := by
  cases x with
  | none => rfl
  | some x =>
    have h1 : x.val e1 = x.val e2 := val_congr fun t ht => h t (by simp [readsO, ht])
    simp only [optVal, h1]
theorem aop_congr {call : ACall} {e1 e2 : Env} {H : AH} {o : AOp} (h : ∀ t ∈ o.reads, e1.get t = e2.get t) : aop call e1 H o = aop call e2 H o := by
  have v1 : ∀ x : AOpd, (∀ t ∈ x.reads, t ∈ o.reads) → x.val e1 = x.val e2 := fun x hx => val_congr fun t ht => h t (hx t ht)
  have vl : ∀ xs : List AOpd, (∀ t ∈ readsL xs, t ∈ o.reads) → vals e1 xs = vals e2 xs := fun xs hx => vals_congr fun t ht => h t (hx t ht)
  have vp : ∀ xs : List (Nat × Nat × AOpd), (∀ t ∈ readsP xs, t ∈ o.reads) → partVals e1 xs = partVals e2 xs := fun xs hx => partVals_congr fun t ht => h t (hx t ht)
  have vo : ∀ x : Option AOpd, (∀ t ∈ readsO x, t ∈ o.reads) → optVal e1 x = optVal e2 x := fun x hx => optVal_congr fun t ht => h t (hx t ht)
  cases o
  case pick c a b => simp only [aop, v1 c (by simp +contextual [AOp.reads]), v1 a (by simp +contextual [AOp.reads]), v1 b (by simp +contextual [AOp.reads])]
  case build z ps => simp only [aop, vp ps (by simp [AOp.reads])]
  case mkslice a b z ps => simp only [aop, vp ps (by simp [AOp.reads])]
  case func f a b => simp only [aop, vl a (by simp +contextual [AOp.reads]), vl b (by simp +contextual [AOp.reads])]
  case sliceStr x lo hi => simp only [aop, v1 x (by simp +contextual [AOp.reads]), vo lo (by simp +contextual [AOp.reads]), vo hi (by simp +contextual [AOp.reads])]
  case sliceSl z x lo hi => simp only [aop, v1 x (by simp +contextual [AOp.reads]), vo lo (by simp +contextual [AOp.reads]), vo hi (by simp +contextual [AOp.reads])]
  case sliceArr n z x lo hi => simp only [aop, v1 x (by simp +contextual [AOp.reads]), vo lo (by simp +contextual [AOp.reads]), vo hi (by simp +contextual [AOp.reads])]
  case update g ks a b c => simp only [aop, v1 a (by simp +contextual [AOp.reads]), v1 b (by simp +contextual [AOp.reads]), v1 c (by simp +contextual [AOp.reads])]
  case call f xs => simp only [aop, v1 f (by simp +contextual [AOp.reads]), vl xs (by simp +contextual [AOp.reads])]
  case maxInt f xs => simp only [aop, v1 f (by simp +contextual [AOp.reads]), vl xs (by simp +contextual [AOp.reads])]
  case minInt f xs => simp only [aop, v1 f (by simp +contextual [AOp.reads]), vl xs (by simp +contextual [AOp.reads])]
  case alloc z => rfl
  case makeMap => rfl
  all_goals first
    | (rename_i x; simp only [aop, v1 x (by simp [AOp.reads])]; done)
    | (rename_i x y; simp only [aop, v1 x (by simp +contextual [AOp.reads]), v1 y (by simp +contextual [AOp.reads])]; done)
theorem aop_pure {call : ACall} {e : Env} {H H' : AH} {o : AOp} {v : AV} (hc : o.cls = .pure) (h : aop call e H o = some (v, H')) : H' = H ∧ ∀ S, aop call e S o = some (v, S) := by
  cases o <;> simp only [AOp.cls, reduceCtorEq] at hc
  all_goals simp only [aop] at h ⊢
  all_goals
    simp only [with1, withL, withP, withO, pureV, opPick, opBuild, opNilCheck, boolOf, opUn, opToInt, opStrId, opSliceStr, opSliceSl, opOff, opIdxSl, opIdxArr, opPart, opPartN, opAt, opByteAt, opExtract, opLen, aggOf] at h ⊢
    repeat' split at h
    all_goals first
      | (simp at h; done)
      | (simp only [Option.some.injEq, Prod.mk.injEq] at h; obtain ⟨rfl, rfl⟩ := h; simp_all)
theorem aop_load {call : ACall} {e : Env} {H H' : AH} {o : AOp} {v : AV} (hc : o.cls = .load) (h : aop call e H o = some (v, H')) : H' = H := by
  cases o <;> simp only [AOp.cls, reduceCtorEq] at hc
  all_goals simp only [aop] at h
  all_goals
    simp only [with1, withO, opLoad, opLoadN, opLookup, opLenMap, opSliceArr, aggOf, pureV] at h
    repeat' split at h
    all_goals first
      | (simp at h; done)
      | (simp only [Option.some.injEq, Prod.mk.injEq] at h; exact h.2.symm)
end Go.AM
namespace Go.AM
def LeC (c c' : ACall) : Prop := ∀ f a H r, c f a H = some r → c' f a H = some r
theorem with1_mono {x : Option AV} {f g : AV → ORes} {r : AV × AH} (h : ∀ v, f v = some r → g v = some r) (hr : with1 x f = some r) : with1 x g = some r := by
  cases x with
  | none => cases hr
  | some v => exact h v hr
theorem withL_mono {x : Option (List AV)} {f g : List AV → ORes} {r : AV × AH} (h : ∀ v, f v = some r → g v = some r) (hr : withL x f = some r) : withL x g = some r := by
  cases x with
  | none => cases hr
  | some v => exact h v hr
def AOp.isCall : AOp → Bool
  | .call _ _ => true
  | _ => false
theorem aop_nocall {c c' : ACall} {e : Env} {H : AH} {o : AOp} (h : o.isCall = false) : aop c e H o = aop c' e H o := by
  cases o <;> first | rfl | (simp [AOp.isCall] at h)
theorem aop_mono {c c' : ACall} (hc : LeC c c') {e : Env} {H : AH} {o : AOp} {r : AV × AH} (h : aop c e H o = some r) : aop c' e H o = some r := by
  cases ho : o.isCall with
  | false => rw [← aop_nocall (c := c) ho]; exact h
  | true =>
    cases o <;> simp only [AOp.isCall, reduceCtorEq] at ho
    simp only [aop] at h ⊢
    exact with1_mono (fun v => withL_mono fun vs => hc _ _ _ _) h
theorem aops_mono {c c' : ACall} (hc : LeC c c') : ∀ {os : List AOper} {e : Env} {H : AH} {r : Env × AH}, aops c os e H = some r → aops c' os e H = some r
  | [], _, _, _, h => h
  | o :: os, e, H, r, h => by
    simp only [aops] at h ⊢
    split at h
    · rename_i hw
      try simp only [hw]
      cases ho : aop c e H o.op with
      | none => rw [ho] at h; cases h
      | some x =>
        rw [ho] at h
        rw [aop_mono hc ho]
        exact aops_mono hc h
    · rename_i hw
      try simp only [hw]
      exact aops_mono hc h
    · cases h
theorem aopsT_mono {c c' : ACall} (hc : LeC c c') : ∀ {os : List AOper} {e : Env} {H : AH} {r : List Step × Env × AH}, aopsT c os e H = some r → aopsT c' os e H = some r
  | [], _, _, _, h => h
  | o :: os, e, H, r, h => by
    simp only [aopsT] at h ⊢
    split at h
    · rename_i hw
      try simp only [hw]
      cases ho : aop c e H o.op with
      | none => rw [ho] at h; cases h
      | some x =>
        rw [ho] at h
        rw [aop_mono hc ho]
        simp only at h ⊢
        cases hq : aopsT c os (putDst e o.dst x.1) x.2 with
        | none => rw [hq] at h; cases h
        | some y => rw [hq] at h; rw [aopsT_mono hc hq]; exact h
    · rename_i hw
      try simp only [hw]
      cases hq : aopsT c os (putDst e o.dst (.tuple [])) H with
      | none => rw [hq] at h; cases h
      | some y => rw [hq] at h; rw [aopsT_mono hc hq]; exact h
    · cases h
theorem stableIn_same {c c' : ACall} {S : AH} {over todo : List AOper} {s : Step} : stableIn c S over todo s = stableIn c' S over todo s := by
  unfold stableIn
  split
  · rename_i h
    have hl : s.o.op.isCall = false := by
      have : s.o.op.cls = .load := by simp_all
      cases ho : s.o.op <;> rw [ho] at this <;> simp [AOp.cls] at this <;> rfl
    rw [aop_nocall (c := c) (c' := c') hl]
  · rfl
theorem stable_same {c c' : ACall} {all : List Step} {last : AH} : ∀ {l : List Step} {over : List AOper}, stable c all over l last = stable c' all over l last
  | [], over => by
    simp only [stable]
    congr 1
    funext s
    exact stableIn_same
  | s :: l, over => by
    simp only [stable]
    split
    · rw [stable_same (l := l)]
      congr 2
      funext s
      exact stableIn_same
    · exact stable_same
theorem adraw_mono {c c' : ACall} (hc : LeC c c') {os : List AOper} {e : Env} {H : AH} {r : Env × AH} (h : adraw c os e H = some r) : adraw c' os e H = some r := by
  unfold adraw at h ⊢
  cases hq : aopsT c os e H with
  | none => rw [hq] at h; cases h
  | some y =>
    rw [hq] at h
    rw [aopsT_mono hc hq]
    simp only at h ⊢
    rw [stable_same (c := c') (c' := c)]
    exact h
theorem aloop_mono {f g : Env → AH → CRes} (h : ∀ e H r, f e H = some r → g e H = some r) : ∀ {n m : Nat}, n ≤ m → ∀ {e : Env} {H : AH} {r}, aloop n f e H = some r → aloop m g e H = some r
  | 0, _, _, _, _, _, hr => by cases hr
  | n + 1, 0, hm, _, _, _, _ => by omega
  | n + 1, m + 1, hm, e, H, r, hr => by
    simp only [aloop] at hr ⊢
    cases hf : f e H with
    | none => rw [hf] at hr; cases hr
    | some x =>
      rw [hf] at hr
      rw [h _ _ _ hf]
      obtain ⟨x, e', H'⟩ := x
      cases x with
      | normal => exact aloop_mono h (by omega) hr
      | exit i => exact hr
      | ret => exact hr
theorem code_mono {c c' : ACall} (hc : LeC c c') {n m : Nat} (hn : n ≤ m) : ∀ {cd : ACode} {e : Env} {H : AH} {r}, code c n cd e H = some r → code c' m cd e H = some r
  | .skip, _, _, _, h => h
  | .exit _, _, _, _, h => h
  | .ret, _, _, _, h => h
  | .reg ops kp, e, H, r, h => by
    simp only [code] at h ⊢
    cases hq : aops c ops e H with
    | none => rw [hq] at h; cases h
    | some y => rw [hq] at h; rw [aops_mono hc hq]; exact h
  | .draw ops kp, e, H, r, h => by
    simp only [code] at h ⊢
    cases hq : adraw c ops e H with
    | none => rw [hq] at h; cases h
    | some y => rw [hq] at h; rw [adraw_mono hc hq]; exact h
  | .seq a b, e, H, r, h => by
    simp only [code] at h ⊢
    cases hq : code c n a e H with
    | none => rw [hq] at h; cases h
    | some y =>
      rw [hq] at h
      rw [code_mono hc hn hq]
      obtain ⟨x, e', H'⟩ := y
      cases x with
      | normal => exact code_mono hc hn h
      | exit i => exact h
      | ret => exact h
  | .cond x a b, e, H, r, h => by
    simp only [code] at h ⊢
    split at h
    · rename_i t ht
      try simp only [ht]
      cases t with
      | true => exact code_mono hc hn h
      | false => exact code_mono hc hn h
    · cases h
  | .block id a, e, H, r, h => by
    simp only [code] at h ⊢
    cases hq : code c n a e H with
    | none => rw [hq] at h; cases h
    | some y =>
      rw [hq] at h
      rw [code_mono hc hn hq]
      exact h
  | .loop a, e, H, r, h => by
    simp only [code] at h ⊢
    exact aloop_mono (fun e H r h => code_mono hc hn h) hn h
  | .range f ps as bd, e, H, r, h => by
    simp only [code] at h ⊢
    split at h
    · rename_i g fs cs hf
      try simp only [hf]
      cases hq : c (.func g fs cs) [.yield H.next] (H.alloc (.loop { state := .ready, pending := .normal, env := e, params := ps, assign := as, body := bd })) with
      | none => rw [hq] at h; cases h
      | some y =>
        rw [hq] at h
        rw [hc _ _ _ _ hq]
        exact h
    · cases h
theorem acallv_step {prog : Nat → Option AFunc} {n : Nat} (ih : LeC (acallv prog n) (acallv prog (n + 1))) : LeC (acallv prog (n + 1)) (acallv prog (n + 2)) := by
  intro f args H r h
  have cm : ∀ {cd : ACode} {e : Env} {H : AH} {r}, code (acallv prog n) n cd e H = some r → code (acallv prog (n + 1)) (n + 1) cd e H = some r := fun h => code_mono ih (by omega) h
  cases f with
  | func f first captured =>
    simp only [acallv] at h ⊢
    split at h
    · rename_i fn hfn
      split at h
      · rename_i hl
        simp only [hfn, hl, if_true]
        cases hq : code (acallv prog n) n fn.body (envFrom 0 (first ++ args ++ captured)) H with
        | none => rw [hq] at h; cases h
        | some y => rw [hq] at h; rw [cm hq]; exact h
      · cases h
    · cases h
  | yield l =>
    simp only [acallv] at h ⊢
    split at h
    · rename_i L hL
      try simp only [hL]
      split at h
      · rename_i hl
        rw [if_pos hl]
        cases hq : code (acallv prog n) n L.assign (bindAll L.env L.params args) H with
        | none => rw [hq] at h; cases h
        | some y =>
          rw [hq] at h
          rw [cm hq]
          obtain ⟨x, e1, H1⟩ := y
          cases x with
          | normal =>
            simp only at h ⊢
            split at h
            · rename_i L1 hL1
              try simp only [hL1]
              split at h
              · rename_i hs
                rw [if_pos hs]
                cases hq2 : code (acallv prog n) n L.body e1 (H1.set l (.loop { L1 with state := .busy })) with
                | none => rw [hq2] at h; cases h
                | some z => rw [hq2] at h; rw [cm hq2]; exact h
              · cases h
            · cases h
          | exit i => cases h
          | ret => cases h
      · cases h
    · cases h
  | _ => cases h
theorem acallv_succ {prog : Nat → Option AFunc} : ∀ n, LeC (acallv prog n) (acallv prog (n + 1))
  | 0 => fun f a H r h => by simp [acallv] at h
  | n + 1 => acallv_step (acallv_succ n)
theorem acallv_mono {prog : Nat → Option AFunc} {n m : Nat} (h : n ≤ m) : LeC (acallv prog n) (acallv prog m) := by
  induction h with
  | refl => exact fun _ _ _ _ h => h
  | step _ ih => exact fun f a H r h => acallv_succ _ _ _ _ _ (ih f a H r h)
def CallQ (prog : Nat → Option AFunc) (fv : AV) (args : List AV) (H : AH) (R : AV → AH → Prop) : Prop :=
  ∃ n v H', acallv prog n fv args H = some (v, H') ∧ R v H'
def Wp (prog : Nat → Option AFunc) (c : ACode) (e : Env) (H : AH) (Q : AExit → Env → AH → Prop) : Prop :=
  ∃ n x e' H', code (acallv prog n) n c e H = some (x, e', H') ∧ Q x e' H'
def WpOps (prog : Nat → Option AFunc) (os : List AOper) (e : Env) (H : AH) (Q : Env → AH → Prop) : Prop :=
  ∃ n e' H', aops (acallv prog n) os e H = some (e', H') ∧ Q e' H'
section
variable {prog : Nat → Option AFunc} {e : Env} {H : AH} {Q Q' : AExit → Env → AH → Prop} {R R' : AV → AH → Prop}
theorem CallQ.mono {fv : AV} {args : List AV} (h : CallQ prog fv args H R) (hR : ∀ v H', R v H' → R' v H') : CallQ prog fv args H R' :=
  let ⟨n, v, H', h1, h2⟩ := h; ⟨n, v, H', h1, hR _ _ h2⟩
theorem Wp.mono {c : ACode} (h : Wp prog c e H Q) (hQ : ∀ x e' H', Q x e' H' → Q' x e' H') : Wp prog c e H Q' :=
  let ⟨n, x, e', H', h1, h2⟩ := h; ⟨n, x, e', H', h1, hQ _ _ _ h2⟩
theorem WpOps.mono {os : List AOper} {Q Q' : Env → AH → Prop} (h : WpOps prog os e H Q) (hQ : ∀ e' H', Q e' H' → Q' e' H') : WpOps prog os e H Q' :=
  let ⟨n, e', H', h1, h2⟩ := h; ⟨n, e', H', h1, hQ _ _ h2⟩
theorem code_up {n m : Nat} (hn : n ≤ m) {c : ACode} {e : Env} {H : AH} {r} (h : code (acallv prog n) n c e H = some r) : code (acallv prog m) m c e H = some r :=
  code_mono (acallv_mono hn) hn h
theorem WpOps_nil {Q : Env → AH → Prop} : WpOps prog [] e H Q ↔ Q e H :=
  ⟨fun ⟨_, _, _, h, hq⟩ => by simp only [aops, Option.some.injEq, Prod.mk.injEq] at h; obtain ⟨rfl, rfl⟩ := h; exact hq, fun h => ⟨0, e, H, rfl, h⟩⟩
def aop0 (e : Env) (H : AH) (o : AOp) : ORes := aop (fun _ _ _ => none) e H o
theorem WpOps_step {o : AOper} {os : List AOper} {Q : Env → AH → Prop} (hc : o.op.isCall = false) : WpOps prog (o :: os) e H Q ↔
    match o.wanted e with
    | some true => match aop0 e H o.op with
      | some (v, H') => WpOps prog os (putDst e o.dst v) H' Q
      | none => False
    | some false => WpOps prog os (putDst e o.dst (.tuple [])) H Q
    | none => False := by
  unfold WpOps aop0
  simp only [aops]
  cases hw : o.wanted e with
  | none => simp
  | some b =>
    cases b with
    | false => simp
    | true =>
      simp only
      have hn : ∀ n, aop (acallv prog n) e H o.op = aop (fun _ _ _ => none) e H o.op := fun n => aop_nocall hc
      simp only [hn]
      cases aop (fun _ _ _ => none) e H o.op with
      | none => simp
      | some x => simp
theorem WpOps_call {d : Option Nat} {f : AOpd} {xs : List AOpd} {g : Option (Nat × Bool)} {id : Nat} {pre : List Nat} {os : List AOper} {Q : Env → AH → Prop} {fv : AV} {vs : List AV} (hw : AOper.wanted ⟨d, .call f xs, g, id, pre⟩ e = some true) (hf : f.val e = some fv) (hv : vals e xs = some vs)
    (h : CallQ prog fv vs H fun v H' => WpOps prog os (putDst e d v) H' Q) : WpOps prog (⟨d, .call f xs, g, id, pre⟩ :: os) e H Q := by
  obtain ⟨n, v, H1, h1, m, e2, H2, h2, hq⟩ := h
  refine ⟨max n m, e2, H2, ?_, hq⟩
  simp only [aops, hw, aop, hf, hv, with1, withL]
  rw [acallv_mono (Nat.le_max_left n m) _ _ _ _ h1]
  exact aops_mono (acallv_mono (Nat.le_max_right n m)) h2
theorem Wp_skip (h : Q .normal e H) : Wp prog .skip e H Q := ⟨0, _, _, _, rfl, h⟩
theorem Wp_exit {i : Nat} (h : Q (.exit i) e H) : Wp prog (.exit i) e H Q := ⟨0, _, _, _, rfl, h⟩
theorem Wp_ret (h : Q .ret e H) : Wp prog .ret e H Q := ⟨0, _, _, _, rfl, h⟩
theorem Wp_reg {ops : List AOper} {kp : List Nat} (h : WpOps prog ops e H fun e' H' => Q .normal (e'.keep kp) H') : Wp prog (.reg ops kp) e H Q := by
  obtain ⟨n, e', H', h1, h2⟩ := h
  exact ⟨n, _, _, _, by simp only [code, h1], h2⟩
theorem Wp_seq {a b : ACode} (h : Wp prog a e H fun x e' H' => match x with
    | .normal => Wp prog b e' H' Q
    | x => Q x e' H') : Wp prog (.seq a b) e H Q := by
  obtain ⟨n, x, e1, H1, h1, h2⟩ := h
  cases x with
  | normal =>
    obtain ⟨m, y, e2, H2, h3, h4⟩ := h2
    refine ⟨max n m, y, e2, H2, ?_, h4⟩
    simp only [code]
    rw [code_up (Nat.le_max_left n m) h1]
    exact code_up (Nat.le_max_right n m) h3
  | exit i => exact ⟨n, _, _, _, by simp only [code, h1], h2⟩
  | ret => exact ⟨n, _, _, _, by simp only [code, h1], h2⟩
theorem Wp_cond {c : AOpd} {a b : ACode} {t : Bool} (hc : c.val e = some (.bool t)) (h : if t then Wp prog a e H Q else Wp prog b e H Q) : Wp prog (.cond c a b) e H Q := by
  cases t with
  | true =>
    obtain ⟨n, x, e1, H1, h1, h2⟩ := h
    exact ⟨n, x, e1, H1, by simp only [code, hc, if_true]; exact h1, h2⟩
  | false =>
    obtain ⟨n, x, e1, H1, h1, h2⟩ := h
    exact ⟨n, x, e1, H1, by simp only [code, hc]; exact h1, h2⟩
theorem Wp_block {id : Nat} {a : ACode} (h : Wp prog a e H fun x e' H' => match x with
    | .exit i => if i = id then Q .normal e' H' else Q (.exit i) e' H'
    | x => Q x e' H') : Wp prog (.block id a) e H Q := by
  obtain ⟨n, x, e1, H1, h1, h2⟩ := h
  cases x with
  | exit i =>
    by_cases hi : i = id
    · simp only [hi, if_true] at h2
      exact ⟨n, _, _, _, by simp only [code, h1, hi, if_true], h2⟩
    · simp only [hi, if_false] at h2
      exact ⟨n, _, _, _, by simp only [code, h1, hi, if_false], h2⟩
  | normal => exact ⟨n, _, _, _, by simp only [code, h1], h2⟩
  | ret => exact ⟨n, _, _, _, by simp only [code, h1], h2⟩
theorem Wp_loop {a : ACode} (I : Nat → Env → AH → Prop) (step : ∀ k e H, I k e H → Wp prog a e H fun x e' H' => match x with
    | .normal => ∃ k', k' < k ∧ I k' e' H'
    | x => Q x e' H') : ∀ k e H, I k e H → Wp prog (.loop a) e H Q := by
  intro k
  induction k using Nat.strongRecOn with
  | _ k ih =>
    intro e H hI
    obtain ⟨n, x, e1, H1, h1, h2⟩ := step k e H hI
    cases x with
    | normal =>
      obtain ⟨k', hk, hI'⟩ := h2
      obtain ⟨m, y, e2, H2, h3, h4⟩ := ih k' hk e1 H1 hI'
      refine ⟨max n m + 1, y, e2, H2, ?_, h4⟩
      simp only [code] at h3 ⊢
      simp only [aloop]
      rw [code_up (Nat.le_trans (Nat.le_max_left n m) (Nat.le_succ _)) h1]
      exact aloop_mono (fun e H r h => code_up (Nat.le_trans (Nat.le_max_right n m) (Nat.le_succ _)) h) (Nat.le_max_right n m) h3
    | exit i =>
      refine ⟨n + 1, _, _, _, ?_, h2⟩
      simp only [code, aloop]
      rw [code_up (Nat.le_succ n) h1]
    | ret =>
      refine ⟨n + 1, _, _, _, ?_, h2⟩
      simp only [code, aloop]
      rw [code_up (Nat.le_succ n) h1]
theorem Wp_range {f : AOpd} {ps : List Nat} {as bd : ACode} {g : Nat} {fs cs : List AV} (hf : f.val e = some (.func g fs cs))
    (h : CallQ prog (.func g fs cs) [.yield H.next] (H.alloc (.loop { state := .ready, pending := .normal, env := e, params := ps, assign := as, body := bd })) fun _ H2 =>
      ∃ L, H2.get H.next = some (.loop L) ∧ L.state ≠ .busy ∧ Q L.pending e (H2.set H.next (.loop { L with state := .over }))) : Wp prog (.range f ps as bd) e H Q := by
  obtain ⟨n, v, H2, h1, L, hL, hb, hq⟩ := h
  exact ⟨n, _, _, _, by simp only [code, hf, h1, hL, hb, if_false], hq⟩
theorem CallQ_func {f : Nat} {first captured args : List AV} {fn : AFunc} (hp : prog f = some fn) (hl : (first ++ args ++ captured).length ≤ fn.nt)
    (h : Wp prog fn.body (envFrom 0 (first ++ args ++ captured)) H fun x e' H' => match x with
      | .exit _ => False
      | _ => ∃ vs, resVals e' H' fn.res = some vs ∧ R (oneOf vs) H') : CallQ prog (.func f first captured) args H R := by
  obtain ⟨n, x, e1, H1, h1, h2⟩ := h
  cases x with
  | exit i => exact h2.elim
  | normal =>
    obtain ⟨vs, h3, h4⟩ := h2
    exact ⟨n + 1, _, _, by simp only [acallv, hp, hl, if_true, h1, h3], h4⟩
  | ret =>
    obtain ⟨vs, h3, h4⟩ := h2
    exact ⟨n + 1, _, _, by simp only [acallv, hp, hl, if_true, h1, h3], h4⟩
theorem CallQ_yield {l : Nat} {args : List AV} {L : ALoop} (hL : H.get l = some (.loop L)) (hl : args.length = L.params.length)
    (h : Wp prog L.assign (bindAll L.env L.params args) H fun x e1 H1 => x = .normal ∧ ∃ L1, H1.get l = some (.loop L1) ∧ L1.state = .ready ∧
      Wp prog L.body e1 (H1.set l (.loop { L1 with state := .busy })) fun y _ H2 => ∃ L2, H2.get l = some (.loop L2) ∧ match y with
        | .normal => R (.bool true) (H2.set l (.loop { L2 with state := .ready, pending := .normal }))
        | y => R (.bool false) (H2.set l (.loop { L2 with state := .done, pending := y }))) : CallQ prog (.yield l) args H R := by
  obtain ⟨n, x, e1, H1, h1, rfl, L1, hL1, hs, m, y, e2, H2, h2, L2, hL2, hq⟩ := h
  have k1 := code_up (Nat.le_max_left n m) h1
  have k2 := code_up (Nat.le_max_right n m) h2
  cases y with
  | normal => exact ⟨max n m + 1, _, _, by simp only [acallv, hL, hl, if_true, k1, hL1, hs, k2, hL2], hq⟩
  | exit i => exact ⟨max n m + 1, _, _, by simp only [acallv, hL, hl, if_true, k1, hL1, hs, k2, hL2], hq⟩
  | ret => exact ⟨max n m + 1, _, _, by simp only [acallv, hL, hl, if_true, k1, hL1, hs, k2, hL2], hq⟩
end
end Go.AM
namespace Go.AM
def Then (x : ORes) (k : AV → AH → Prop) : Prop :=
  match x with
  | some (v, H) => k v H
  | none => False
def ThenO (prog : Nat → Option AFunc) (x : ORes) (d : Option Nat) (os : List AOper) (e : Env) (Q : Env → AH → Prop) : Prop :=
  match x with
  | some (v, H) => WpOps prog os (putDst e d v) H Q
  | none => False
section
variable {prog : Nat → Option AFunc} {e : Env} {H : AH} {d : Option Nat} {id : Nat} {pre : List Nat} {os : List AOper} {Q : Env → AH → Prop}
theorem WpOps_n {op : AOp} (hc : op.isCall = false) : WpOps prog (⟨d, op, none, id, pre⟩ :: os) e H Q ↔ Then (aop0 e H op) fun v H' => WpOps prog os (putDst e d v) H' Q := by
  rw [WpOps_step hc]
  simp only [AOper.wanted]
  cases aop0 e H op with
  | none => rfl
  | some x => rfl
def GuardO (prog : Nat → Option AFunc) (x : Option AV) (b : Bool) (d : Option Nat) (op : AOp) (id : Nat) (pre : List Nat) (os : List AOper) (e : Env) (H : AH) (Q : Env → AH → Prop) : Prop :=
  match x with
  | some (.bool x) => bif x == b then WpOps prog (⟨d, op, none, id, pre⟩ :: os) e H Q else WpOps prog os (putDst e d (.tuple [])) H Q
  | some (.tuple []) => WpOps prog os (putDst e d (.tuple [])) H Q
  | _ => False
theorem S_guard {op : AOp} {t : Nat} {b : Bool} : WpOps prog (⟨d, op, some (t, b), id, pre⟩ :: os) e H Q ↔ GuardO prog (e.get t) b d op id pre os e H Q := by
  have key : ∀ w, AOper.wanted ⟨d, op, some (t, b), id, pre⟩ e = w → (WpOps prog (⟨d, op, some (t, b), id, pre⟩ :: os) e H Q ↔ match w with
      | some true => WpOps prog (⟨d, op, none, id, pre⟩ :: os) e H Q
      | some false => WpOps prog os (putDst e d (.tuple [])) H Q
      | none => False) := by
    intro w hw
    unfold WpOps
    simp only [aops, hw]
    cases w with
    | none => simp
    | some b => cases b <;> simp [AOper.wanted]
  rw [key _ rfl]
  simp only [AOper.wanted, GuardO]
  cases hg : e.get t with
  | none => rfl
  | some v =>
    cases v <;> try rfl
    · rename_i x
      cases x <;> cases b <;> rfl
    · rename_i vs
      cases vs <;> rfl
end
theorem W :
    (∀ {prog : Nat → Option AFunc} {e : Env} {H : AH} {d : Option Nat} {id : Nat} {pre : List Nat} {os : List AOper} {Q : Env → AH → Prop} (x : AOpd), WpOps prog (⟨d, .move x, none, id, pre⟩ :: os) e H Q ↔ ThenO prog (aop0 e H (.move x)) d os e Q) ∧
    (∀ {prog : Nat → Option AFunc} {e : Env} {H : AH} {d : Option Nat} {id : Nat} {pre : List Nat} {os : List AOper} {Q : Env → AH → Prop} (c a b : AOpd), WpOps prog (⟨d, .pick c a b, none, id, pre⟩ :: os) e H Q ↔ ThenO prog (aop0 e H (.pick c a b)) d os e Q) ∧
    (∀ {prog : Nat → Option AFunc} {e : Env} {H : AH} {d : Option Nat} {id : Nat} {pre : List Nat} {os : List AOper} {Q : Env → AH → Prop} (zero : List AV), WpOps prog (⟨d, .alloc zero, none, id, pre⟩ :: os) e H Q ↔ ThenO prog (aop0 e H (.alloc zero)) d os e Q) ∧
    (∀ {prog : Nat → Option AFunc} {e : Env} {H : AH} {d : Option Nat} {id : Nat} {pre : List Nat} {os : List AOper} {Q : Env → AH → Prop} (x : AOpd), WpOps prog (⟨d, .box x, none, id, pre⟩ :: os) e H Q ↔ ThenO prog (aop0 e H (.box x)) d os e Q) ∧
    (∀ {prog : Nat → Option AFunc} {e : Env} {H : AH} {d : Option Nat} {id : Nat} {pre : List Nat} {os : List AOper} {Q : Env → AH → Prop} (zero : List AV) (parts : List (Nat × Nat × AOpd)), WpOps prog (⟨d, .build zero parts, none, id, pre⟩ :: os) e H Q ↔ ThenO prog (aop0 e H (.build zero parts)) d os e Q) ∧
    (∀ {prog : Nat → Option AFunc} {e : Env} {H : AH} {d : Option Nat} {id : Nat} {pre : List Nat} {os : List AOper} {Q : Env → AH → Prop} (len sz : Nat) (zero : List AV) (parts : List (Nat × Nat × AOpd)), WpOps prog (⟨d, .mkslice len sz zero parts, none, id, pre⟩ :: os) e H Q ↔ ThenO prog (aop0 e H (.mkslice len sz zero parts)) d os e Q) ∧
    (∀ {prog : Nat → Option AFunc} {e : Env} {H : AH} {d : Option Nat} {id : Nat} {pre : List Nat} {os : List AOper} {Q : Env → AH → Prop} (a : AOpd), WpOps prog (⟨d, .load a, none, id, pre⟩ :: os) e H Q ↔ ThenO prog (aop0 e H (.load a)) d os e Q) ∧
    (∀ {prog : Nat → Option AFunc} {e : Env} {H : AH} {d : Option Nat} {id : Nat} {pre : List Nat} {os : List AOper} {Q : Env → AH → Prop} (n : Nat) (a : AOpd), WpOps prog (⟨d, .loadN n a, none, id, pre⟩ :: os) e H Q ↔ ThenO prog (aop0 e H (.loadN n a)) d os e Q) ∧
    (∀ {prog : Nat → Option AFunc} {e : Env} {H : AH} {d : Option Nat} {id : Nat} {pre : List Nat} {os : List AOper} {Q : Env → AH → Prop} (n : Nat) (a x : AOpd), WpOps prog (⟨d, .store n a x, none, id, pre⟩ :: os) e H Q ↔ ThenO prog (aop0 e H (.store n a x)) d os e Q) ∧
    (∀ {prog : Nat → Option AFunc} {e : Env} {H : AH} {d : Option Nat} {id : Nat} {pre : List Nat} {os : List AOper} {Q : Env → AH → Prop} (x : AOpd), WpOps prog (⟨d, .nilCheck x, none, id, pre⟩ :: os) e H Q ↔ ThenO prog (aop0 e H (.nilCheck x)) d os e Q) ∧
    (∀ {prog : Nat → Option AFunc} {e : Env} {H : AH} {d : Option Nat} {id : Nat} {pre : List Nat} {os : List AOper} {Q : Env → AH → Prop} (op : BinOp) (x y : AOpd), WpOps prog (⟨d, .bin op x y, none, id, pre⟩ :: os) e H Q ↔ ThenO prog (aop0 e H (.bin op x y)) d os e Q) ∧
    (∀ {prog : Nat → Option AFunc} {e : Env} {H : AH} {d : Option Nat} {id : Nat} {pre : List Nat} {os : List AOper} {Q : Env → AH → Prop} (g : Bool) (ks : List SK) (neg : Bool) (x y : AOpd), WpOps prog (⟨d, .eqFlat g ks neg x y, none, id, pre⟩ :: os) e H Q ↔ ThenO prog (aop0 e H (.eqFlat g ks neg x y)) d os e Q) ∧
    (∀ {prog : Nat → Option AFunc} {e : Env} {H : AH} {d : Option Nat} {id : Nat} {pre : List Nat} {os : List AOper} {Q : Env → AH → Prop} (k : NK) (neg : Bool) (x y : AOpd), WpOps prog (⟨d, .eqNil k neg x y, none, id, pre⟩ :: os) e H Q ↔ ThenO prog (aop0 e H (.eqNil k neg x y)) d os e Q) ∧
    (∀ {prog : Nat → Option AFunc} {e : Env} {H : AH} {d : Option Nat} {id : Nat} {pre : List Nat} {os : List AOper} {Q : Env → AH → Prop} (op : UnOp) (x : AOpd), WpOps prog (⟨d, .un op x, none, id, pre⟩ :: os) e H Q ↔ ThenO prog (aop0 e H (.un op x)) d os e Q) ∧
    (∀ {prog : Nat → Option AFunc} {e : Env} {H : AH} {d : Option Nat} {id : Nat} {pre : List Nat} {os : List AOper} {Q : Env → AH → Prop} (k : IntKind) (x : AOpd), WpOps prog (⟨d, .toInt k x, none, id, pre⟩ :: os) e H Q ↔ ThenO prog (aop0 e H (.toInt k x)) d os e Q) ∧
    (∀ {prog : Nat → Option AFunc} {e : Env} {H : AH} {d : Option Nat} {id : Nat} {pre : List Nat} {os : List AOper} {Q : Env → AH → Prop} (x : AOpd), WpOps prog (⟨d, .strId x, none, id, pre⟩ :: os) e H Q ↔ ThenO prog (aop0 e H (.strId x)) d os e Q) ∧
    (∀ {prog : Nat → Option AFunc} {e : Env} {H : AH} {d : Option Nat} {id : Nat} {pre : List Nat} {os : List AOper} {Q : Env → AH → Prop} (f : Nat) (first captured : List AOpd), WpOps prog (⟨d, .func f first captured, none, id, pre⟩ :: os) e H Q ↔ ThenO prog (aop0 e H (.func f first captured)) d os e Q) ∧
    (∀ {prog : Nat → Option AFunc} {e : Env} {H : AH} {d : Option Nat} {id : Nat} {pre : List Nat} {os : List AOper} {Q : Env → AH → Prop} , WpOps prog (⟨d, .makeMap, none, id, pre⟩ :: os) e H Q ↔ ThenO prog (aop0 e H .makeMap) d os e Q) ∧
    (∀ {prog : Nat → Option AFunc} {e : Env} {H : AH} {d : Option Nat} {id : Nat} {pre : List Nat} {os : List AOper} {Q : Env → AH → Prop} (sz bytes : Nat) (zero : List AV) (len cap : AOpd), WpOps prog (⟨d, .makeSlice sz bytes zero len cap, none, id, pre⟩ :: os) e H Q ↔ ThenO prog (aop0 e H (.makeSlice sz bytes zero len cap)) d os e Q) ∧
    (∀ {prog : Nat → Option AFunc} {e : Env} {H : AH} {d : Option Nat} {id : Nat} {pre : List Nat} {os : List AOper} {Q : Env → AH → Prop} (x : AOpd) (lo hi : Option AOpd), WpOps prog (⟨d, .sliceStr x lo hi, none, id, pre⟩ :: os) e H Q ↔ ThenO prog (aop0 e H (.sliceStr x lo hi)) d os e Q) ∧
    (∀ {prog : Nat → Option AFunc} {e : Env} {H : AH} {d : Option Nat} {id : Nat} {pre : List Nat} {os : List AOper} {Q : Env → AH → Prop} (sz : Nat) (x : AOpd) (lo hi : Option AOpd), WpOps prog (⟨d, .sliceSl sz x lo hi, none, id, pre⟩ :: os) e H Q ↔ ThenO prog (aop0 e H (.sliceSl sz x lo hi)) d os e Q) ∧
    (∀ {prog : Nat → Option AFunc} {e : Env} {H : AH} {d : Option Nat} {id : Nat} {pre : List Nat} {os : List AOper} {Q : Env → AH → Prop} (n sz : Nat) (x : AOpd) (lo hi : Option AOpd), WpOps prog (⟨d, .sliceArr n sz x lo hi, none, id, pre⟩ :: os) e H Q ↔ ThenO prog (aop0 e H (.sliceArr n sz x lo hi)) d os e Q) ∧
    (∀ {prog : Nat → Option AFunc} {e : Env} {H : AH} {d : Option Nat} {id : Nat} {pre : List Nat} {os : List AOper} {Q : Env → AH → Prop} (n : Nat) (x : AOpd), WpOps prog (⟨d, .off n x, none, id, pre⟩ :: os) e H Q ↔ ThenO prog (aop0 e H (.off n x)) d os e Q) ∧
    (∀ {prog : Nat → Option AFunc} {e : Env} {H : AH} {d : Option Nat} {id : Nat} {pre : List Nat} {os : List AOper} {Q : Env → AH → Prop} (sz : Nat) (x i : AOpd), WpOps prog (⟨d, .idxSl sz x i, none, id, pre⟩ :: os) e H Q ↔ ThenO prog (aop0 e H (.idxSl sz x i)) d os e Q) ∧
    (∀ {prog : Nat → Option AFunc} {e : Env} {H : AH} {d : Option Nat} {id : Nat} {pre : List Nat} {os : List AOper} {Q : Env → AH → Prop} (len sz : Nat) (x i : AOpd), WpOps prog (⟨d, .idxArr len sz x i, none, id, pre⟩ :: os) e H Q ↔ ThenO prog (aop0 e H (.idxArr len sz x i)) d os e Q) ∧
    (∀ {prog : Nat → Option AFunc} {e : Env} {H : AH} {d : Option Nat} {id : Nat} {pre : List Nat} {os : List AOper} {Q : Env → AH → Prop} (off : Nat) (x : AOpd), WpOps prog (⟨d, .part off x, none, id, pre⟩ :: os) e H Q ↔ ThenO prog (aop0 e H (.part off x)) d os e Q) ∧
    (∀ {prog : Nat → Option AFunc} {e : Env} {H : AH} {d : Option Nat} {id : Nat} {pre : List Nat} {os : List AOper} {Q : Env → AH → Prop} (off n : Nat) (x : AOpd), WpOps prog (⟨d, .partN off n x, none, id, pre⟩ :: os) e H Q ↔ ThenO prog (aop0 e H (.partN off n x)) d os e Q) ∧
    (∀ {prog : Nat → Option AFunc} {e : Env} {H : AH} {d : Option Nat} {id : Nat} {pre : List Nat} {os : List AOper} {Q : Env → AH → Prop} (len sz : Nat) (isAgg : Bool) (x i : AOpd), WpOps prog (⟨d, .at len sz isAgg x i, none, id, pre⟩ :: os) e H Q ↔ ThenO prog (aop0 e H (.at len sz isAgg x i)) d os e Q) ∧
    (∀ {prog : Nat → Option AFunc} {e : Env} {H : AH} {d : Option Nat} {id : Nat} {pre : List Nat} {os : List AOper} {Q : Env → AH → Prop} (x i : AOpd), WpOps prog (⟨d, .byteAt x i, none, id, pre⟩ :: os) e H Q ↔ ThenO prog (aop0 e H (.byteAt x i)) d os e Q) ∧
    (∀ {prog : Nat → Option AFunc} {e : Env} {H : AH} {d : Option Nat} {id : Nat} {pre : List Nat} {os : List AOper} {Q : Env → AH → Prop} (g : Bool) (ks : List SK) (zero : AV) (ok : Bool) (m k : AOpd), WpOps prog (⟨d, .lookup g ks zero ok m k, none, id, pre⟩ :: os) e H Q ↔ ThenO prog (aop0 e H (.lookup g ks zero ok m k)) d os e Q) ∧
    (∀ {prog : Nat → Option AFunc} {e : Env} {H : AH} {d : Option Nat} {id : Nat} {pre : List Nat} {os : List AOper} {Q : Env → AH → Prop} (g : Bool) (ks : List SK) (m k v : AOpd), WpOps prog (⟨d, .update g ks m k v, none, id, pre⟩ :: os) e H Q ↔ ThenO prog (aop0 e H (.update g ks m k v)) d os e Q) ∧
    (∀ {prog : Nat → Option AFunc} {e : Env} {H : AH} {d : Option Nat} {id : Nat} {pre : List Nat} {os : List AOper} {Q : Env → AH → Prop} (x : AOpd), WpOps prog (⟨d, .rangeStr x, none, id, pre⟩ :: os) e H Q ↔ ThenO prog (aop0 e H (.rangeStr x)) d os e Q) ∧
    (∀ {prog : Nat → Option AFunc} {e : Env} {H : AH} {d : Option Nat} {id : Nat} {pre : List Nat} {os : List AOper} {Q : Env → AH → Prop} (it : AOpd), WpOps prog (⟨d, .nextStr it, none, id, pre⟩ :: os) e H Q ↔ ThenO prog (aop0 e H (.nextStr it)) d os e Q) ∧
    (∀ {prog : Nat → Option AFunc} {e : Env} {H : AH} {d : Option Nat} {id : Nat} {pre : List Nat} {os : List AOper} {Q : Env → AH → Prop} (i : Nat) (x : AOpd), WpOps prog (⟨d, .extract i x, none, id, pre⟩ :: os) e H Q ↔ ThenO prog (aop0 e H (.extract i x)) d os e Q) ∧
    (∀ {prog : Nat → Option AFunc} {e : Env} {H : AH} {d : Option Nat} {id : Nat} {pre : List Nat} {os : List AOper} {Q : Env → AH → Prop} (isStr : Bool) (x : AOpd), WpOps prog (⟨d, .len isStr x, none, id, pre⟩ :: os) e H Q ↔ ThenO prog (aop0 e H (.len isStr x)) d os e Q) ∧
    (∀ {prog : Nat → Option AFunc} {e : Env} {H : AH} {d : Option Nat} {id : Nat} {pre : List Nat} {os : List AOper} {Q : Env → AH → Prop} (x : AOpd), WpOps prog (⟨d, .lenMap x, none, id, pre⟩ :: os) e H Q ↔ ThenO prog (aop0 e H (.lenMap x)) d os e Q) ∧
    (∀ {prog : Nat → Option AFunc} {e : Env} {H : AH} {d : Option Nat} {id : Nat} {pre : List Nat} {os : List AOper} {Q : Env → AH → Prop} (sz bytes : Nat) (s x : AOpd), WpOps prog (⟨d, .append sz bytes s x, none, id, pre⟩ :: os) e H Q ↔ ThenO prog (aop0 e H (.append sz bytes s x)) d os e Q) ∧
    (∀ {prog : Nat → Option AFunc} {e : Env} {H : AH} {d : Option Nat} {id : Nat} {pre : List Nat} {os : List AOper} {Q : Env → AH → Prop} (sz : Nat) (y s : AOpd), WpOps prog (⟨d, .copy sz y s, none, id, pre⟩ :: os) e H Q ↔ ThenO prog (aop0 e H (.copy sz y s)) d os e Q) ∧
    (∀ {prog : Nat → Option AFunc} {e : Env} {H : AH} {d : Option Nat} {id : Nat} {pre : List Nat} {os : List AOper} {Q : Env → AH → Prop} (x : AOpd) (xs : List AOpd), WpOps prog (⟨d, .maxInt x xs, none, id, pre⟩ :: os) e H Q ↔ ThenO prog (aop0 e H (.maxInt x xs)) d os e Q) ∧
    (∀ {prog : Nat → Option AFunc} {e : Env} {H : AH} {d : Option Nat} {id : Nat} {pre : List Nat} {os : List AOper} {Q : Env → AH → Prop} (x : AOpd) (xs : List AOpd), WpOps prog (⟨d, .minInt x xs, none, id, pre⟩ :: os) e H Q ↔ ThenO prog (aop0 e H (.minInt x xs)) d os e Q) ∧
    (∀ {prog : Nat → Option AFunc} {e : Env} {H : AH} {Q : Env → AH → Prop}, WpOps prog [] e H Q ↔ Q e H) ∧
    (∀ {prog : Nat → Option AFunc} {v : AV} {H : AH} {d : Option Nat} {os : List AOper} {e : Env} {Q : Env → AH → Prop}, ThenO prog (some (v, H)) d os e Q ↔ WpOps prog os (putDst e d v) H Q) ∧
    (∀ {prog : Nat → Option AFunc} {e : Env} {H : AH} {d : Option Nat} {id : Nat} {pre : List Nat} {os : List AOper} {Q : Env → AH → Prop} {op : AOp} {t : Nat} {b : Bool}, WpOps prog (⟨d, op, some (t, b), id, pre⟩ :: os) e H Q ↔ GuardO prog (e.get t) b d op id pre os e H Q) ∧
    (∀ {prog : Nat → Option AFunc} {e : Env} {H : AH} {d : Option Nat} {id : Nat} {pre : List Nat} {os : List AOper} {Q : Env → AH → Prop} {op : AOp}, GuardO prog (some (.bool true)) true d op id pre os e H Q ↔ WpOps prog (⟨d, op, none, id, pre⟩ :: os) e H Q) ∧
    (∀ {prog : Nat → Option AFunc} {e : Env} {H : AH} {d : Option Nat} {id : Nat} {pre : List Nat} {os : List AOper} {Q : Env → AH → Prop} {op : AOp}, GuardO prog (some (.bool false)) false d op id pre os e H Q ↔ WpOps prog (⟨d, op, none, id, pre⟩ :: os) e H Q) ∧
    (∀ {prog : Nat → Option AFunc} {e : Env} {H : AH} {d : Option Nat} {id : Nat} {pre : List Nat} {os : List AOper} {Q : Env → AH → Prop} {op : AOp}, GuardO prog (some (.bool true)) false d op id pre os e H Q ↔ WpOps prog os (putDst e d (.tuple [])) H Q) ∧
    (∀ {prog : Nat → Option AFunc} {e : Env} {H : AH} {d : Option Nat} {id : Nat} {pre : List Nat} {os : List AOper} {Q : Env → AH → Prop} {op : AOp}, GuardO prog (some (.bool false)) true d op id pre os e H Q ↔ WpOps prog os (putDst e d (.tuple [])) H Q) ∧
    (∀ {prog : Nat → Option AFunc} {e : Env} {H : AH} {d : Option Nat} {id : Nat} {pre : List Nat} {os : List AOper} {Q : Env → AH → Prop} {op : AOp} {b : Bool}, GuardO prog (some (.tuple [])) b d op id pre os e H Q ↔ WpOps prog os (putDst e d (.tuple [])) H Q) :=
  ⟨by intros; exact WpOps_n rfl,
   by intros; exact WpOps_n rfl,
   by intros; exact WpOps_n rfl,
   by intros; exact WpOps_n rfl,
   by intros; exact WpOps_n rfl,
   by intros; exact WpOps_n rfl,
   by intros; exact WpOps_n rfl,
   by intros; exact WpOps_n rfl,
   by intros; exact WpOps_n rfl,
   by intros; exact WpOps_n rfl,
   by intros; exact WpOps_n rfl,
   by intros; exact WpOps_n rfl,
   by intros; exact WpOps_n rfl,
   by intros; exact WpOps_n rfl,
   by intros; exact WpOps_n rfl,
   by intros; exact WpOps_n rfl,
   by intros; exact WpOps_n rfl,
   by intros; exact WpOps_n rfl,
   by intros; exact WpOps_n rfl,
   by intros; exact WpOps_n rfl,
   by intros; exact WpOps_n rfl,
   by intros; exact WpOps_n rfl,
   by intros; exact WpOps_n rfl,
   by intros; exact WpOps_n rfl,
   by intros; exact WpOps_n rfl,
   by intros; exact WpOps_n rfl,
   by intros; exact WpOps_n rfl,
   by intros; exact WpOps_n rfl,
   by intros; exact WpOps_n rfl,
   by intros; exact WpOps_n rfl,
   by intros; exact WpOps_n rfl,
   by intros; exact WpOps_n rfl,
   by intros; exact WpOps_n rfl,
   by intros; exact WpOps_n rfl,
   by intros; exact WpOps_n rfl,
   by intros; exact WpOps_n rfl,
   by intros; exact WpOps_n rfl,
   by intros; exact WpOps_n rfl,
   by intros; exact WpOps_n rfl,
   by intros; exact WpOps_n rfl,
   WpOps_nil,
   Iff.rfl,
   S_guard,
   by intros; exact Iff.rfl,
   by intros; exact Iff.rfl,
   by intros; exact Iff.rfl,
   by intros; exact Iff.rfl,
   by intros; exact Iff.rfl⟩
theorem E1 :
    (∀ (e : Env) (H : AH) (x : AOpd), aop0 e H (.move x) = pureV H (x.val e)) ∧
    (∀ (e : Env) (H : AH) (c : AOpd) (a : AOpd) (b : AOpd), aop0 e H (.pick c a b) = with1 (c.val e) fun c => with1 (a.val e) fun a => with1 (b.val e) fun b => opPick c a b H) ∧
    (∀ (e : Env) (H : AH) (zero : List AV), aop0 e H (.alloc zero) = opAlloc zero H) ∧
    (∀ (e : Env) (H : AH) (x : AOpd), aop0 e H (.box x) = with1 (x.val e) fun v => opBox v H) ∧
    (∀ (e : Env) (H : AH) (zero : List AV) (parts : List (Nat × Nat × AOpd)), aop0 e H (.build zero parts) = withP (partVals e parts) fun ps => opBuild zero ps H) ∧
    (∀ (e : Env) (H : AH) (len : Nat) (sz : Nat) (zero : List AV) (parts : List (Nat × Nat × AOpd)), aop0 e H (.mkslice len sz zero parts) = withP (partVals e parts) fun ps => opMkslice len sz zero ps H) ∧
    (∀ (e : Env) (H : AH) (a : AOpd), aop0 e H (.load a) = with1 (a.val e) fun v => opLoad v H) ∧
    (∀ (e : Env) (H : AH) (n : Nat) (a : AOpd), aop0 e H (.loadN n a) = with1 (a.val e) fun v => opLoadN n v H) ∧
    (∀ (e : Env) (H : AH) (n : Nat) (a : AOpd) (x : AOpd), aop0 e H (.store n a x) = with1 (a.val e) fun a => with1 (x.val e) fun v => opStore n a v H) ∧
    (∀ (e : Env) (H : AH) (x : AOpd), aop0 e H (.nilCheck x) = with1 (x.val e) fun v => opNilCheck v H) ∧
    (∀ (e : Env) (H : AH) (op : BinOp) (x : AOpd) (y : AOpd), aop0 e H (.bin op x y) = with1 (x.val e) fun v => with1 (y.val e) fun u => pureV H (binA op v u)) ∧
    (∀ (e : Env) (H : AH) (g : Bool) (ks : List SK) (neg : Bool) (x : AOpd) (y : AOpd), aop0 e H (.eqFlat g ks neg x y) = with1 (x.val e) fun v => with1 (y.val e) fun u => boolOf H neg (eqFlatA g ks v u)) ∧
    (∀ (e : Env) (H : AH) (k : NK) (neg : Bool) (x : AOpd) (y : AOpd), aop0 e H (.eqNil k neg x y) = with1 (x.val e) fun v => with1 (y.val e) fun u => boolOf H neg (eqNilA k v u)) ∧
    (∀ (e : Env) (H : AH) (op : UnOp) (x : AOpd), aop0 e H (.un op x) = with1 (x.val e) fun v => opUn op v H) ∧
    (∀ (e : Env) (H : AH) (k : IntKind) (x : AOpd), aop0 e H (.toInt k x) = with1 (x.val e) fun v => opToInt k v H) ∧
    (∀ (e : Env) (H : AH) (x : AOpd), aop0 e H (.strId x) = with1 (x.val e) fun v => opStrId v H) ∧
    (∀ (e : Env) (H : AH) (f : Nat) (first : List AOpd) (captured : List AOpd), aop0 e H (.func f first captured) = withL (vals e first) fun a => withL (vals e captured) fun b => some (.func f a b, H)) ∧
    (∀ (e : Env) (H : AH) , aop0 e H .makeMap = some (.map H.next, H.alloc (.map []))) ∧
    (∀ (e : Env) (H : AH) (sz : Nat) (bytes : Nat) (zero : List AV) (len : AOpd) (cap : AOpd), aop0 e H (.makeSlice sz bytes zero len cap) = with1 (len.val e) fun l => with1 (cap.val e) fun c => opMakeSlice sz bytes zero l c H) ∧
    (∀ (e : Env) (H : AH) (x : AOpd) (lo : Option AOpd) (hi : Option AOpd), aop0 e H (.sliceStr x lo hi) = with1 (x.val e) fun v => withO (optVal e lo) fun lo => withO (optVal e hi) fun hi => opSliceStr v lo hi H) ∧
    (∀ (e : Env) (H : AH) (sz : Nat) (x : AOpd) (lo : Option AOpd) (hi : Option AOpd), aop0 e H (.sliceSl sz x lo hi) = with1 (x.val e) fun v => withO (optVal e lo) fun lo => withO (optVal e hi) fun hi => opSliceSl sz v lo hi H) ∧
    (∀ (e : Env) (H : AH) (n : Nat) (sz : Nat) (x : AOpd) (lo : Option AOpd) (hi : Option AOpd), aop0 e H (.sliceArr n sz x lo hi) = with1 (x.val e) fun v => withO (optVal e lo) fun lo => withO (optVal e hi) fun hi => opSliceArr n sz v lo hi H) ∧
    (∀ (e : Env) (H : AH) (n : Nat) (x : AOpd), aop0 e H (.off n x) = with1 (x.val e) fun v => opOff n v H) ∧
    (∀ (e : Env) (H : AH) (sz : Nat) (x : AOpd) (i : AOpd), aop0 e H (.idxSl sz x i) = with1 (x.val e) fun v => with1 (i.val e) fun i => opIdxSl sz v i H) ∧
    (∀ (e : Env) (H : AH) (len : Nat) (sz : Nat) (x : AOpd) (i : AOpd), aop0 e H (.idxArr len sz x i) = with1 (x.val e) fun v => with1 (i.val e) fun i => opIdxArr len sz v i H) ∧
    (∀ (e : Env) (H : AH) (o : Nat) (x : AOpd), aop0 e H (.part o x) = with1 (x.val e) fun v => opPart o v H) ∧
    (∀ (e : Env) (H : AH) (o : Nat) (n : Nat) (x : AOpd), aop0 e H (.partN o n x) = with1 (x.val e) fun v => opPartN o n v H) ∧
    (∀ (e : Env) (H : AH) (len : Nat) (sz : Nat) (g : Bool) (x : AOpd) (i : AOpd), aop0 e H (.at len sz g x i) = with1 (x.val e) fun v => with1 (i.val e) fun i => opAt len sz g v i H) ∧
    (∀ (e : Env) (H : AH) (x : AOpd) (i : AOpd), aop0 e H (.byteAt x i) = with1 (x.val e) fun v => with1 (i.val e) fun i => opByteAt v i H) ∧
    (∀ (e : Env) (H : AH) (g : Bool) (ks : List SK) (zero : AV) (ok : Bool) (m : AOpd) (k : AOpd), aop0 e H (.lookup g ks zero ok m k) = with1 (m.val e) fun m => with1 (k.val e) fun k => opLookup g ks zero ok m k H) ∧
    (∀ (e : Env) (H : AH) (g : Bool) (ks : List SK) (m : AOpd) (k : AOpd) (v : AOpd), aop0 e H (.update g ks m k v) = with1 (m.val e) fun m => with1 (k.val e) fun k => with1 (v.val e) fun v => opUpdate g ks m k v H) ∧
    (∀ (e : Env) (H : AH) (x : AOpd), aop0 e H (.rangeStr x) = with1 (x.val e) fun v => opRangeStr v H) ∧
    (∀ (e : Env) (H : AH) (x : AOpd), aop0 e H (.nextStr x) = with1 (x.val e) fun v => opNextStr v H) ∧
    (∀ (e : Env) (H : AH) (i : Nat) (x : AOpd), aop0 e H (.extract i x) = with1 (x.val e) fun v => opExtract i v H) ∧
    (∀ (e : Env) (H : AH) (s : Bool) (x : AOpd), aop0 e H (.len s x) = with1 (x.val e) fun v => opLen s v H) ∧
    (∀ (e : Env) (H : AH) (x : AOpd), aop0 e H (.lenMap x) = with1 (x.val e) fun v => opLenMap v H) ∧
    (∀ (e : Env) (H : AH) (sz : Nat) (bytes : Nat) (s : AOpd) (x : AOpd), aop0 e H (.append sz bytes s x) = with1 (s.val e) fun s => with1 (x.val e) fun x => appendA H sz bytes s x) ∧
    (∀ (e : Env) (H : AH) (sz : Nat) (d : AOpd) (s : AOpd), aop0 e H (.copy sz d s) = with1 (d.val e) fun d => with1 (s.val e) fun s => copyA H sz d s) ∧
    (∀ (e : Env) (H : AH) (x : AOpd) (xs : List AOpd), aop0 e H (.maxInt x xs) = with1 (x.val e) fun v => withL (vals e xs) fun vs => pureV H (max2A v vs)) ∧
    (∀ (e : Env) (H : AH) (x : AOpd) (xs : List AOpd), aop0 e H (.minInt x xs) = with1 (x.val e) fun v => withL (vals e xs) fun vs => pureV H (min2A v vs)) :=
  ⟨fun _ _ _ => rfl,
   fun _ _ _ _ _ => rfl,
   fun _ _ _ => rfl,
   fun _ _ _ => rfl,
   fun _ _ _ _ => rfl,
   fun _ _ _ _ _ _ => rfl,
   fun _ _ _ => rfl,
   fun _ _ _ _ => rfl,
   fun _ _ _ _ _ => rfl,
   fun _ _ _ => rfl,
   fun _ _ _ _ _ => rfl,
   fun _ _ _ _ _ _ _ => rfl,
   fun _ _ _ _ _ _ => rfl,
   fun _ _ _ _ => rfl,
   fun _ _ _ _ => rfl,
   fun _ _ _ => rfl,
   fun _ _ _ _ _ => rfl,
   fun _ _ => rfl,
   fun _ _ _ _ _ _ _ => rfl,
   fun _ _ _ _ _ => rfl,
   fun _ _ _ _ _ _ => rfl,
   fun _ _ _ _ _ _ _ => rfl,
   fun _ _ _ _ => rfl,
   fun _ _ _ _ _ => rfl,
   fun _ _ _ _ _ _ => rfl,
   fun _ _ _ _ => rfl,
   fun _ _ _ _ _ => rfl,
   fun _ _ _ _ _ _ _ => rfl,
   fun _ _ _ _ => rfl,
   fun _ _ _ _ _ _ _ _ => rfl,
   fun _ _ _ _ _ _ _ => rfl,
   fun _ _ _ => rfl,
   fun _ _ _ => rfl,
   fun _ _ _ _ => rfl,
   fun _ _ _ _ => rfl,
   fun _ _ _ => rfl,
   fun _ _ _ _ _ _ => rfl,
   fun _ _ _ _ _ => rfl,
   fun _ _ _ _ => rfl,
   fun _ _ _ _ => rfl⟩
theorem E2 :
    (∀ {v : AV} {f : AV → ORes}, with1 (some v) f = f v) ∧
    (∀ {v : List AV} {f : List AV → ORes}, withL (some v) f = f v) ∧
    (∀ {v : List (Nat × Nat × AV)} {f : List (Nat × Nat × AV) → ORes}, withP (some v) f = f v) ∧
    (∀ {v : Option AV} {f : Option AV → ORes}, withO (some v) f = f v) ∧
    (∀ {H : AH} {v : AV}, pureV H (some v) = some (v, H)) ∧
    (∀ {H : AH} {v : List AV}, aggOf H (some v) = some (.agg v, H)) ∧
    (∀ {H : AH}, unitOf (some H) = some (.tuple [], H)) ∧
    (∀ {H : AH} {n t : Bool}, boolOf H n (some t) = some (.bool (t != n), H)) ∧
    (∀ {e : Env} {t : Nat}, AOpd.val e (.s t) = e.get t) ∧
    (∀ {e : Env} {v : AV}, AOpd.val e (.c v) = some v) ∧
    (∀ {e : Env}, vals e [] = some []) ∧
    (∀ {e : Env}, optVal e none = some none) ∧
    (∀ {e : Env}, partVals e [] = some []) ∧
    (∀ {e : Env} {k t : Nat} {v : AV}, Env.get ((k, v) :: e) t = if k = t then some v else Env.get e t) ∧
    (∀ {t : Nat} {v : AV}, Env.put [] t v = [(t, v)]) ∧
    (∀ {e : Env} {k t : Nat} {u v : AV}, Env.put ((k, u) :: e) t v = if k = t then (k, v) :: e else (k, u) :: Env.put e t v) ∧
    (∀ {l : List Nat}, Env.keep [] l = []) ∧
    (∀ {e : Env} {k : Nat} {u : AV} {l : List Nat}, Env.keep ((k, u) :: e) l = if hasNat l k then (k, u) :: Env.keep e l else Env.keep e l) ∧
    (∀ {t : Nat}, hasNat [] t = false) ∧
    (∀ {k t : Nat} {l : List Nat}, hasNat (k :: l) t = if k = t then true else hasNat l t) ∧
    (∀ {e : Env} {t : Nat} {v : AV}, putDst e (some t) v = e.put t v) ∧
    (∀ {e : Env} {v : AV}, putDst e none v = e) ∧
    (∀ {H : AH} {t : Bool} {a b : AV}, opPick (.bool t) a b H = some (if t then a else b, H)) ∧
    (∀ {H : AH} {cs : List AV}, opAlloc cs H = some (.ptr H.next 0, H.alloc (.cells false cs))) ∧
    (∀ {H : AH} {cs : List AV}, opBox (.agg cs) H = some (.ptr H.next 0, H.alloc (.cells false cs))) ∧
    (∀ {H : AH} {k : IntKind} {n : Int}, opBox (.int k n) H = some (.ptr H.next 0, H.alloc (.cells false [.int k n]))) ∧
    (∀ {H : AH} {b : Bool}, opBox (.bool b) H = some (.ptr H.next 0, H.alloc (.cells false [.bool b]))) ∧
    (∀ {H : AH} {b : ByteArray}, opBox (.str b) H = some (.ptr H.next 0, H.alloc (.cells false [.str b]))) ∧
    (∀ {H : AH} {b i : Nat}, opBox (.ptr b i) H = some (.ptr H.next 0, H.alloc (.cells false [.ptr b i]))) ∧
    (∀ {H : AH} {b i l z : Nat}, opBox (.slice b i l z) H = some (.ptr H.next 0, H.alloc (.cells false [.slice b i l z]))) ∧
    (∀ {H : AH}, opBox .nilslice H = some (.ptr H.next 0, H.alloc (.cells false [.nilslice]))) ∧
    (∀ {H : AH} {f : Nat} {a b : List AV}, opBox (.func f a b) H = some (.ptr H.next 0, H.alloc (.cells false [.func f a b]))) ∧
    (∀ {H : AH} {l : Nat}, opBox (.yield l) H = some (.ptr H.next 0, H.alloc (.cells false [.yield l]))) ∧
    (∀ {H : AH} {b i : Nat}, opLoad (.ptr b i) H = pureV H (H.read1 b i)) ∧
    (∀ {H : AH} {n b i : Nat}, opLoadN n (.ptr b i) H = aggOf H (H.read b i n)) ∧
    (∀ {H : AH} {b i : Nat}, opNilCheck (.ptr b i) H = some (.ptr b i, H)) ∧
    (∀ {H : AH} {f : Nat} {a b : List AV}, opNilCheck (.func f a b) H = some (.func f a b, H)) ∧
    (∀ {H : AH} {l : Nat}, opNilCheck (.yield l) H = some (.yield l, H)) ∧
    (∀ {H : AH} {b i n : Nat}, opOff n (.ptr b i) H = some (.ptr b (i + n), H)) ∧
    (∀ {H : AH} {b : Bool}, opUn .not (.bool b) H = some (.bool !b, H)) ∧
    (∀ {H : AH} {k : IntKind} {n : Int}, opUn .neg (.int k n) H = some (.int k (k.wrap (0 - n)), H)) ∧
    (∀ {H : AH} {j k : IntKind} {n : Int}, opToInt k (.int j n) H = some (.int k (k.wrap n), H)) ∧
    (∀ {H : AH} {s : ByteArray}, opStrId (.str s) H = some (.str s, H)) ∧
    (∀ {H : AH} {o : Nat} {cs : List AV}, opPart o (.agg cs) H = pureV H cs[o]?) ∧
    (∀ {H : AH} {o n : Nat} {cs : List AV}, opPartN o n (.agg cs) H = aggOf H (readN cs o n)) ∧
    (∀ {H : AH} {i : Nat} {vs : List AV}, opExtract i (.tuple vs) H = pureV H vs[i]?) ∧
    (∀ {H : AH} {s : ByteArray}, opLen true (.str s) H = some (.int .i64 s.size, H)) ∧
    (∀ {H : AH} {b i l z : Nat}, opLen false (.slice b i l z) H = some (.int .i64 l, H)) ∧
    (∀ {H : AH}, opLen false .nilslice H = some (.int .i64 0, H)) ∧
    (∀ {H : AH} {s : ByteArray}, opRangeStr (.str s) H = some (.ptr H.next 0, H.alloc (.strIter s 0))) ∧
    (∀ {k : Nat}, natOf (.int .i64 (k : Int)) = some k) ∧
    (∀ {x : AV} , max2A x [] = some x) ∧
    (∀ {x : AV} , min2A x [] = some x) ∧
    (∀ {a b : Int} {k : IntKind} {vs : List AV}, max2A (.int k a) (.int k b :: vs) = max2A (.int k (max a b)) vs) ∧
    (∀ {a b : Int} {k : IntKind} {vs : List AV}, min2A (.int k a) (.int k b :: vs) = min2A (.int k (min a b)) vs) ∧
    (∀ {k : IntKind} {a b : Int}, binA .add (.int k a) (.int k b) = some (.int k (k.wrap (a + b)))) ∧
    (∀ {k : IntKind} {a b : Int}, binA .sub (.int k a) (.int k b) = some (.int k (k.wrap (a - b)))) ∧
    (∀ {k : IntKind} {a b : Int}, binA .mul (.int k a) (.int k b) = some (.int k (k.wrap (a * b)))) ∧
    (∀ {k : IntKind} {a b : Int}, binA .quo (.int k a) (.int k b) = if b = 0 then none else some (.int k (k.wrap (a.tdiv b)))) ∧
    (∀ {k : IntKind} {a b : Int}, binA .rem (.int k a) (.int k b) = if b = 0 then none else some (.int k (a.tmod b))) ∧
    (∀ {k : IntKind} {a b : Int}, binA .eql (.int k a) (.int k b) = some (.bool (decide (a = b)))) ∧
    (∀ {k : IntKind} {a b : Int}, binA .neq (.int k a) (.int k b) = some (.bool (!decide (a = b)))) ∧
    (∀ {k : IntKind} {a b : Int}, binA .lss (.int k a) (.int k b) = some (.bool (decide (a < b)))) ∧
    (∀ {k : IntKind} {a b : Int}, binA .leq (.int k a) (.int k b) = some (.bool (decide (a ≤ b)))) ∧
    (∀ {k : IntKind} {a b : Int}, binA .gtr (.int k a) (.int k b) = some (.bool (decide (b < a)))) ∧
    (∀ {k : IntKind} {a b : Int}, binA .geq (.int k a) (.int k b) = some (.bool (decide (b ≤ a)))) :=
  ⟨by intros; rfl,
   by intros; rfl,
   by intros; rfl,
   by intros; rfl,
   by intros; rfl,
   by intros; rfl,
   by intros; rfl,
   by intros; rfl,
   by intros; rfl,
   by intros; rfl,
   by intros; rfl,
   by intros; rfl,
   by intros; rfl,
   by intros; rfl,
   by intros; rfl,
   by intros; rfl,
   by intros; rfl,
   by intros; rfl,
   by intros; rfl,
   by intros; rfl,
   by intros; rfl,
   by intros; rfl,
   by intros; rfl,
   by intros; rfl,
   by intros; rfl,
   by intros; rfl,
   by intros; rfl,
   by intros; rfl,
   by intros; rfl,
   by intros; rfl,
   by intros; rfl,
   by intros; rfl,
   by intros; rfl,
   by intros; rfl,
   by intros; rfl,
   by intros; rfl,
   by intros; rfl,
   by intros; rfl,
   by intros; rfl,
   by intros; rfl,
   by intros; rfl,
   by intros; rfl,
   by intros; rfl,
   by intros; rfl,
   by intros; rfl,
   by intros; rfl,
   by intros; rfl,
   by intros; rfl,
   by intros; rfl,
   by intros; rfl,
   by intro k; simp [natOf],
   by intro x; cases x <;> rfl,
   by intro x; cases x <;> rfl,
   by intro a b k vs; simp only [max2A, if_true]; congr 2; omega,
   by intro a b k vs; simp only [min2A, if_true]; congr 2; omega,
   by intro k a b; simp [binA],
   by intro k a b; simp [binA],
   by intro k a b; simp [binA],
   by intro k a b; simp [binA],
   by intro k a b; simp [binA],
   by intro k a b; simp [binA]; rfl,
   by intro k a b; simp [binA]; rfl,
   by intro k a b; simp [binA],
   by intro k a b; simp [binA],
   by intro k a b; simp [binA],
   by intro k a b; simp [binA]⟩
theorem vals_cons {e : Env} {x : AOpd} {xs : List AOpd} : vals e (x :: xs) = (match x.val e with
    | some v => match vals e xs with
      | some vs => some (v :: vs)
      | none => none
    | none => none) := rfl
theorem optVal_some {e : Env} {x : AOpd} : optVal e (some x) = (match x.val e with
    | some v => some (some v)
    | none => none) := rfl
theorem partVals_cons {e : Env} {o n : Nat} {x : AOpd} {xs : List (Nat × Nat × AOpd)} : partVals e ((o, n, x) :: xs) = (match x.val e with
    | some v => match partVals e xs with
      | some vs => some ((o, n, v) :: vs)
      | none => none
    | none => none) := rfl
end Go.AM
namespace Go.AM
structure Grew (H H' : AH) : Prop where
  next : H.next ≤ H'.next
  get : ∀ b, b < H.next → H'.get b = H.get b
theorem Grew.refl (H : AH) : Grew H H := ⟨Nat.le_refl _, fun _ _ => rfl⟩
theorem Grew.trans {H H' H'' : AH} (h : Grew H H') (h' : Grew H' H'') : Grew H H'' :=
  ⟨Nat.le_trans h.next h'.next, fun b hb => (h'.get b (Nat.lt_of_lt_of_le hb h.next)).trans (h.get b hb)⟩
theorem Grew.alloc {H H' : AH} (h : Grew H H') (o : AObj) : Grew H (H'.alloc o) :=
  ⟨Nat.le_trans h.next (Nat.le_succ _), fun b hb => by
    have := h.next
    rw [AH.get_alloc, if_neg (by omega)]; exact h.get b hb⟩
theorem Grew.set {H H' : AH} (h : Grew H H') {b : Nat} (o : AObj) (hb : H.next ≤ b) : Grew H (H'.set b o) :=
  ⟨h.next, fun k hk => by rw [AH.get_set, if_neg (by omega)]; exact h.get k hk⟩
theorem Grew.read {H H' : AH} (h : Grew H H') {b i n : Nat} (hb : b < H.next) : H'.read b i n = H.read b i n := by
  unfold AH.read; rw [h.get b hb]
theorem Grew.read1 {H H' : AH} (h : Grew H H') {b i : Nat} (hb : b < H.next) : H'.read1 b i = H.read1 b i := by
  unfold AH.read1; rw [h.get b hb]
theorem get_alloc_new (H : AH) (o : AObj) : (H.alloc o).get H.next = some o := by rw [AH.get_alloc, if_pos rfl]
theorem get_alloc_old {H : AH} {o : AObj} {b : Nat} (h : b < H.next) : (H.alloc o).get b = H.get b := by rw [AH.get_alloc, if_neg (by omega)]
theorem get_set_same (H : AH) (b : Nat) (o : AObj) : (H.set b o).get b = some o := by rw [AH.get_set, if_pos rfl]
theorem get_set_other {H : AH} {o : AObj} {b k : Nat} (h : k ≠ b) : (H.set b o).get k = H.get k := by rw [AH.get_set, if_neg h]
inductive Rows {α : Type} (z : Nat) (E : List AV → α → Prop) : List AV → List α → Prop where
  | nil : Rows z E [] []
  | cons {cs : List AV} {a : α} {cells : List AV} {l : List α} (hz : cs.length = z) (h : E cs a) (t : Rows z E cells l) : Rows z E (cs ++ cells) (a :: l)
namespace Rows
variable {α : Type} {z : Nat} {E E' : List AV → α → Prop}
theorem mono (h : ∀ cs a, E cs a → E' cs a) : ∀ {cells : List AV} {l : List α}, Rows z E cells l → Rows z E' cells l
  | _, _, .nil => .nil
  | _, _, .cons hz ha t => .cons hz (h _ _ ha) (mono h t)
theorem length : ∀ {cells : List AV} {l : List α}, Rows z E cells l → cells.length = l.length * z
  | _, _, .nil => by simp
  | _, _, .cons hz _ t => by simp [hz, length t, Nat.add_mul]; omega
theorem append : ∀ {c1 : List AV} {l1 : List α} {c2 : List AV} {l2 : List α}, Rows z E c1 l1 → Rows z E c2 l2 → Rows z E (c1 ++ c2) (l1 ++ l2)
  | _, _, _, _, .nil, h => h
  | _, _, _, _, .cons hz ha t, h => by rw [List.append_assoc]; exact .cons hz ha (append t h)
theorem single {cs : List AV} {a : α} (hz : cs.length = z) (h : E cs a) : Rows z E cs [a] := by
  have := Rows.cons hz h (Rows.nil (z := z) (E := E))
  simpa using this
theorem take : ∀ {cells : List AV} {l : List α} (k : Nat), Rows z E cells l → k ≤ l.length → Rows z E (cells.take (k * z)) (l.take k)
  | _, _, 0, _, _ => by simpa using Rows.nil
  | _, _, k + 1, .nil, h => by simp at h
  | _, _, k + 1, .cons (cs := cs) hz ha t, h => by
    have : (k + 1) * z = cs.length + k * z := by rw [hz, Nat.add_mul]; omega
    rw [this, List.take_length_add_append]
    exact .cons hz ha (take k t (by simpa using h))
theorem drop : ∀ {cells : List AV} {l : List α} (k : Nat), Rows z E cells l → k ≤ l.length → Rows z E (cells.drop (k * z)) (l.drop k)
  | _, _, 0, h, _ => by simpa using h
  | _, _, k + 1, .nil, h => by simp at h
  | _, _, k + 1, .cons (cs := cs) hz ha t, h => by
    have : (k + 1) * z = cs.length + k * z := by rw [hz, Nat.add_mul]; omega
    rw [this, List.drop_length_add_append]
    exact drop k t (by simpa using h)
theorem at_ : ∀ {cells : List AV} {l : List α} (k : Nat) (hk : k < l.length), Rows z E cells l → ∃ cs, cs.length = z ∧ E cs l[k] ∧ readN cells (k * z) z = some cs ∧ ∀ j, j < z → cells[k * z + j]? = cs[j]?
  | _, _, k, hk, .nil => by simp at hk
  | _, _, 0, _, .cons (cs := cs) hz ha t => by
    refine ⟨cs, hz, ha, ?_, fun j hj => ?_⟩
    · unfold readN
      rw [Nat.zero_mul, Nat.zero_add, List.length_append, if_pos (by omega), List.drop_zero, ← hz, List.take_left]
    · rw [Nat.zero_mul, Nat.zero_add, List.getElem?_append_left (by omega)]
  | _, _, k + 1, hk, .cons (cs := cs) hz ha t => by
    obtain ⟨c, h1, h2, h3, h4⟩ := at_ k (by simpa using hk) t
    have e : (k + 1) * z = cs.length + k * z := by rw [hz, Nat.add_mul]; omega
    refine ⟨c, h1, by simpa using h2, ?_, fun j hj => ?_⟩
    · unfold readN at h3 ⊢
      rw [e, List.drop_length_add_append, List.length_append]
      split at h3
      · rw [if_pos (by omega)]; exact h3
      · cases h3
    · rw [e, List.getElem?_append_right (by omega), ← h4 j hj]
      congr 1; omega
theorem set : ∀ {cells : List AV} {l : List α} (k : Nat) (_ : k < l.length) {cs : List AV} {a : α}, Rows z E cells l → cs.length = z → E cs a → ∃ cells', writeN cells (k * z) cs = some cells' ∧ Rows z E cells' (l.set k a)
  | _, _, k, hk, _, _, .nil, _, _ => by simp at hk
  | _, _, 0, _, cs', a', .cons (cs := cs) (cells := cells) hz ha t, hz', ha' => by
    have : ∀ (xs ys rest : List AV), xs.length = ys.length → writeN (xs ++ rest) 0 ys = some (ys ++ rest) := fun xs => by
      induction xs with
      | nil =>
        intro ys rest h
        cases ys with
        | nil => cases rest <;> rfl
        | cons y ys => simp at h
      | cons x xs ih => intro ys rest h; cases ys with
        | nil => simp at h
        | cons y ys =>
          have := ih ys rest (by simpa using h)
          simp only [List.cons_append, writeN, this, Option.map_some]
    exact ⟨cs' ++ cells, by rw [Nat.zero_mul]; exact this _ _ _ (by omega), .cons hz' ha' t⟩
  | _, _, k + 1, hk, cs', a', .cons (cs := cs) hz ha t, hz', ha' => by
    obtain ⟨c, h1, h2⟩ := set k (by simpa using hk) t hz' ha'
    have e : (k + 1) * z = cs.length + k * z := by rw [hz, Nat.add_mul]; omega
    have : ∀ (xs rest : List AV) (i : Nat) (ys r : List AV), writeN rest i ys = some r → writeN (xs ++ rest) (xs.length + i) ys = some (xs ++ r) := fun xs => by
      induction xs with
      | nil => intro rest i ys r h; simpa using h
      | cons x xs ih => intro rest i ys r h; cases ys with
        | nil =>
          have : r = rest := by
            have h' : writeN rest i [] = some rest := by cases rest <;> rfl
            rw [h'] at h; exact (Option.some.inj h).symm
          subst this; rfl
        | cons y ys =>
          rw [show (x :: xs).length + i = (xs.length + i) + 1 from by simp; omega]
          have := ih rest i (y :: ys) r h
          simp only [List.cons_append, writeN, this, Option.map_some]
    exact ⟨cs ++ c, by rw [e]; exact this _ _ _ _ _ h1, .cons hz ha h2⟩
end Rows
abbrev Elem (α : Type) := (Nat → Prop) → AH → List AV → α → Prop
def IsSl {α : Type} (z : Nat) (E : Elem α) (F : Nat → Prop) (H : AH) (v : AV) (l : List α) : Prop :=
  (v = .nilslice ∧ l = []) ∨ ∃ b i cells, v = .slice b i l.length z ∧ F b ∧ H.read b i (l.length * z) = some cells ∧ Rows z (E F H) cells l
abbrev Old (H : AH) : Nat → Prop := fun b => b < H.next
def Keeps (F F' : Nat → Prop) (H H' : AH) : Prop := ∀ b, F b → F' b ∧ H'.get b = H.get b
theorem Grew.keeps {H H' : AH} (h : Grew H H') : Keeps (Old H) (Old H') H H' := fun b hb => ⟨Nat.lt_of_lt_of_le hb h.next, h.get b hb⟩
theorem Keeps.refl (F : Nat → Prop) (H : AH) : Keeps F F H H := fun _ h => ⟨h, rfl⟩
theorem Keeps.trans {F F' F'' : Nat → Prop} {H H' H'' : AH} (h : Keeps F F' H H') (h' : Keeps F' F'' H' H'') : Keeps F F'' H H'' := fun b hb => ⟨(h' b (h b hb).1).1, (h' b (h b hb).1).2.trans (h b hb).2⟩
def Stays {α : Type} (E : Elem α) : Prop := ∀ F F' H H' cs a, Keeps F F' H H' → E F H cs a → E F' H' cs a
section
variable {α : Type} {z : Nat} {E : Elem α} {F F' : Nat → Prop} {H H' : AH} {v : AV} {l : List α}
theorem IsSl.move (hE : Stays E) (hk : Keeps F F' H H') (h : IsSl z E F H v l) : IsSl z E F' H' v l := by
  rcases h with h | ⟨b, i, cells, h1, h2, h3, h4⟩
  · exact .inl h
  · refine .inr ⟨b, i, cells, h1, (hk b h2).1, ?_, h4.mono fun cs a h => hE _ _ _ _ _ _ hk h⟩
    unfold AH.read at h3 ⊢
    rw [(hk b h2).2]; exact h3
theorem IsSl.len (h : IsSl z E F H v l) (S : AH) : opLen false v S = some (.int .i64 l.length, S) := by
  rcases h with ⟨rfl, rfl⟩ | ⟨b, i, cells, rfl, _⟩ <;> rfl
theorem IsSl.lenA (h : IsSl z E F H v l) : lenA v = some l.length := by
  rcases h with ⟨rfl, rfl⟩ | ⟨b, i, cells, rfl, _⟩ <;> rfl
theorem IsSl.isCell (h : IsSl z E F H v l) : v.isCell = true := by
  rcases h with ⟨rfl, rfl⟩ | ⟨b, i, cells, rfl, _⟩ <;> rfl
theorem IsSl.cells? (h : IsSl z E F H v l) : v.cells? = some [v] := by
  rcases h with ⟨rfl, rfl⟩ | ⟨b, i, cells, rfl, _⟩ <;> rfl
theorem IsSl.src (h : IsSl z E F H v l) : ∃ cells, srcCells H z l.length v = some cells ∧ Rows z (E F H) cells l := by
  rcases h with ⟨rfl, rfl⟩ | ⟨b, i, cells, rfl, h2, h3, h4⟩
  · exact ⟨[], rfl, .nil⟩
  · exact ⟨cells, by simp [srcCells, h3], h4⟩
theorem IsSl.at_ (h : IsSl z E F H v l) {k : Nat} (hk : k < l.length) : ∃ b i ro vs cs, (∀ S, opIdxSl z v (.int .i64 (k : Int)) S = some (.ptr b i, S)) ∧ F b ∧ H.get b = some (.cells ro vs) ∧ cs.length = z ∧ E F H cs l[k] ∧ i + z ≤ vs.length ∧ (vs.drop i).take z = cs ∧ ∀ j, j < z → vs[i + j]? = cs[j]? := by
  rcases h with ⟨rfl, rfl⟩ | ⟨b, i, cells, rfl, h2, h3, h4⟩
  · simp at hk
  · obtain ⟨cs, q1, q2, q3, q4⟩ := h4.at_ k hk
    unfold AH.read at h3
    split at h3
    · rename_i ro vs hvs
      unfold readN at h3
      split at h3
      · rename_i hle
        simp only [Option.some.injEq] at h3; subst h3
        have hm : (k + 1) * z ≤ l.length * z := Nat.mul_le_mul_right _ hk
        rw [Nat.add_mul] at hm
        refine ⟨b, i + k * z, ro, vs, cs, fun S => by simp [opIdxSl, natOf, hk], h2, hvs, q1, q2, by omega, ?_, fun j hj => ?_⟩
        · unfold readN at q3
          split at q3
          · simp only [Option.some.injEq] at q3
            rw [← q3, List.drop_take, List.drop_drop, List.take_take]
            congr 1; omega
          · cases q3
        · rw [← q4 j hj, List.getElem?_take, if_pos (by omega), List.getElem?_drop]
          congr 1; omega
      · cases h3
    · cases h3
def Own (z : Nat) (E : Elem α) (F : Nat → Prop) (N : Nat) (H : AH) (v : AV) (l : List α) : Prop :=
  (v = .nilslice ∧ l = []) ∨ ∃ b i vs cells, v = .slice b i l.length z ∧ ¬ F b ∧ N ≤ b ∧ b < H.next ∧ H.get b = some (.cells false vs) ∧ readN vs i (l.length * z) = some cells ∧ Rows z (E F H) cells l
theorem Own.sl {N : Nat} (h : Own z E F N H v l) (hE : Stays E) : IsSl z E (fun b => F b ∨ ∃ i n z, v = .slice b i n z) H v l := by
  rcases h with h | ⟨b, i, vs, cells, h1, _, _, _, h2, h3, h4⟩
  · exact .inl h
  · refine .inr ⟨b, i, cells, h1, .inr ⟨_, _, _, h1⟩, ?_, h4.mono fun cs a h => hE _ _ _ _ _ _ (fun b hb => ⟨.inl hb, rfl⟩) h⟩
    unfold AH.read; rw [h2]; exact h3
theorem Own.len {N : Nat} (h : Own z E F N H v l) (S : AH) : opLen false v S = some (.int .i64 l.length, S) := by
  rcases h with ⟨rfl, rfl⟩ | ⟨b, i, vs, cells, rfl, _⟩ <;> rfl
theorem Own.isCell {N : Nat} (h : Own z E F N H v l) : v.isCell = true := by
  rcases h with ⟨rfl, rfl⟩ | ⟨b, i, vs, cells, rfl, _⟩ <;> rfl
theorem Own.spine {N : Nat} (h : Own z E F N H v l) {b i n y : Nat} (hv : v = .slice b i n y) : ¬ F b ∧ N ≤ b ∧ b < H.next := by
  rcases h with ⟨rfl, _⟩ | ⟨b', i', vs, cells, rfl, h2, h3, h4, _⟩
  · cases hv
  · simp only [AV.slice.injEq] at hv
    obtain ⟨rfl, _⟩ := hv
    exact ⟨h2, h3, h4⟩
theorem Own.move {N : Nat} (hE : Stays E) (hk : Keeps F F' H H') (hF : ∀ b i n z, v = .slice b i n z → ¬ F' b ∧ H'.get b = H.get b) (hn : H.next ≤ H'.next) (h : Own z E F N H v l) : Own z E F' N H' v l := by
  rcases h with h | ⟨b, i, vs, cells, h1, h2, hN, h3, h4, h5, h6⟩
  · exact .inl h
  · obtain ⟨q1, q2⟩ := hF _ _ _ _ h1
    exact .inr ⟨b, i, vs, cells, h1, q1, hN, Nat.lt_of_lt_of_le h3 hn, q2.trans h4, h5, h6.mono fun cs a h => hE _ _ _ _ _ _ hk h⟩
theorem Own.alloc {N : Nat} (hE : Stays E) (hF : ∀ b, F b → b < H.next) (o : AObj) (h : Own z E F N H v l) : Own z E F N (H.alloc o) v l :=
  h.move hE (fun b hb => ⟨hb, get_alloc_old (hF b hb)⟩) (fun b i n z hv => ⟨(h.spine hv).1, get_alloc_old (h.spine hv).2.2⟩) (Nat.le_succ _)
theorem Own.append {N bytes : Nat} {x : AV} {new : List AV} {l2 : List α} (hE : Stays E) (h : Own z E F N H v l) (hF : ∀ b, F b → b < H.next) (hN : N ≤ H.next) (hx : AM.lenA x = some l2.length) (hs : srcCells H z l2.length x = some new) (hr : Rows z (E F H) new l2)
    (hc : new.all AV.isCell = true) (hroom : l.length + l2.length ≤ roomA ∧ (l.length + l2.length) * bytes ≤ roomA) :
    ∃ v' H', appendA H z bytes v x = some (v', H') ∧ Own z E F N H' v' (l ++ l2) ∧ H.next ≤ H'.next ∧ (∀ k, k < H.next → (∀ i n z, v ≠ .slice k i n z) → H'.get k = H.get k) := by
  unfold appendA
  simp only [hx, hs]
  rcases h with ⟨rfl, rfl⟩ | ⟨b, i, vs, cells, rfl, h2, hNb, h3, h4, h5, h6⟩
  · by_cases h0 : l2.length = 0
    · simp only [h0, if_true]
      have : l2 = [] := List.length_eq_zero_iff.1 h0
      subst this
      exact ⟨_, _, rfl, .inl ⟨rfl, rfl⟩, Nat.le_refl _, fun _ _ _ => rfl⟩
    · simp only [List.length_nil, Nat.zero_add] at hroom
      simp only [h0, if_false, hroom, and_self, if_true]
      refine ⟨_, _, rfl, .inr ⟨H.next, 0, new, new, rfl, fun hf => absurd (hF _ hf) (by omega), hN, by simp, get_alloc_new _ _, ?_, hr.mono fun cs a h => hE _ _ _ _ _ _ (fun b hb => ⟨hb, get_alloc_old (hF b hb)⟩) h⟩, by simp, fun k hk _ => get_alloc_old hk⟩
      have := hr.length
      simp only [List.nil_append, readN, Nat.zero_add, this, Nat.le_refl, if_true, List.drop_zero]
      rw [← this, List.take_length]
  · by_cases h0 : l2.length = 0
    · simp only [h0, if_true]
      have : l2 = [] := List.length_eq_zero_iff.1 h0
      subst this
      rw [List.append_nil]
      exact ⟨_, _, rfl, .inr ⟨b, i, vs, cells, rfl, h2, hNb, h3, h4, h5, h6⟩, Nat.le_refl _, fun _ _ _ => rfl⟩
    · simp only [h0, if_false, h4, h5, hroom, hc, and_self, if_true]
      have hset : ∀ k, k ≠ b → k < H.next → ((H.set b .dead).alloc (.cells false (cells ++ new))).get k = H.get k := fun k hk hlt => by
        rw [AH.get_alloc, if_neg (by simp; omega), AH.get_set, if_neg hk]
      have hkeep : Keeps F F H ((H.set b .dead).alloc (.cells false (cells ++ new))) := fun k hk => ⟨hk, hset k (fun e => h2 (e ▸ hk)) (hF k hk)⟩
      have hl1 := h6.length
      have hl2 := hr.length
      refine ⟨_, _, rfl, .inr ⟨H.next, 0, cells ++ new, cells ++ new, by simp, fun hf => absurd (hF _ hf) (by omega), hN, by simp, ?_, ?_, (h6.append hr).mono fun cs a h => hE _ _ _ _ _ _ hkeep h⟩, by simp, fun k hk hne => hset k (fun e => hne i l.length z (by rw [e])) hk⟩
      · rw [AH.get_alloc, if_pos (by simp)]
      · simp only [readN, List.length_append, Nat.zero_add, hl1, hl2, Nat.add_mul, Nat.le_refl, if_true, List.drop_zero]
        rw [List.take_of_length_le (by rw [List.length_append, hl1, hl2]; omega)]
end
def EInt : Elem Int := fun _ _ cs n => cs = [.int .i64 n]
theorem EInt.stays : Stays EInt := fun _ _ _ _ _ _ _ h => h
abbrev IsInts (F : Nat → Prop) (H : AH) (v : AV) (l : List Int) : Prop := IsSl 1 EInt F H v l
theorem IsInts.at_ {F : Nat → Prop} {H : AH} {v : AV} {l : List Int} (h : IsSl 1 EInt F H v l) {k : Nat} (hk : k < l.length) : ∃ b i ro vs, (∀ S, opIdxSl 1 v (.int .i64 (k : Int)) S = some (.ptr b i, S)) ∧ F b ∧ H.get b = some (.cells ro vs) ∧ vs[i]? = some (.int .i64 l[k]) := by
  obtain ⟨b, i, ro, vs, cs, h1, h2, h3, h4, h5, _, _, h6⟩ := IsSl.at_ h hk
  refine ⟨b, i, ro, vs, h1, h2, h3, ?_⟩
  have := h6 0 (by omega)
  rw [h5] at this
  simpa using this
def EStr : Elem ByteArray := fun _ _ cs s => cs = [.str s]
theorem EStr.stays : Stays EStr := fun _ _ _ _ _ _ _ h => h
def ESl {α : Type} (z : Nat) (E : Elem α) : Elem (List α) := fun F H cs l => ∃ v, cs = [v] ∧ IsSl z E F H v l
theorem ESl.stays {α : Type} {z : Nat} {E : Elem α} (hE : Stays E) : Stays (ESl z E) := fun _ _ _ _ _ _ hk ⟨v, h1, h2⟩ => ⟨v, h1, h2.move hE hk⟩
end Go.AM
namespace Go.AM
structure LR where
  o : AOper
  f : AH → ORes
  v : AV
structure HR where
  S : AH
  over : List AOper
  todo : List AOper
def okAt (l : LR) (h : HR) : Prop := admits l.o h.over h.todo = true → ∃ H', l.f h.S = some (l.v, H')
def effsO (os : List AOper) : List AOper := os.filter (·.isEff)
def okAll (ls : List LR) (h : HR) : Prop := match ls with
  | [] => True
  | l :: ls => okAt l h ∧ okAll ls h
def okOne (l : LR) (hs : List HR) : Prop := match hs with
  | [] => True
  | h :: hs => okAt l h ∧ okOne l hs
def EffQ (prog : Nat → Option AFunc) (e : Env) (H : AH) (o : AOp) (k : AV → AH → Prop) : Prop :=
  match o with
  | .call f xs => match f.val e, vals e xs with
    | some fv, some vs => CallQ prog fv vs H k
    | _, _ => False
  | o => Then (aop0 e H o) k
def WpD (prog : Nat → Option AFunc) : List AOper → Env → AH → List AOper → List LR → List HR → (Env → AH → Prop) → Prop
  | [], e, H, over, ls, _, Q => okAll ls ⟨H, over, []⟩ ∧ Q e H
  | o :: os, e, H, over, ls, hs, Q =>
    match o.wanted e with
    | some true =>
      match o.op.cls with
      | .eff => okAll ls ⟨H, over, o :: effsO os⟩ ∧ EffQ prog e H o.op fun v H' => WpD prog os (putDst e o.dst v) H' (over ++ [o]) ls (hs ++ [⟨H, over, o :: effsO os⟩]) Q
      | .load => Then (aop0 e H o.op) fun v H' => okOne ⟨o, fun S => aop0 e S o.op, v⟩ hs ∧ WpD prog os (putDst e o.dst v) H' over (ls ++ [⟨o, fun S => aop0 e S o.op, v⟩]) hs Q
      | _ => Then (aop0 e H o.op) fun v H' => WpD prog os (putDst e o.dst v) H' over ls hs Q
    | some false =>
      match o.op.cls with
      | .eff => okAll ls ⟨H, over, o :: effsO os⟩ ∧ WpD prog os (putDst e o.dst (.tuple [])) H (over ++ [o]) ls (hs ++ [⟨H, over, o :: effsO os⟩]) Q
      | _ => WpD prog os (putDst e o.dst (.tuple [])) H over ls hs Q
    | none => False
def heads (last : AH) : List AOper → List Step → List HR
  | over, [] => [⟨last, over, []⟩]
  | over, s :: ss => if s.o.isEff then ⟨s.before, over, s.o :: (ss.filter (·.o.isEff)).map (·.o)⟩ :: heads last (over ++ [s.o]) ss else heads last over ss
theorem stable_heads {c : ACall} {all : List Step} {last : AH} : ∀ {l : List Step} {over : List AOper}, (∀ h ∈ heads last over l, ∀ s ∈ all, stableIn c h.S h.over h.todo s = true) → stable c all over l last = true
  | [], over, h => by
    simp only [stable, List.all_eq_true]
    exact fun s hs => h ⟨last, over, []⟩ (by simp [heads]) s hs
  | x :: l, over, h => by
    simp only [stable]
    by_cases hx : x.o.isEff = true
    · simp only [heads, hx, if_true] at h
      simp only [hx, if_true, Bool.and_eq_true, List.all_eq_true]
      exact ⟨fun s hs => h ⟨x.before, over, _⟩ (List.mem_cons_self ..) s hs, stable_heads fun k hk => h k (by simp [hk])⟩
    · simp only [heads, hx, Bool.false_eq_true, if_false] at h
      simp only [hx, Bool.false_eq_true, if_false]
      exact stable_heads h
def lrOf (s : Step) : LR := ⟨s.o, fun S => aop0 s.env S s.o.op, s.v⟩
def isLd (s : Step) : Prop := s.want = true ∧ s.o.op.cls = .load
theorem stableIn_of {c : ACall} {s : Step} {h : HR} (hok : isLd s → okAt (lrOf s) h) : stableIn c h.S h.over h.todo s = true := by
  unfold stableIn
  split
  · rename_i hc
    simp only [Bool.and_eq_true, decide_eq_true_eq] at hc
    obtain ⟨H', hH⟩ := hok ⟨hc.1.1, hc.1.2⟩ hc.2
    have hn : s.o.op.isCall = false := by
      have := hc.1.2
      cases ho : s.o.op <;> rw [ho] at this <;> simp [AOp.cls] at this <;> rfl
    have : aop c s.env h.S s.o.op = some (s.v, H') := by
      rw [aop_nocall (c := c) (c' := fun _ _ _ => none) hn]; exact hH
    rw [this]
    exact eqA_refl _
  · rfl
theorem okAll_mem : ∀ {ls : List LR} {h : HR}, okAll ls h → ∀ l ∈ ls, okAt l h
  | [], _, _, _, hm => by simp at hm
  | l :: ls, h, hk, x, hm => by
    rcases List.mem_cons.1 hm with rfl | hm
    · exact hk.1
    · exact okAll_mem hk.2 x hm
theorem okOne_mem {l : LR} : ∀ {hs : List HR}, okOne l hs → ∀ h ∈ hs, okAt l h
  | [], _, _, hm => by simp at hm
  | h :: hs, hk, x, hm => by
    rcases List.mem_cons.1 hm with rfl | hm
    · exact hk.1
    · exact okOne_mem hk.2 x hm
theorem aopsT_effs {c : ACall} {os : List AOper} {e : Env} {H : AH} {l : List Step} {e' : Env} {H' : AH} (h : aopsT c os e H = some (l, e', H')) : (l.filter (·.o.isEff)).map (·.o) = effsO os := by
  have hmap : ∀ {os : List AOper} {e : Env} {H : AH} {l : List Step} {e' : Env} {H' : AH}, aopsT c os e H = some (l, e', H') → l.map (·.o) = os := by
    intro os
    induction os with
    | nil => intro e H l e' H' h; simp only [aopsT, Option.some.injEq, Prod.mk.injEq] at h; rw [← h.1]; rfl
    | cons o os ih =>
      intro e H l e' H' h
      simp only [aopsT] at h
      split at h
      · split at h
        · split at h
          · rename_i hq
            simp only [Option.some.injEq, Prod.mk.injEq] at h
            rw [← h.1, List.map_cons, ih hq]
          · cases h
        · cases h
      · split at h
        · rename_i hq
          simp only [Option.some.injEq, Prod.mk.injEq] at h
          rw [← h.1, List.map_cons, ih hq]
        · cases h
      · cases h
  rw [← hmap h]
  unfold effsO
  rw [List.filter_map]
  rfl
theorem EffQ_run {prog : Nat → Option AFunc} {e : Env} {H : AH} {o : AOp} {k : AV → AH → Prop} (h : EffQ prog e H o k) : ∃ n v H', aop (acallv prog n) e H o = some (v, H') ∧ k v H' := by
  cases hc : o.isCall with
  | true =>
    cases o <;> simp only [AOp.isCall, reduceCtorEq] at hc
    simp only [EffQ] at h
    split at h
    · rename_i fv vs h1 h2
      obtain ⟨n, v, H', h3, h4⟩ := h
      exact ⟨n, v, H', by simp only [aop, h1, h2, with1, withL]; exact h3, h4⟩
    · exact h.elim
  | false =>
    have h' : Then (aop0 e H o) k := by cases o <;> first | exact h | (simp [AOp.isCall] at hc)
    cases hq : aop0 e H o with
    | none => rw [hq] at h'; exact h'.elim
    | some x =>
      rw [hq] at h'
      exact ⟨0, x.1, x.2, by rw [aop_nocall (c' := fun _ _ _ => none) hc]; exact hq, h'⟩
theorem Then_run {prog : Nat → Option AFunc} {e : Env} {H : AH} {o : AOp} {k : AV → AH → Prop} (hn : o.isCall = false) (h : Then (aop0 e H o) k) : ∃ v H', (∀ n, aop (acallv prog n) e H o = some (v, H')) ∧ k v H' := by
  cases hq : aop0 e H o with
  | none => rw [hq] at h; exact h.elim
  | some x =>
    rw [hq] at h
    exact ⟨x.1, x.2, fun n => by rw [aop_nocall (c' := fun _ _ _ => none) hn]; exact hq, h⟩
theorem WpD_run {prog : Nat → Option AFunc} {Q : Env → AH → Prop} : ∀ {os : List AOper} {e : Env} {H : AH} {over : List AOper} {ls : List LR} {hs : List HR}, WpD prog os e H over ls hs Q →
    ∃ n l e' H', aopsT (acallv prog n) os e H = some (l, e', H') ∧ Q e' H' ∧ (∀ x ∈ ls, ∀ h ∈ heads H' over l, okAt x h) ∧ (∀ s ∈ l, isLd s → ∀ h ∈ hs ++ heads H' over l, okAt (lrOf s) h)
  | [], e, H, over, ls, hs, h => by
    obtain ⟨h1, h2⟩ := h
    refine ⟨0, [], e, H, rfl, h2, fun x hx k hk => ?_, by simp⟩
    simp only [heads, List.mem_cons, List.not_mem_nil, or_false] at hk
    subst hk
    exact okAll_mem h1 x hx
  | o :: os, e, H, over, ls, hs, h => by
    simp only [WpD] at h
    have up : ∀ {n m : Nat}, n ≤ m → ∀ {os : List AOper} {e : Env} {H : AH} {r}, aopsT (acallv prog n) os e H = some r → aopsT (acallv prog m) os e H = some r := fun hnm _ _ _ _ h => aopsT_mono (acallv_mono hnm) h
    split at h
    · rename_i hw
      split at h
      · rename_i hcl
        have hef : o.isEff = true := by simp [AOper.isEff, hcl]
        obtain ⟨h1, h2⟩ := h
        obtain ⟨n, v, H1, h3, h4⟩ := EffQ_run h2
        obtain ⟨m, l, e', H', q1, q2, q3, q4⟩ := WpD_run h4
        have k1 : aop (acallv prog (max n m)) e H o.op = some (v, H1) := aop_mono (acallv_mono (Nat.le_max_left n m)) h3
        have k2 := up (Nat.le_max_right n m) q1
        have hhead : heads H' over (⟨o, e, true, v, H, H1⟩ :: l) = ⟨H, over, o :: effsO os⟩ :: heads H' (over ++ [o]) l := by
          simp only [heads, hef, if_true, aopsT_effs q1]
        refine ⟨max n m, ⟨o, e, true, v, H, H1⟩ :: l, e', H', by simp only [aopsT, hw, k1, k2], q2, fun x hx k hk => ?_, fun s hs' hld k hk => ?_⟩
        · rw [hhead] at hk
          rcases List.mem_cons.1 hk with rfl | hk
          · exact okAll_mem h1 x hx
          · exact q3 x hx k hk
        · rcases List.mem_cons.1 hs' with rfl | hs'
          · have := hld.2; simp only at this; rw [hcl] at this; cases this
          · rw [hhead] at hk
            refine q4 s hs' hld k ?_
            simp only [List.mem_append, List.mem_cons, List.not_mem_nil, or_false] at hk ⊢
            rcases hk with h | h | h
            · exact .inl (.inl h)
            · exact .inl (.inr h)
            · exact .inr h
      · rename_i hcl
        have hef : o.isEff = false := by simp [AOper.isEff, hcl]
        have hnc : o.op.isCall = false := by cases ho : o.op <;> rw [ho] at hcl <;> simp [AOp.cls] at hcl <;> rfl
        obtain ⟨v, H1, h3, h1, h2⟩ := Then_run (prog := prog) hnc h
        obtain ⟨m, l, e', H', q1, q2, q3, q4⟩ := WpD_run h2
        have hhead : heads H' over (⟨o, e, true, v, H, H1⟩ :: l) = heads H' over l := by simp only [heads, hef, Bool.false_eq_true, if_false]
        refine ⟨m, ⟨o, e, true, v, H, H1⟩ :: l, e', H', by simp only [aopsT, hw, h3, q1], q2, fun x hx k hk => ?_, fun s hs' hld k hk => ?_⟩
        · rw [hhead] at hk
          exact q3 x (by simp [hx]) k hk
        · rw [hhead] at hk
          rcases List.mem_cons.1 hs' with rfl | hs'
          · rcases List.mem_append.1 hk with hk | hk
            · exact okOne_mem h1 k hk
            · exact q3 _ (by simp [lrOf]) k hk
          · exact q4 s hs' hld k hk
      · rename_i hc1 hc2
        have hef : o.isEff = false := by
          simp only [AOper.isEff, decide_eq_false_iff_not]; exact fun h => hc1 h
        have hnc : o.op.isCall = false := by
          cases ho : o.op <;> first | rfl | (rw [ho] at hc1; simp [AOp.cls] at hc1)
        obtain ⟨v, H1, h3, h2⟩ := Then_run (prog := prog) hnc h
        obtain ⟨m, l, e', H', q1, q2, q3, q4⟩ := WpD_run h2
        have hhead : heads H' over (⟨o, e, true, v, H, H1⟩ :: l) = heads H' over l := by simp only [heads, hef, Bool.false_eq_true, if_false]
        refine ⟨m, ⟨o, e, true, v, H, H1⟩ :: l, e', H', by simp only [aopsT, hw, h3, q1], q2, fun x hx k hk => ?_, fun s hs' hld k hk => ?_⟩
        · rw [hhead] at hk; exact q3 x hx k hk
        · rw [hhead] at hk
          rcases List.mem_cons.1 hs' with rfl | hs'
          · exact absurd hld.2 (fun h => hc2 h)
          · exact q4 s hs' hld k hk
    · rename_i hw
      split at h
      · rename_i hcl
        have hef : o.isEff = true := by simp [AOper.isEff, hcl]
        obtain ⟨h1, h2⟩ := h
        obtain ⟨m, l, e', H', q1, q2, q3, q4⟩ := WpD_run h2
        have hhead : heads H' over (⟨o, e, false, .tuple [], H, H⟩ :: l) = ⟨H, over, o :: effsO os⟩ :: heads H' (over ++ [o]) l := by
          simp only [heads, hef, if_true, aopsT_effs q1]
        refine ⟨m, ⟨o, e, false, .tuple [], H, H⟩ :: l, e', H', by simp only [aopsT, hw, q1], q2, fun x hx k hk => ?_, fun s hs' hld k hk => ?_⟩
        · rw [hhead] at hk
          rcases List.mem_cons.1 hk with rfl | hk
          · exact okAll_mem h1 x hx
          · exact q3 x hx k hk
        · rcases List.mem_cons.1 hs' with rfl | hs'
          · cases hld.1
          · rw [hhead] at hk
            refine q4 s hs' hld k ?_
            simp only [List.mem_append, List.mem_cons, List.not_mem_nil, or_false] at hk ⊢
            rcases hk with h | h | h
            · exact .inl (.inl h)
            · exact .inl (.inr h)
            · exact .inr h
      · rename_i hc1
        have hef : o.isEff = false := by
          simp only [AOper.isEff, decide_eq_false_iff_not]; exact fun h => hc1 h
        obtain ⟨m, l, e', H', q1, q2, q3, q4⟩ := WpD_run h
        have hhead : heads H' over (⟨o, e, false, .tuple [], H, H⟩ :: l) = heads H' over l := by simp only [heads, hef, Bool.false_eq_true, if_false]
        refine ⟨m, ⟨o, e, false, .tuple [], H, H⟩ :: l, e', H', by simp only [aopsT, hw, q1], q2, fun x hx k hk => ?_, fun s hs' hld k hk => ?_⟩
        · rw [hhead] at hk; exact q3 x hx k hk
        · rw [hhead] at hk
          rcases List.mem_cons.1 hs' with rfl | hs'
          · cases hld.1
          · exact q4 s hs' hld k hk
    · exact h.elim
theorem Wp_draw {prog : Nat → Option AFunc} {ops : List AOper} {kp : List Nat} {e : Env} {H : AH} {Q : AExit → Env → AH → Prop} (h : WpD prog ops e H [] [] [] fun e' H' => Q .normal (e'.keep kp) H') : Wp prog (.draw ops kp) e H Q := by
  obtain ⟨n, l, e', H', h1, h2, _, h4⟩ := WpD_run h
  refine ⟨n, .normal, e'.keep kp, H', ?_, h2⟩
  simp only [code, adraw, h1]
  rw [if_pos]
  refine stable_heads fun k hk s hs => stableIn_of fun hld => h4 s hs hld k (by simpa using hk)
end Go.AM
namespace Go.AM
def WpDG (prog : Nat → Option AFunc) (o : AOper) (os : List AOper) (e : Env) (H : AH) (over : List AOper) (ls : List LR) (hs : List HR) (Q : Env → AH → Prop) : Prop :=
  match o.op.cls with
  | .eff => okAll ls ⟨H, over, o :: effsO os⟩ ∧ EffQ prog e H o.op fun v H' => WpD prog os (putDst e o.dst v) H' (over ++ [o]) ls (hs ++ [⟨H, over, o :: effsO os⟩]) Q
  | .load => Then (aop0 e H o.op) fun v H' => okOne ⟨o, fun S => aop0 e S o.op, v⟩ hs ∧ WpD prog os (putDst e o.dst v) H' over (ls ++ [⟨o, fun S => aop0 e S o.op, v⟩]) hs Q
  | _ => Then (aop0 e H o.op) fun v H' => WpD prog os (putDst e o.dst v) H' over ls hs Q
def WpDN (prog : Nat → Option AFunc) (o : AOper) (os : List AOper) (e : Env) (H : AH) (over : List AOper) (ls : List LR) (hs : List HR) (Q : Env → AH → Prop) : Prop :=
  match o.op.cls with
  | .eff => okAll ls ⟨H, over, o :: effsO os⟩ ∧ WpD prog os (putDst e o.dst (.tuple [])) H (over ++ [o]) ls (hs ++ [⟨H, over, o :: effsO os⟩]) Q
  | _ => WpD prog os (putDst e o.dst (.tuple [])) H over ls hs Q
theorem WpD_yes {prog : Nat → Option AFunc} {o : AOper} {os : List AOper} {e : Env} {H : AH} {over : List AOper} {ls : List LR} {hs : List HR} {Q : Env → AH → Prop} (h : o.wanted e = some true) : WpD prog (o :: os) e H over ls hs Q ↔ WpDG prog o os e H over ls hs Q := by
  simp only [WpD, WpDG, h] <;> (cases o.op.cls <;> rfl)
theorem WpD_no {prog : Nat → Option AFunc} {o : AOper} {os : List AOper} {e : Env} {H : AH} {over : List AOper} {ls : List LR} {hs : List HR} {Q : Env → AH → Prop} (h : o.wanted e = some false) : WpD prog (o :: os) e H over ls hs Q ↔ WpDN prog o os e H over ls hs Q := by
  simp only [WpD, WpDN, h] <;> (cases o.op.cls <;> rfl)
def ThenD (prog : Nat → Option AFunc) (x : ORes) (d : Option Nat) (os : List AOper) (e : Env) (over : List AOper) (ls : List LR) (hs : List HR) (Q : Env → AH → Prop) : Prop :=
  match x with
  | some (v, H) => WpD prog os (putDst e d v) H over ls hs Q
  | none => False
def ThenL (prog : Nat → Option AFunc) (x : ORes) (o : AOper) (f : AH → ORes) (os : List AOper) (e : Env) (over : List AOper) (ls : List LR) (hs : List HR) (Q : Env → AH → Prop) : Prop :=
  match x with
  | some (v, H) => okOne ⟨o, f, v⟩ hs ∧ WpD prog os (putDst e o.dst v) H over (ls ++ [⟨o, f, v⟩]) hs Q
  | none => False
def GuardD (prog : Nat → Option AFunc) (x : Option AV) (b : Bool) (o : AOper) (os : List AOper) (e : Env) (H : AH) (over : List AOper) (ls : List LR) (hs : List HR) (Q : Env → AH → Prop) : Prop :=
  match x with
  | some (.bool x) => bif x == b then WpDG prog o os e H over ls hs Q else WpDN prog o os e H over ls hs Q
  | some (.tuple []) => WpDN prog o os e H over ls hs Q
  | _ => False
theorem D_guard {prog : Nat → Option AFunc} {e : Env} {H : AH} {d : Option Nat} {id : Nat} {pre : List Nat} {os : List AOper} {over : List AOper} {ls : List LR} {hs : List HR} {Q : Env → AH → Prop} {op : AOp} {t : Nat} {b : Bool} :
    WpD prog (⟨d, op, some (t, b), id, pre⟩ :: os) e H over ls hs Q ↔ GuardD prog (e.get t) b ⟨d, op, some (t, b), id, pre⟩ os e H over ls hs Q := by
  have hw : AOper.wanted ⟨d, op, some (t, b), id, pre⟩ e = match e.get t with
      | some (.bool x) => some (x == b)
      | some (.tuple []) => some false
      | _ => none := rfl
  cases hg : e.get t with
  | none =>
    rw [hg] at hw
    simp only [WpD, hw, GuardD]
  | some v =>
    rw [hg] at hw
    cases v with
    | bool x =>
      cases hx : x == b with
      | true => simp only [hx] at hw; rw [WpD_yes hw]; simp only [GuardD, hx, cond_true]
      | false => simp only [hx] at hw; rw [WpD_no hw]; simp only [GuardD, hx, cond_false]
    | tuple l =>
      cases l with
      | nil => simp only at hw; rw [WpD_no hw]; rfl
      | cons a l => simp only [WpD, hw, GuardD]
    | _ => simp only [WpD, hw, GuardD]
theorem D :
    (∀ {prog : Nat → Option AFunc} {e : Env} {H : AH} {d : Option Nat} {id : Nat} {pre : List Nat} {os : List AOper} {over : List AOper} {ls : List LR} {hs : List HR} {Q : Env → AH → Prop} {gd : Option (Nat × Bool)} (x : AOpd), WpDG prog (⟨d, .move x, gd, id, pre⟩ : AOper) os e H over ls hs Q ↔ ThenD prog (aop0 e H (.move x)) d os e over ls hs Q) ∧
    (∀ {prog : Nat → Option AFunc} {e : Env} {H : AH} {d : Option Nat} {id : Nat} {pre : List Nat} {os : List AOper} {over : List AOper} {ls : List LR} {hs : List HR} {Q : Env → AH → Prop} {gd : Option (Nat × Bool)} (x : AOpd), WpDN prog (⟨d, .move x, gd, id, pre⟩ : AOper) os e H over ls hs Q ↔ WpD prog os (putDst e d (.tuple [])) H over ls hs Q) ∧
    (∀ {prog : Nat → Option AFunc} {e : Env} {H : AH} {d : Option Nat} {id : Nat} {pre : List Nat} {os : List AOper} {over : List AOper} {ls : List LR} {hs : List HR} {Q : Env → AH → Prop} {gd : Option (Nat × Bool)} (c a b : AOpd), WpDG prog (⟨d, .pick c a b, gd, id, pre⟩ : AOper) os e H over ls hs Q ↔ ThenD prog (aop0 e H (.pick c a b)) d os e over ls hs Q) ∧
    (∀ {prog : Nat → Option AFunc} {e : Env} {H : AH} {d : Option Nat} {id : Nat} {pre : List Nat} {os : List AOper} {over : List AOper} {ls : List LR} {hs : List HR} {Q : Env → AH → Prop} {gd : Option (Nat × Bool)} (c a b : AOpd), WpDN prog (⟨d, .pick c a b, gd, id, pre⟩ : AOper) os e H over ls hs Q ↔ WpD prog os (putDst e d (.tuple [])) H over ls hs Q) ∧
    (∀ {prog : Nat → Option AFunc} {e : Env} {H : AH} {d : Option Nat} {id : Nat} {pre : List Nat} {os : List AOper} {over : List AOper} {ls : List LR} {hs : List HR} {Q : Env → AH → Prop} {gd : Option (Nat × Bool)} (zero : List AV), WpDG prog (⟨d, .alloc zero, gd, id, pre⟩ : AOper) os e H over ls hs Q ↔ ThenD prog (aop0 e H (.alloc zero)) d os e over ls hs Q) ∧
    (∀ {prog : Nat → Option AFunc} {e : Env} {H : AH} {d : Option Nat} {id : Nat} {pre : List Nat} {os : List AOper} {over : List AOper} {ls : List LR} {hs : List HR} {Q : Env → AH → Prop} {gd : Option (Nat × Bool)} (zero : List AV), WpDN prog (⟨d, .alloc zero, gd, id, pre⟩ : AOper) os e H over ls hs Q ↔ WpD prog os (putDst e d (.tuple [])) H over ls hs Q) ∧
    (∀ {prog : Nat → Option AFunc} {e : Env} {H : AH} {d : Option Nat} {id : Nat} {pre : List Nat} {os : List AOper} {over : List AOper} {ls : List LR} {hs : List HR} {Q : Env → AH → Prop} {gd : Option (Nat × Bool)} (x : AOpd), WpDG prog (⟨d, .box x, gd, id, pre⟩ : AOper) os e H over ls hs Q ↔ ThenD prog (aop0 e H (.box x)) d os e over ls hs Q) ∧
    (∀ {prog : Nat → Option AFunc} {e : Env} {H : AH} {d : Option Nat} {id : Nat} {pre : List Nat} {os : List AOper} {over : List AOper} {ls : List LR} {hs : List HR} {Q : Env → AH → Prop} {gd : Option (Nat × Bool)} (x : AOpd), WpDN prog (⟨d, .box x, gd, id, pre⟩ : AOper) os e H over ls hs Q ↔ WpD prog os (putDst e d (.tuple [])) H over ls hs Q) ∧
    (∀ {prog : Nat → Option AFunc} {e : Env} {H : AH} {d : Option Nat} {id : Nat} {pre : List Nat} {os : List AOper} {over : List AOper} {ls : List LR} {hs : List HR} {Q : Env → AH → Prop} {gd : Option (Nat × Bool)} (zero : List AV) (parts : List (Nat × Nat × AOpd)), WpDG prog (⟨d, .build zero parts, gd, id, pre⟩ : AOper) os e H over ls hs Q ↔ ThenD prog (aop0 e H (.build zero parts)) d os e over ls hs Q) ∧
    (∀ {prog : Nat → Option AFunc} {e : Env} {H : AH} {d : Option Nat} {id : Nat} {pre : List Nat} {os : List AOper} {over : List AOper} {ls : List LR} {hs : List HR} {Q : Env → AH → Prop} {gd : Option (Nat × Bool)} (zero : List AV) (parts : List (Nat × Nat × AOpd)), WpDN prog (⟨d, .build zero parts, gd, id, pre⟩ : AOper) os e H over ls hs Q ↔ WpD prog os (putDst e d (.tuple [])) H over ls hs Q) ∧
    (∀ {prog : Nat → Option AFunc} {e : Env} {H : AH} {d : Option Nat} {id : Nat} {pre : List Nat} {os : List AOper} {over : List AOper} {ls : List LR} {hs : List HR} {Q : Env → AH → Prop} {gd : Option (Nat × Bool)} (len sz : Nat) (zero : List AV) (parts : List (Nat × Nat × AOpd)), WpDG prog (⟨d, .mkslice len sz zero parts, gd, id, pre⟩ : AOper) os e H over ls hs Q ↔ ThenD prog (aop0 e H (.mkslice len sz zero parts)) d os e over ls hs Q) ∧
    (∀ {prog : Nat → Option AFunc} {e : Env} {H : AH} {d : Option Nat} {id : Nat} {pre : List Nat} {os : List AOper} {over : List AOper} {ls : List LR} {hs : List HR} {Q : Env → AH → Prop} {gd : Option (Nat × Bool)} (len sz : Nat) (zero : List AV) (parts : List (Nat × Nat × AOpd)), WpDN prog (⟨d, .mkslice len sz zero parts, gd, id, pre⟩ : AOper) os e H over ls hs Q ↔ WpD prog os (putDst e d (.tuple [])) H over ls hs Q) ∧
    (∀ {prog : Nat → Option AFunc} {e : Env} {H : AH} {d : Option Nat} {id : Nat} {pre : List Nat} {os : List AOper} {over : List AOper} {ls : List LR} {hs : List HR} {Q : Env → AH → Prop} {gd : Option (Nat × Bool)} (a : AOpd), WpDG prog (⟨d, .load a, gd, id, pre⟩ : AOper) os e H over ls hs Q ↔ ThenL prog (aop0 e H (.load a)) (⟨d, .load a, gd, id, pre⟩ : AOper) (fun S => aop0 e S (.load a)) os e over ls hs Q) ∧
    (∀ {prog : Nat → Option AFunc} {e : Env} {H : AH} {d : Option Nat} {id : Nat} {pre : List Nat} {os : List AOper} {over : List AOper} {ls : List LR} {hs : List HR} {Q : Env → AH → Prop} {gd : Option (Nat × Bool)} (a : AOpd), WpDN prog (⟨d, .load a, gd, id, pre⟩ : AOper) os e H over ls hs Q ↔ WpD prog os (putDst e d (.tuple [])) H over ls hs Q) ∧
    (∀ {prog : Nat → Option AFunc} {e : Env} {H : AH} {d : Option Nat} {id : Nat} {pre : List Nat} {os : List AOper} {over : List AOper} {ls : List LR} {hs : List HR} {Q : Env → AH → Prop} {gd : Option (Nat × Bool)} (n : Nat) (a : AOpd), WpDG prog (⟨d, .loadN n a, gd, id, pre⟩ : AOper) os e H over ls hs Q ↔ ThenL prog (aop0 e H (.loadN n a)) (⟨d, .loadN n a, gd, id, pre⟩ : AOper) (fun S => aop0 e S (.loadN n a)) os e over ls hs Q) ∧
    (∀ {prog : Nat → Option AFunc} {e : Env} {H : AH} {d : Option Nat} {id : Nat} {pre : List Nat} {os : List AOper} {over : List AOper} {ls : List LR} {hs : List HR} {Q : Env → AH → Prop} {gd : Option (Nat × Bool)} (n : Nat) (a : AOpd), WpDN prog (⟨d, .loadN n a, gd, id, pre⟩ : AOper) os e H over ls hs Q ↔ WpD prog os (putDst e d (.tuple [])) H over ls hs Q) ∧
    (∀ {prog : Nat → Option AFunc} {e : Env} {H : AH} {d : Option Nat} {id : Nat} {pre : List Nat} {os : List AOper} {over : List AOper} {ls : List LR} {hs : List HR} {Q : Env → AH → Prop} {gd : Option (Nat × Bool)} (n : Nat) (a x : AOpd), WpDG prog (⟨d, .store n a x, gd, id, pre⟩ : AOper) os e H over ls hs Q ↔ okAll ls ⟨H, over, (⟨d, .store n a x, gd, id, pre⟩ : AOper) :: effsO os⟩ ∧ ThenD prog (aop0 e H (.store n a x)) d os e (over ++ [(⟨d, .store n a x, gd, id, pre⟩ : AOper)]) ls (hs ++ [⟨H, over, (⟨d, .store n a x, gd, id, pre⟩ : AOper) :: effsO os⟩]) Q) ∧
    (∀ {prog : Nat → Option AFunc} {e : Env} {H : AH} {d : Option Nat} {id : Nat} {pre : List Nat} {os : List AOper} {over : List AOper} {ls : List LR} {hs : List HR} {Q : Env → AH → Prop} {gd : Option (Nat × Bool)} (n : Nat) (a x : AOpd), WpDN prog (⟨d, .store n a x, gd, id, pre⟩ : AOper) os e H over ls hs Q ↔ okAll ls ⟨H, over, (⟨d, .store n a x, gd, id, pre⟩ : AOper) :: effsO os⟩ ∧ WpD prog os (putDst e d (.tuple [])) H (over ++ [(⟨d, .store n a x, gd, id, pre⟩ : AOper)]) ls (hs ++ [⟨H, over, (⟨d, .store n a x, gd, id, pre⟩ : AOper) :: effsO os⟩]) Q) ∧
    (∀ {prog : Nat → Option AFunc} {e : Env} {H : AH} {d : Option Nat} {id : Nat} {pre : List Nat} {os : List AOper} {over : List AOper} {ls : List LR} {hs : List HR} {Q : Env → AH → Prop} {gd : Option (Nat × Bool)} (x : AOpd), WpDG prog (⟨d, .nilCheck x, gd, id, pre⟩ : AOper) os e H over ls hs Q ↔ ThenD prog (aop0 e H (.nilCheck x)) d os e over ls hs Q) ∧
    (∀ {prog : Nat → Option AFunc} {e : Env} {H : AH} {d : Option Nat} {id : Nat} {pre : List Nat} {os : List AOper} {over : List AOper} {ls : List LR} {hs : List HR} {Q : Env → AH → Prop} {gd : Option (Nat × Bool)} (x : AOpd), WpDN prog (⟨d, .nilCheck x, gd, id, pre⟩ : AOper) os e H over ls hs Q ↔ WpD prog os (putDst e d (.tuple [])) H over ls hs Q) ∧
    (∀ {prog : Nat → Option AFunc} {e : Env} {H : AH} {d : Option Nat} {id : Nat} {pre : List Nat} {os : List AOper} {over : List AOper} {ls : List LR} {hs : List HR} {Q : Env → AH → Prop} {gd : Option (Nat × Bool)} (op : BinOp) (x y : AOpd), WpDG prog (⟨d, .bin op x y, gd, id, pre⟩ : AOper) os e H over ls hs Q ↔ ThenD prog (aop0 e H (.bin op x y)) d os e over ls hs Q) ∧
    (∀ {prog : Nat → Option AFunc} {e : Env} {H : AH} {d : Option Nat} {id : Nat} {pre : List Nat} {os : List AOper} {over : List AOper} {ls : List LR} {hs : List HR} {Q : Env → AH → Prop} {gd : Option (Nat × Bool)} (op : BinOp) (x y : AOpd), WpDN prog (⟨d, .bin op x y, gd, id, pre⟩ : AOper) os e H over ls hs Q ↔ WpD prog os (putDst e d (.tuple [])) H over ls hs Q) ∧
    (∀ {prog : Nat → Option AFunc} {e : Env} {H : AH} {d : Option Nat} {id : Nat} {pre : List Nat} {os : List AOper} {over : List AOper} {ls : List LR} {hs : List HR} {Q : Env → AH → Prop} {gd : Option (Nat × Bool)} (g : Bool) (ks : List SK) (neg : Bool) (x y : AOpd), WpDG prog (⟨d, .eqFlat g ks neg x y, gd, id, pre⟩ : AOper) os e H over ls hs Q ↔ ThenD prog (aop0 e H (.eqFlat g ks neg x y)) d os e over ls hs Q) ∧
    (∀ {prog : Nat → Option AFunc} {e : Env} {H : AH} {d : Option Nat} {id : Nat} {pre : List Nat} {os : List AOper} {over : List AOper} {ls : List LR} {hs : List HR} {Q : Env → AH → Prop} {gd : Option (Nat × Bool)} (g : Bool) (ks : List SK) (neg : Bool) (x y : AOpd), WpDN prog (⟨d, .eqFlat g ks neg x y, gd, id, pre⟩ : AOper) os e H over ls hs Q ↔ WpD prog os (putDst e d (.tuple [])) H over ls hs Q) ∧
    (∀ {prog : Nat → Option AFunc} {e : Env} {H : AH} {d : Option Nat} {id : Nat} {pre : List Nat} {os : List AOper} {over : List AOper} {ls : List LR} {hs : List HR} {Q : Env → AH → Prop} {gd : Option (Nat × Bool)} (k : NK) (neg : Bool) (x y : AOpd), WpDG prog (⟨d, .eqNil k neg x y, gd, id, pre⟩ : AOper) os e H over ls hs Q ↔ ThenD prog (aop0 e H (.eqNil k neg x y)) d os e over ls hs Q) ∧
    (∀ {prog : Nat → Option AFunc} {e : Env} {H : AH} {d : Option Nat} {id : Nat} {pre : List Nat} {os : List AOper} {over : List AOper} {ls : List LR} {hs : List HR} {Q : Env → AH → Prop} {gd : Option (Nat × Bool)} (k : NK) (neg : Bool) (x y : AOpd), WpDN prog (⟨d, .eqNil k neg x y, gd, id, pre⟩ : AOper) os e H over ls hs Q ↔ WpD prog os (putDst e d (.tuple [])) H over ls hs Q) ∧
    (∀ {prog : Nat → Option AFunc} {e : Env} {H : AH} {d : Option Nat} {id : Nat} {pre : List Nat} {os : List AOper} {over : List AOper} {ls : List LR} {hs : List HR} {Q : Env → AH → Prop} {gd : Option (Nat × Bool)} (op : UnOp) (x : AOpd), WpDG prog (⟨d, .un op x, gd, id, pre⟩ : AOper) os e H over ls hs Q ↔ ThenD prog (aop0 e H (.un op x)) d os e over ls hs Q) ∧
    (∀ {prog : Nat → Option AFunc} {e : Env} {H : AH} {d : Option Nat} {id : Nat} {pre : List Nat} {os : List AOper} {over : List AOper} {ls : List LR} {hs : List HR} {Q : Env → AH → Prop} {gd : Option (Nat × Bool)} (op : UnOp) (x : AOpd), WpDN prog (⟨d, .un op x, gd, id, pre⟩ : AOper) os e H over ls hs Q ↔ WpD prog os (putDst e d (.tuple [])) H over ls hs Q) ∧
    (∀ {prog : Nat → Option AFunc} {e : Env} {H : AH} {d : Option Nat} {id : Nat} {pre : List Nat} {os : List AOper} {over : List AOper} {ls : List LR} {hs : List HR} {Q : Env → AH → Prop} {gd : Option (Nat × Bool)} (k : IntKind) (x : AOpd), WpDG prog (⟨d, .toInt k x, gd, id, pre⟩ : AOper) os e H over ls hs Q ↔ ThenD prog (aop0 e H (.toInt k x)) d os e over ls hs Q) ∧
    (∀ {prog : Nat → Option AFunc} {e : Env} {H : AH} {d : Option Nat} {id : Nat} {pre : List Nat} {os : List AOper} {over : List AOper} {ls : List LR} {hs : List HR} {Q : Env → AH → Prop} {gd : Option (Nat × Bool)} (k : IntKind) (x : AOpd), WpDN prog (⟨d, .toInt k x, gd, id, pre⟩ : AOper) os e H over ls hs Q ↔ WpD prog os (putDst e d (.tuple [])) H over ls hs Q) ∧
    (∀ {prog : Nat → Option AFunc} {e : Env} {H : AH} {d : Option Nat} {id : Nat} {pre : List Nat} {os : List AOper} {over : List AOper} {ls : List LR} {hs : List HR} {Q : Env → AH → Prop} {gd : Option (Nat × Bool)} (x : AOpd), WpDG prog (⟨d, .strId x, gd, id, pre⟩ : AOper) os e H over ls hs Q ↔ ThenD prog (aop0 e H (.strId x)) d os e over ls hs Q) ∧
    (∀ {prog : Nat → Option AFunc} {e : Env} {H : AH} {d : Option Nat} {id : Nat} {pre : List Nat} {os : List AOper} {over : List AOper} {ls : List LR} {hs : List HR} {Q : Env → AH → Prop} {gd : Option (Nat × Bool)} (x : AOpd), WpDN prog (⟨d, .strId x, gd, id, pre⟩ : AOper) os e H over ls hs Q ↔ WpD prog os (putDst e d (.tuple [])) H over ls hs Q) ∧
    (∀ {prog : Nat → Option AFunc} {e : Env} {H : AH} {d : Option Nat} {id : Nat} {pre : List Nat} {os : List AOper} {over : List AOper} {ls : List LR} {hs : List HR} {Q : Env → AH → Prop} {gd : Option (Nat × Bool)} (f : Nat) (first captured : List AOpd), WpDG prog (⟨d, .func f first captured, gd, id, pre⟩ : AOper) os e H over ls hs Q ↔ ThenD prog (aop0 e H (.func f first captured)) d os e over ls hs Q) ∧
    (∀ {prog : Nat → Option AFunc} {e : Env} {H : AH} {d : Option Nat} {id : Nat} {pre : List Nat} {os : List AOper} {over : List AOper} {ls : List LR} {hs : List HR} {Q : Env → AH → Prop} {gd : Option (Nat × Bool)} (f : Nat) (first captured : List AOpd), WpDN prog (⟨d, .func f first captured, gd, id, pre⟩ : AOper) os e H over ls hs Q ↔ WpD prog os (putDst e d (.tuple [])) H over ls hs Q) ∧
    (∀ {prog : Nat → Option AFunc} {e : Env} {H : AH} {d : Option Nat} {id : Nat} {pre : List Nat} {os : List AOper} {over : List AOper} {ls : List LR} {hs : List HR} {Q : Env → AH → Prop} {gd : Option (Nat × Bool)} , WpDG prog (⟨d, .makeMap, gd, id, pre⟩ : AOper) os e H over ls hs Q ↔ ThenD prog (aop0 e H .makeMap) d os e over ls hs Q) ∧
    (∀ {prog : Nat → Option AFunc} {e : Env} {H : AH} {d : Option Nat} {id : Nat} {pre : List Nat} {os : List AOper} {over : List AOper} {ls : List LR} {hs : List HR} {Q : Env → AH → Prop} {gd : Option (Nat × Bool)} , WpDN prog (⟨d, .makeMap, gd, id, pre⟩ : AOper) os e H over ls hs Q ↔ WpD prog os (putDst e d (.tuple [])) H over ls hs Q) ∧
    (∀ {prog : Nat → Option AFunc} {e : Env} {H : AH} {d : Option Nat} {id : Nat} {pre : List Nat} {os : List AOper} {over : List AOper} {ls : List LR} {hs : List HR} {Q : Env → AH → Prop} {gd : Option (Nat × Bool)} (sz bytes : Nat) (zero : List AV) (len cap : AOpd), WpDG prog (⟨d, .makeSlice sz bytes zero len cap, gd, id, pre⟩ : AOper) os e H over ls hs Q ↔ ThenD prog (aop0 e H (.makeSlice sz bytes zero len cap)) d os e over ls hs Q) ∧
    (∀ {prog : Nat → Option AFunc} {e : Env} {H : AH} {d : Option Nat} {id : Nat} {pre : List Nat} {os : List AOper} {over : List AOper} {ls : List LR} {hs : List HR} {Q : Env → AH → Prop} {gd : Option (Nat × Bool)} (sz bytes : Nat) (zero : List AV) (len cap : AOpd), WpDN prog (⟨d, .makeSlice sz bytes zero len cap, gd, id, pre⟩ : AOper) os e H over ls hs Q ↔ WpD prog os (putDst e d (.tuple [])) H over ls hs Q) ∧
    (∀ {prog : Nat → Option AFunc} {e : Env} {H : AH} {d : Option Nat} {id : Nat} {pre : List Nat} {os : List AOper} {over : List AOper} {ls : List LR} {hs : List HR} {Q : Env → AH → Prop} {gd : Option (Nat × Bool)} (x : AOpd) (lo hi : Option AOpd), WpDG prog (⟨d, .sliceStr x lo hi, gd, id, pre⟩ : AOper) os e H over ls hs Q ↔ ThenD prog (aop0 e H (.sliceStr x lo hi)) d os e over ls hs Q) ∧
    (∀ {prog : Nat → Option AFunc} {e : Env} {H : AH} {d : Option Nat} {id : Nat} {pre : List Nat} {os : List AOper} {over : List AOper} {ls : List LR} {hs : List HR} {Q : Env → AH → Prop} {gd : Option (Nat × Bool)} (x : AOpd) (lo hi : Option AOpd), WpDN prog (⟨d, .sliceStr x lo hi, gd, id, pre⟩ : AOper) os e H over ls hs Q ↔ WpD prog os (putDst e d (.tuple [])) H over ls hs Q) ∧
    (∀ {prog : Nat → Option AFunc} {e : Env} {H : AH} {d : Option Nat} {id : Nat} {pre : List Nat} {os : List AOper} {over : List AOper} {ls : List LR} {hs : List HR} {Q : Env → AH → Prop} {gd : Option (Nat × Bool)} (sz : Nat) (x : AOpd) (lo hi : Option AOpd), WpDG prog (⟨d, .sliceSl sz x lo hi, gd, id, pre⟩ : AOper) os e H over ls hs Q ↔ ThenD prog (aop0 e H (.sliceSl sz x lo hi)) d os e over ls hs Q) ∧
    (∀ {prog : Nat → Option AFunc} {e : Env} {H : AH} {d : Option Nat} {id : Nat} {pre : List Nat} {os : List AOper} {over : List AOper} {ls : List LR} {hs : List HR} {Q : Env → AH → Prop} {gd : Option (Nat × Bool)} (sz : Nat) (x : AOpd) (lo hi : Option AOpd), WpDN prog (⟨d, .sliceSl sz x lo hi, gd, id, pre⟩ : AOper) os e H over ls hs Q ↔ WpD prog os (putDst e d (.tuple [])) H over ls hs Q) ∧
    (∀ {prog : Nat → Option AFunc} {e : Env} {H : AH} {d : Option Nat} {id : Nat} {pre : List Nat} {os : List AOper} {over : List AOper} {ls : List LR} {hs : List HR} {Q : Env → AH → Prop} {gd : Option (Nat × Bool)} (n sz : Nat) (x : AOpd) (lo hi : Option AOpd), WpDG prog (⟨d, .sliceArr n sz x lo hi, gd, id, pre⟩ : AOper) os e H over ls hs Q ↔ ThenL prog (aop0 e H (.sliceArr n sz x lo hi)) (⟨d, .sliceArr n sz x lo hi, gd, id, pre⟩ : AOper) (fun S => aop0 e S (.sliceArr n sz x lo hi)) os e over ls hs Q) ∧
    (∀ {prog : Nat → Option AFunc} {e : Env} {H : AH} {d : Option Nat} {id : Nat} {pre : List Nat} {os : List AOper} {over : List AOper} {ls : List LR} {hs : List HR} {Q : Env → AH → Prop} {gd : Option (Nat × Bool)} (n sz : Nat) (x : AOpd) (lo hi : Option AOpd), WpDN prog (⟨d, .sliceArr n sz x lo hi, gd, id, pre⟩ : AOper) os e H over ls hs Q ↔ WpD prog os (putDst e d (.tuple [])) H over ls hs Q) ∧
    (∀ {prog : Nat → Option AFunc} {e : Env} {H : AH} {d : Option Nat} {id : Nat} {pre : List Nat} {os : List AOper} {over : List AOper} {ls : List LR} {hs : List HR} {Q : Env → AH → Prop} {gd : Option (Nat × Bool)} (n : Nat) (x : AOpd), WpDG prog (⟨d, .off n x, gd, id, pre⟩ : AOper) os e H over ls hs Q ↔ ThenD prog (aop0 e H (.off n x)) d os e over ls hs Q) ∧
    (∀ {prog : Nat → Option AFunc} {e : Env} {H : AH} {d : Option Nat} {id : Nat} {pre : List Nat} {os : List AOper} {over : List AOper} {ls : List LR} {hs : List HR} {Q : Env → AH → Prop} {gd : Option (Nat × Bool)} (n : Nat) (x : AOpd), WpDN prog (⟨d, .off n x, gd, id, pre⟩ : AOper) os e H over ls hs Q ↔ WpD prog os (putDst e d (.tuple [])) H over ls hs Q) ∧
    (∀ {prog : Nat → Option AFunc} {e : Env} {H : AH} {d : Option Nat} {id : Nat} {pre : List Nat} {os : List AOper} {over : List AOper} {ls : List LR} {hs : List HR} {Q : Env → AH → Prop} {gd : Option (Nat × Bool)} (sz : Nat) (x i : AOpd), WpDG prog (⟨d, .idxSl sz x i, gd, id, pre⟩ : AOper) os e H over ls hs Q ↔ ThenD prog (aop0 e H (.idxSl sz x i)) d os e over ls hs Q) ∧
    (∀ {prog : Nat → Option AFunc} {e : Env} {H : AH} {d : Option Nat} {id : Nat} {pre : List Nat} {os : List AOper} {over : List AOper} {ls : List LR} {hs : List HR} {Q : Env → AH → Prop} {gd : Option (Nat × Bool)} (sz : Nat) (x i : AOpd), WpDN prog (⟨d, .idxSl sz x i, gd, id, pre⟩ : AOper) os e H over ls hs Q ↔ WpD prog os (putDst e d (.tuple [])) H over ls hs Q) ∧
    (∀ {prog : Nat → Option AFunc} {e : Env} {H : AH} {d : Option Nat} {id : Nat} {pre : List Nat} {os : List AOper} {over : List AOper} {ls : List LR} {hs : List HR} {Q : Env → AH → Prop} {gd : Option (Nat × Bool)} (len sz : Nat) (x i : AOpd), WpDG prog (⟨d, .idxArr len sz x i, gd, id, pre⟩ : AOper) os e H over ls hs Q ↔ ThenD prog (aop0 e H (.idxArr len sz x i)) d os e over ls hs Q) ∧
    (∀ {prog : Nat → Option AFunc} {e : Env} {H : AH} {d : Option Nat} {id : Nat} {pre : List Nat} {os : List AOper} {over : List AOper} {ls : List LR} {hs : List HR} {Q : Env → AH → Prop} {gd : Option (Nat × Bool)} (len sz : Nat) (x i : AOpd), WpDN prog (⟨d, .idxArr len sz x i, gd, id, pre⟩ : AOper) os e H over ls hs Q ↔ WpD prog os (putDst e d (.tuple [])) H over ls hs Q) ∧
    (∀ {prog : Nat → Option AFunc} {e : Env} {H : AH} {d : Option Nat} {id : Nat} {pre : List Nat} {os : List AOper} {over : List AOper} {ls : List LR} {hs : List HR} {Q : Env → AH → Prop} {gd : Option (Nat × Bool)} (off : Nat) (x : AOpd), WpDG prog (⟨d, .part off x, gd, id, pre⟩ : AOper) os e H over ls hs Q ↔ ThenD prog (aop0 e H (.part off x)) d os e over ls hs Q) ∧
    (∀ {prog : Nat → Option AFunc} {e : Env} {H : AH} {d : Option Nat} {id : Nat} {pre : List Nat} {os : List AOper} {over : List AOper} {ls : List LR} {hs : List HR} {Q : Env → AH → Prop} {gd : Option (Nat × Bool)} (off : Nat) (x : AOpd), WpDN prog (⟨d, .part off x, gd, id, pre⟩ : AOper) os e H over ls hs Q ↔ WpD prog os (putDst e d (.tuple [])) H over ls hs Q) ∧
    (∀ {prog : Nat → Option AFunc} {e : Env} {H : AH} {d : Option Nat} {id : Nat} {pre : List Nat} {os : List AOper} {over : List AOper} {ls : List LR} {hs : List HR} {Q : Env → AH → Prop} {gd : Option (Nat × Bool)} (off n : Nat) (x : AOpd), WpDG prog (⟨d, .partN off n x, gd, id, pre⟩ : AOper) os e H over ls hs Q ↔ ThenD prog (aop0 e H (.partN off n x)) d os e over ls hs Q) ∧
    (∀ {prog : Nat → Option AFunc} {e : Env} {H : AH} {d : Option Nat} {id : Nat} {pre : List Nat} {os : List AOper} {over : List AOper} {ls : List LR} {hs : List HR} {Q : Env → AH → Prop} {gd : Option (Nat × Bool)} (off n : Nat) (x : AOpd), WpDN prog (⟨d, .partN off n x, gd, id, pre⟩ : AOper) os e H over ls hs Q ↔ WpD prog os (putDst e d (.tuple [])) H over ls hs Q) ∧
    (∀ {prog : Nat → Option AFunc} {e : Env} {H : AH} {d : Option Nat} {id : Nat} {pre : List Nat} {os : List AOper} {over : List AOper} {ls : List LR} {hs : List HR} {Q : Env → AH → Prop} {gd : Option (Nat × Bool)} (len sz : Nat) (isAgg : Bool) (x i : AOpd), WpDG prog (⟨d, .at len sz isAgg x i, gd, id, pre⟩ : AOper) os e H over ls hs Q ↔ ThenD prog (aop0 e H (.at len sz isAgg x i)) d os e over ls hs Q) ∧
    (∀ {prog : Nat → Option AFunc} {e : Env} {H : AH} {d : Option Nat} {id : Nat} {pre : List Nat} {os : List AOper} {over : List AOper} {ls : List LR} {hs : List HR} {Q : Env → AH → Prop} {gd : Option (Nat × Bool)} (len sz : Nat) (isAgg : Bool) (x i : AOpd), WpDN prog (⟨d, .at len sz isAgg x i, gd, id, pre⟩ : AOper) os e H over ls hs Q ↔ WpD prog os (putDst e d (.tuple [])) H over ls hs Q) ∧
    (∀ {prog : Nat → Option AFunc} {e : Env} {H : AH} {d : Option Nat} {id : Nat} {pre : List Nat} {os : List AOper} {over : List AOper} {ls : List LR} {hs : List HR} {Q : Env → AH → Prop} {gd : Option (Nat × Bool)} (x i : AOpd), WpDG prog (⟨d, .byteAt x i, gd, id, pre⟩ : AOper) os e H over ls hs Q ↔ ThenD prog (aop0 e H (.byteAt x i)) d os e over ls hs Q) ∧
    (∀ {prog : Nat → Option AFunc} {e : Env} {H : AH} {d : Option Nat} {id : Nat} {pre : List Nat} {os : List AOper} {over : List AOper} {ls : List LR} {hs : List HR} {Q : Env → AH → Prop} {gd : Option (Nat × Bool)} (x i : AOpd), WpDN prog (⟨d, .byteAt x i, gd, id, pre⟩ : AOper) os e H over ls hs Q ↔ WpD prog os (putDst e d (.tuple [])) H over ls hs Q) ∧
    (∀ {prog : Nat → Option AFunc} {e : Env} {H : AH} {d : Option Nat} {id : Nat} {pre : List Nat} {os : List AOper} {over : List AOper} {ls : List LR} {hs : List HR} {Q : Env → AH → Prop} {gd : Option (Nat × Bool)} (g : Bool) (ks : List SK) (zero : AV) (ok : Bool) (m k : AOpd), WpDG prog (⟨d, .lookup g ks zero ok m k, gd, id, pre⟩ : AOper) os e H over ls hs Q ↔ ThenL prog (aop0 e H (.lookup g ks zero ok m k)) (⟨d, .lookup g ks zero ok m k, gd, id, pre⟩ : AOper) (fun S => aop0 e S (.lookup g ks zero ok m k)) os e over ls hs Q) ∧
    (∀ {prog : Nat → Option AFunc} {e : Env} {H : AH} {d : Option Nat} {id : Nat} {pre : List Nat} {os : List AOper} {over : List AOper} {ls : List LR} {hs : List HR} {Q : Env → AH → Prop} {gd : Option (Nat × Bool)} (g : Bool) (ks : List SK) (zero : AV) (ok : Bool) (m k : AOpd), WpDN prog (⟨d, .lookup g ks zero ok m k, gd, id, pre⟩ : AOper) os e H over ls hs Q ↔ WpD prog os (putDst e d (.tuple [])) H over ls hs Q) ∧
    (∀ {prog : Nat → Option AFunc} {e : Env} {H : AH} {d : Option Nat} {id : Nat} {pre : List Nat} {os : List AOper} {over : List AOper} {ls : List LR} {hs : List HR} {Q : Env → AH → Prop} {gd : Option (Nat × Bool)} (g : Bool) (ks : List SK) (m k v : AOpd), WpDG prog (⟨d, .update g ks m k v, gd, id, pre⟩ : AOper) os e H over ls hs Q ↔ okAll ls ⟨H, over, (⟨d, .update g ks m k v, gd, id, pre⟩ : AOper) :: effsO os⟩ ∧ ThenD prog (aop0 e H (.update g ks m k v)) d os e (over ++ [(⟨d, .update g ks m k v, gd, id, pre⟩ : AOper)]) ls (hs ++ [⟨H, over, (⟨d, .update g ks m k v, gd, id, pre⟩ : AOper) :: effsO os⟩]) Q) ∧
    (∀ {prog : Nat → Option AFunc} {e : Env} {H : AH} {d : Option Nat} {id : Nat} {pre : List Nat} {os : List AOper} {over : List AOper} {ls : List LR} {hs : List HR} {Q : Env → AH → Prop} {gd : Option (Nat × Bool)} (g : Bool) (ks : List SK) (m k v : AOpd), WpDN prog (⟨d, .update g ks m k v, gd, id, pre⟩ : AOper) os e H over ls hs Q ↔ okAll ls ⟨H, over, (⟨d, .update g ks m k v, gd, id, pre⟩ : AOper) :: effsO os⟩ ∧ WpD prog os (putDst e d (.tuple [])) H (over ++ [(⟨d, .update g ks m k v, gd, id, pre⟩ : AOper)]) ls (hs ++ [⟨H, over, (⟨d, .update g ks m k v, gd, id, pre⟩ : AOper) :: effsO os⟩]) Q) ∧
    (∀ {prog : Nat → Option AFunc} {e : Env} {H : AH} {d : Option Nat} {id : Nat} {pre : List Nat} {os : List AOper} {over : List AOper} {ls : List LR} {hs : List HR} {Q : Env → AH → Prop} {gd : Option (Nat × Bool)} (x : AOpd), WpDG prog (⟨d, .rangeStr x, gd, id, pre⟩ : AOper) os e H over ls hs Q ↔ okAll ls ⟨H, over, (⟨d, .rangeStr x, gd, id, pre⟩ : AOper) :: effsO os⟩ ∧ ThenD prog (aop0 e H (.rangeStr x)) d os e (over ++ [(⟨d, .rangeStr x, gd, id, pre⟩ : AOper)]) ls (hs ++ [⟨H, over, (⟨d, .rangeStr x, gd, id, pre⟩ : AOper) :: effsO os⟩]) Q) ∧
    (∀ {prog : Nat → Option AFunc} {e : Env} {H : AH} {d : Option Nat} {id : Nat} {pre : List Nat} {os : List AOper} {over : List AOper} {ls : List LR} {hs : List HR} {Q : Env → AH → Prop} {gd : Option (Nat × Bool)} (x : AOpd), WpDN prog (⟨d, .rangeStr x, gd, id, pre⟩ : AOper) os e H over ls hs Q ↔ okAll ls ⟨H, over, (⟨d, .rangeStr x, gd, id, pre⟩ : AOper) :: effsO os⟩ ∧ WpD prog os (putDst e d (.tuple [])) H (over ++ [(⟨d, .rangeStr x, gd, id, pre⟩ : AOper)]) ls (hs ++ [⟨H, over, (⟨d, .rangeStr x, gd, id, pre⟩ : AOper) :: effsO os⟩]) Q) ∧
    (∀ {prog : Nat → Option AFunc} {e : Env} {H : AH} {d : Option Nat} {id : Nat} {pre : List Nat} {os : List AOper} {over : List AOper} {ls : List LR} {hs : List HR} {Q : Env → AH → Prop} {gd : Option (Nat × Bool)} (it : AOpd), WpDG prog (⟨d, .nextStr it, gd, id, pre⟩ : AOper) os e H over ls hs Q ↔ okAll ls ⟨H, over, (⟨d, .nextStr it, gd, id, pre⟩ : AOper) :: effsO os⟩ ∧ ThenD prog (aop0 e H (.nextStr it)) d os e (over ++ [(⟨d, .nextStr it, gd, id, pre⟩ : AOper)]) ls (hs ++ [⟨H, over, (⟨d, .nextStr it, gd, id, pre⟩ : AOper) :: effsO os⟩]) Q) ∧
    (∀ {prog : Nat → Option AFunc} {e : Env} {H : AH} {d : Option Nat} {id : Nat} {pre : List Nat} {os : List AOper} {over : List AOper} {ls : List LR} {hs : List HR} {Q : Env → AH → Prop} {gd : Option (Nat × Bool)} (it : AOpd), WpDN prog (⟨d, .nextStr it, gd, id, pre⟩ : AOper) os e H over ls hs Q ↔ okAll ls ⟨H, over, (⟨d, .nextStr it, gd, id, pre⟩ : AOper) :: effsO os⟩ ∧ WpD prog os (putDst e d (.tuple [])) H (over ++ [(⟨d, .nextStr it, gd, id, pre⟩ : AOper)]) ls (hs ++ [⟨H, over, (⟨d, .nextStr it, gd, id, pre⟩ : AOper) :: effsO os⟩]) Q) ∧
    (∀ {prog : Nat → Option AFunc} {e : Env} {H : AH} {d : Option Nat} {id : Nat} {pre : List Nat} {os : List AOper} {over : List AOper} {ls : List LR} {hs : List HR} {Q : Env → AH → Prop} {gd : Option (Nat × Bool)} (i : Nat) (x : AOpd), WpDG prog (⟨d, .extract i x, gd, id, pre⟩ : AOper) os e H over ls hs Q ↔ ThenD prog (aop0 e H (.extract i x)) d os e over ls hs Q) ∧
    (∀ {prog : Nat → Option AFunc} {e : Env} {H : AH} {d : Option Nat} {id : Nat} {pre : List Nat} {os : List AOper} {over : List AOper} {ls : List LR} {hs : List HR} {Q : Env → AH → Prop} {gd : Option (Nat × Bool)} (i : Nat) (x : AOpd), WpDN prog (⟨d, .extract i x, gd, id, pre⟩ : AOper) os e H over ls hs Q ↔ WpD prog os (putDst e d (.tuple [])) H over ls hs Q) ∧
    (∀ {prog : Nat → Option AFunc} {e : Env} {H : AH} {d : Option Nat} {id : Nat} {pre : List Nat} {os : List AOper} {over : List AOper} {ls : List LR} {hs : List HR} {Q : Env → AH → Prop} {gd : Option (Nat × Bool)} (isStr : Bool) (x : AOpd), WpDG prog (⟨d, .len isStr x, gd, id, pre⟩ : AOper) os e H over ls hs Q ↔ ThenD prog (aop0 e H (.len isStr x)) d os e over ls hs Q) ∧
    (∀ {prog : Nat → Option AFunc} {e : Env} {H : AH} {d : Option Nat} {id : Nat} {pre : List Nat} {os : List AOper} {over : List AOper} {ls : List LR} {hs : List HR} {Q : Env → AH → Prop} {gd : Option (Nat × Bool)} (isStr : Bool) (x : AOpd), WpDN prog (⟨d, .len isStr x, gd, id, pre⟩ : AOper) os e H over ls hs Q ↔ WpD prog os (putDst e d (.tuple [])) H over ls hs Q) ∧
    (∀ {prog : Nat → Option AFunc} {e : Env} {H : AH} {d : Option Nat} {id : Nat} {pre : List Nat} {os : List AOper} {over : List AOper} {ls : List LR} {hs : List HR} {Q : Env → AH → Prop} {gd : Option (Nat × Bool)} (x : AOpd), WpDG prog (⟨d, .lenMap x, gd, id, pre⟩ : AOper) os e H over ls hs Q ↔ ThenL prog (aop0 e H (.lenMap x)) (⟨d, .lenMap x, gd, id, pre⟩ : AOper) (fun S => aop0 e S (.lenMap x)) os e over ls hs Q) ∧
    (∀ {prog : Nat → Option AFunc} {e : Env} {H : AH} {d : Option Nat} {id : Nat} {pre : List Nat} {os : List AOper} {over : List AOper} {ls : List LR} {hs : List HR} {Q : Env → AH → Prop} {gd : Option (Nat × Bool)} (x : AOpd), WpDN prog (⟨d, .lenMap x, gd, id, pre⟩ : AOper) os e H over ls hs Q ↔ WpD prog os (putDst e d (.tuple [])) H over ls hs Q) ∧
    (∀ {prog : Nat → Option AFunc} {e : Env} {H : AH} {d : Option Nat} {id : Nat} {pre : List Nat} {os : List AOper} {over : List AOper} {ls : List LR} {hs : List HR} {Q : Env → AH → Prop} {gd : Option (Nat × Bool)} (sz bytes : Nat) (s x : AOpd), WpDG prog (⟨d, .append sz bytes s x, gd, id, pre⟩ : AOper) os e H over ls hs Q ↔ okAll ls ⟨H, over, (⟨d, .append sz bytes s x, gd, id, pre⟩ : AOper) :: effsO os⟩ ∧ ThenD prog (aop0 e H (.append sz bytes s x)) d os e (over ++ [(⟨d, .append sz bytes s x, gd, id, pre⟩ : AOper)]) ls (hs ++ [⟨H, over, (⟨d, .append sz bytes s x, gd, id, pre⟩ : AOper) :: effsO os⟩]) Q) ∧
    (∀ {prog : Nat → Option AFunc} {e : Env} {H : AH} {d : Option Nat} {id : Nat} {pre : List Nat} {os : List AOper} {over : List AOper} {ls : List LR} {hs : List HR} {Q : Env → AH → Prop} {gd : Option (Nat × Bool)} (sz bytes : Nat) (s x : AOpd), WpDN prog (⟨d, .append sz bytes s x, gd, id, pre⟩ : AOper) os e H over ls hs Q ↔ okAll ls ⟨H, over, (⟨d, .append sz bytes s x, gd, id, pre⟩ : AOper) :: effsO os⟩ ∧ WpD prog os (putDst e d (.tuple [])) H (over ++ [(⟨d, .append sz bytes s x, gd, id, pre⟩ : AOper)]) ls (hs ++ [⟨H, over, (⟨d, .append sz bytes s x, gd, id, pre⟩ : AOper) :: effsO os⟩]) Q) ∧
    (∀ {prog : Nat → Option AFunc} {e : Env} {H : AH} {d : Option Nat} {id : Nat} {pre : List Nat} {os : List AOper} {over : List AOper} {ls : List LR} {hs : List HR} {Q : Env → AH → Prop} {gd : Option (Nat × Bool)} (sz : Nat) (y s : AOpd), WpDG prog (⟨d, .copy sz y s, gd, id, pre⟩ : AOper) os e H over ls hs Q ↔ okAll ls ⟨H, over, (⟨d, .copy sz y s, gd, id, pre⟩ : AOper) :: effsO os⟩ ∧ ThenD prog (aop0 e H (.copy sz y s)) d os e (over ++ [(⟨d, .copy sz y s, gd, id, pre⟩ : AOper)]) ls (hs ++ [⟨H, over, (⟨d, .copy sz y s, gd, id, pre⟩ : AOper) :: effsO os⟩]) Q) ∧
    (∀ {prog : Nat → Option AFunc} {e : Env} {H : AH} {d : Option Nat} {id : Nat} {pre : List Nat} {os : List AOper} {over : List AOper} {ls : List LR} {hs : List HR} {Q : Env → AH → Prop} {gd : Option (Nat × Bool)} (sz : Nat) (y s : AOpd), WpDN prog (⟨d, .copy sz y s, gd, id, pre⟩ : AOper) os e H over ls hs Q ↔ okAll ls ⟨H, over, (⟨d, .copy sz y s, gd, id, pre⟩ : AOper) :: effsO os⟩ ∧ WpD prog os (putDst e d (.tuple [])) H (over ++ [(⟨d, .copy sz y s, gd, id, pre⟩ : AOper)]) ls (hs ++ [⟨H, over, (⟨d, .copy sz y s, gd, id, pre⟩ : AOper) :: effsO os⟩]) Q) ∧
    (∀ {prog : Nat → Option AFunc} {e : Env} {H : AH} {d : Option Nat} {id : Nat} {pre : List Nat} {os : List AOper} {over : List AOper} {ls : List LR} {hs : List HR} {Q : Env → AH → Prop} {gd : Option (Nat × Bool)} (x : AOpd) (xs : List AOpd), WpDG prog (⟨d, .maxInt x xs, gd, id, pre⟩ : AOper) os e H over ls hs Q ↔ ThenD prog (aop0 e H (.maxInt x xs)) d os e over ls hs Q) ∧
    (∀ {prog : Nat → Option AFunc} {e : Env} {H : AH} {d : Option Nat} {id : Nat} {pre : List Nat} {os : List AOper} {over : List AOper} {ls : List LR} {hs : List HR} {Q : Env → AH → Prop} {gd : Option (Nat × Bool)} (x : AOpd) (xs : List AOpd), WpDN prog (⟨d, .maxInt x xs, gd, id, pre⟩ : AOper) os e H over ls hs Q ↔ WpD prog os (putDst e d (.tuple [])) H over ls hs Q) ∧
    (∀ {prog : Nat → Option AFunc} {e : Env} {H : AH} {d : Option Nat} {id : Nat} {pre : List Nat} {os : List AOper} {over : List AOper} {ls : List LR} {hs : List HR} {Q : Env → AH → Prop} {gd : Option (Nat × Bool)} (x : AOpd) (xs : List AOpd), WpDG prog (⟨d, .minInt x xs, gd, id, pre⟩ : AOper) os e H over ls hs Q ↔ ThenD prog (aop0 e H (.minInt x xs)) d os e over ls hs Q) ∧
    (∀ {prog : Nat → Option AFunc} {e : Env} {H : AH} {d : Option Nat} {id : Nat} {pre : List Nat} {os : List AOper} {over : List AOper} {ls : List LR} {hs : List HR} {Q : Env → AH → Prop} {gd : Option (Nat × Bool)} (x : AOpd) (xs : List AOpd), WpDN prog (⟨d, .minInt x xs, gd, id, pre⟩ : AOper) os e H over ls hs Q ↔ WpD prog os (putDst e d (.tuple [])) H over ls hs Q) ∧
    (∀ {prog : Nat → Option AFunc} {e : Env} {H : AH} {d : Option Nat} {id : Nat} {pre : List Nat} {os : List AOper} {over : List AOper} {ls : List LR} {hs : List HR} {Q : Env → AH → Prop} {gd : Option (Nat × Bool)} (f : AOpd) (xs : List AOpd), WpDN prog (⟨d, .call f xs, gd, id, pre⟩ : AOper) os e H over ls hs Q ↔ okAll ls ⟨H, over, (⟨d, .call f xs, gd, id, pre⟩ : AOper) :: effsO os⟩ ∧ WpD prog os (putDst e d (.tuple [])) H (over ++ [(⟨d, .call f xs, gd, id, pre⟩ : AOper)]) ls (hs ++ [⟨H, over, (⟨d, .call f xs, gd, id, pre⟩ : AOper) :: effsO os⟩]) Q) ∧
    (∀ {prog : Nat → Option AFunc} {e : Env} {H : AH} {over : List AOper} {ls : List LR} {hs : List HR} {Q : Env → AH → Prop}, WpD prog [] e H over ls hs Q ↔ okAll ls ⟨H, over, []⟩ ∧ Q e H) ∧
    (∀ {prog : Nat → Option AFunc} {v : AV} {H : AH} {d : Option Nat} {os : List AOper} {e : Env} {over : List AOper} {ls : List LR} {hs : List HR} {Q : Env → AH → Prop}, ThenD prog (some (v, H)) d os e over ls hs Q ↔ WpD prog os (putDst e d v) H over ls hs Q) ∧
    (∀ {prog : Nat → Option AFunc} {v : AV} {H : AH} {o : AOper} {f : AH → ORes} {os : List AOper} {e : Env} {over : List AOper} {ls : List LR} {hs : List HR} {Q : Env → AH → Prop}, ThenL prog (some (v, H)) o f os e over ls hs Q ↔ okOne ⟨o, f, v⟩ hs ∧ WpD prog os (putDst e o.dst v) H over (ls ++ [⟨o, f, v⟩]) hs Q) ∧
    (∀ {prog : Nat → Option AFunc} {e : Env} {H : AH} {d : Option Nat} {id : Nat} {pre : List Nat} {os : List AOper} {over : List AOper} {ls : List LR} {hs : List HR} {Q : Env → AH → Prop} {op : AOp}, WpD prog (⟨d, op, none, id, pre⟩ :: os) e H over ls hs Q ↔ WpDG prog ⟨d, op, none, id, pre⟩ os e H over ls hs Q) ∧
    (∀ {prog : Nat → Option AFunc} {e : Env} {H : AH} {d : Option Nat} {id : Nat} {pre : List Nat} {os : List AOper} {over : List AOper} {ls : List LR} {hs : List HR} {Q : Env → AH → Prop} {op : AOp} {t : Nat} {b : Bool}, WpD prog (⟨d, op, some (t, b), id, pre⟩ :: os) e H over ls hs Q ↔ GuardD prog (e.get t) b ⟨d, op, some (t, b), id, pre⟩ os e H over ls hs Q) ∧
    (∀ {prog : Nat → Option AFunc} {e : Env} {H : AH} {d : Option Nat} {id : Nat} {pre : List Nat} {os : List AOper} {over : List AOper} {ls : List LR} {hs : List HR} {Q : Env → AH → Prop} {o : AOper}, GuardD prog (some (.bool true)) true o os e H over ls hs Q ↔ WpDG prog o os e H over ls hs Q) ∧
    (∀ {prog : Nat → Option AFunc} {e : Env} {H : AH} {d : Option Nat} {id : Nat} {pre : List Nat} {os : List AOper} {over : List AOper} {ls : List LR} {hs : List HR} {Q : Env → AH → Prop} {o : AOper}, GuardD prog (some (.bool false)) false o os e H over ls hs Q ↔ WpDG prog o os e H over ls hs Q) ∧
    (∀ {prog : Nat → Option AFunc} {e : Env} {H : AH} {d : Option Nat} {id : Nat} {pre : List Nat} {os : List AOper} {over : List AOper} {ls : List LR} {hs : List HR} {Q : Env → AH → Prop} {o : AOper}, GuardD prog (some (.bool true)) false o os e H over ls hs Q ↔ WpDN prog o os e H over ls hs Q) ∧
    (∀ {prog : Nat → Option AFunc} {e : Env} {H : AH} {d : Option Nat} {id : Nat} {pre : List Nat} {os : List AOper} {over : List AOper} {ls : List LR} {hs : List HR} {Q : Env → AH → Prop} {o : AOper}, GuardD prog (some (.bool false)) true o os e H over ls hs Q ↔ WpDN prog o os e H over ls hs Q) ∧
    (∀ {prog : Nat → Option AFunc} {e : Env} {H : AH} {d : Option Nat} {id : Nat} {pre : List Nat} {os : List AOper} {over : List AOper} {ls : List LR} {hs : List HR} {Q : Env → AH → Prop} {o : AOper} {b : Bool}, GuardD prog (some (.tuple [])) b o os e H over ls hs Q ↔ WpDN prog o os e H over ls hs Q) :=
  ⟨by intros; exact Iff.rfl,
   by intros; exact Iff.rfl,
   by intros; exact Iff.rfl,
   by intros; exact Iff.rfl,
   by intros; exact Iff.rfl,
   by intros; exact Iff.rfl,
   by intros; exact Iff.rfl,
   by intros; exact Iff.rfl,
   by intros; exact Iff.rfl,
   by intros; exact Iff.rfl,
   by intros; exact Iff.rfl,
   by intros; exact Iff.rfl,
   by intros; exact Iff.rfl,
   by intros; exact Iff.rfl,
   by intros; exact Iff.rfl,
   by intros; exact Iff.rfl,
   by intros; exact Iff.rfl,
   by intros; exact Iff.rfl,
   by intros; exact Iff.rfl,
   by intros; exact Iff.rfl,
   by intros; exact Iff.rfl,
   by intros; exact Iff.rfl,
   by intros; exact Iff.rfl,
   by intros; exact Iff.rfl,
   by intros; exact Iff.rfl,
   by intros; exact Iff.rfl,
   by intros; exact Iff.rfl,
   by intros; exact Iff.rfl,
   by intros; exact Iff.rfl,
   by intros; exact Iff.rfl,
   by intros; exact Iff.rfl,
   by intros; exact Iff.rfl,
   by intros; exact Iff.rfl,
   by intros; exact Iff.rfl,
   by intros; exact Iff.rfl,
   by intros; exact Iff.rfl,
   by intros; exact Iff.rfl,
   by intros; exact Iff.rfl,
   by intros; exact Iff.rfl,
   by intros; exact Iff.rfl,
   by intros; exact Iff.rfl,
   by intros; exact Iff.rfl,
   by intros; exact Iff.rfl,
   by intros; exact Iff.rfl,
   by intros; exact Iff.rfl,
   by intros; exact Iff.rfl,
   by intros; exact Iff.rfl,
   by intros; exact Iff.rfl,
   by intros; exact Iff.rfl,
   by intros; exact Iff.rfl,
   by intros; exact Iff.rfl,
   by intros; exact Iff.rfl,
   by intros; exact Iff.rfl,
   by intros; exact Iff.rfl,
   by intros; exact Iff.rfl,
   by intros; exact Iff.rfl,
   by intros; exact Iff.rfl,
   by intros; exact Iff.rfl,
   by intros; exact Iff.rfl,
   by intros; exact Iff.rfl,
   by intros; exact Iff.rfl,
   by intros; exact Iff.rfl,
   by intros; exact Iff.rfl,
   by intros; exact Iff.rfl,
   by intros; exact Iff.rfl,
   by intros; exact Iff.rfl,
   by intros; exact Iff.rfl,
   by intros; exact Iff.rfl,
   by intros; exact Iff.rfl,
   by intros; exact Iff.rfl,
   by intros; exact Iff.rfl,
   by intros; exact Iff.rfl,
   by intros; exact Iff.rfl,
   by intros; exact Iff.rfl,
   by intros; exact Iff.rfl,
   by intros; exact Iff.rfl,
   by intros; exact Iff.rfl,
   by intros; exact Iff.rfl,
   by intros; exact Iff.rfl,
   by intros; exact Iff.rfl,
   by intros; exact Iff.rfl,
   Iff.rfl,
   Iff.rfl,
   Iff.rfl,
   WpD_yes rfl,
   D_guard,
   by intros; exact Iff.rfl,
   by intros; exact Iff.rfl,
   by intros; exact Iff.rfl,
   by intros; exact Iff.rfl,
   by intros; exact Iff.rfl⟩
end Go.AM
namespace Go.AM
theorem writeN_nil (vs : List AV) (i : Nat) : writeN vs i [] = some vs := by cases vs <;> rfl
def consV : Option AV → Option (List AV) → Option (List AV)
  | some v, some vs => some (v :: vs)
  | _, _ => none
def optV : Option AV → Option (Option AV)
  | some v => some (some v)
  | none => none
def consP (o n : Nat) : Option AV → Option (List (Nat × Nat × AV)) → Option (List (Nat × Nat × AV))
  | some v, some vs => some ((o, n, v) :: vs)
  | _, _ => none
theorem E4 :
    (∀ {e : Env} {x : AOpd} {xs : List AOpd}, vals e (x :: xs) = consV (x.val e) (vals e xs)) ∧
    (∀ {e : Env} {x : AOpd}, optVal e (some x) = optV (x.val e)) ∧
    (∀ {e : Env} {o n : Nat} {x : AOpd} {xs : List (Nat × Nat × AOpd)}, partVals e ((o, n, x) :: xs) = consP o n (x.val e) (partVals e xs)) ∧
    (∀ {v : AV} {vs : List AV}, consV (some v) (some vs) = some (v :: vs)) ∧
    (∀ {v : AV}, optV (some v) = some (some v)) ∧
    (∀ {o n : Nat} {v : AV} {vs : List (Nat × Nat × AV)}, consP o n (some v) (some vs) = some ((o, n, v) :: vs)) ∧
    (∀ {e : Env}, vals e [] = some []) := by
  refine ⟨?_, ?_, ?_, rfl, rfl, rfl, rfl⟩
  · intro e x xs
    rw [vals_cons]
    cases x.val e <;> cases vals e xs <;> rfl
  · intro e x
    rw [optVal_some]
    cases x.val e <;> rfl
  · intro e o n x xs
    rw [partVals_cons]
    cases x.val e <;> cases partVals e xs <;> rfl
theorem E3 :
    (∀ {H : AH} {b i : Nat}, AH.read1 H b i = match H.get b with
      | some (.cells _ vs) => vs[i]?
      | _ => none) ∧
    (∀ {H : AH} {b i n : Nat}, AH.read H b i n = match H.get b with
      | some (.cells _ vs) => readN vs i n
      | _ => none) ∧
    (∀ {H : AH} {b i : Nat} {xs : List AV}, AH.write H b i xs = match H.get b with
      | some (.cells false vs) => match writeN vs i xs with
        | some vs' => if xs.all AV.isCell then some (H.set b (.cells false vs')) else none
        | none => none
      | _ => none) ∧
    (∀ {H : AH} {o : AObj} {k : Nat}, (H.alloc o).get k = if k = H.next then some o else H.get k) ∧
    (∀ {H : AH} {b k : Nat} {o : AObj}, (H.set b o).get k = if k = b then some o else H.get k) ∧
    (∀ {a b : Nat} {x y : Option AObj}, a ≠ b → (if a = b then x else y) = y) ∧
    (∀ {H : AH} {o : AObj}, (H.alloc o).next = H.next + 1) ∧
    (∀ {H : AH} {b : Nat} {o : AObj}, (H.set b o).next = H.next) ∧
    (∀ {H : AH} {n b i : Nat} {v : AV}, opStore n (.ptr b i) v H = match v.cells? with
      | some cs => if cs.length = n then unitOf (H.write b i cs) else none
      | none => none) ∧
    (∀ {cs : List AV}, AV.cells? (.agg cs) = some cs) ∧
    (∀ {k : IntKind} {n : Int}, AV.cells? (.int k n) = some [.int k n]) ∧
    (∀ {b : Bool}, AV.cells? (.bool b) = some [.bool b]) ∧
    (∀ {s : ByteArray}, AV.cells? (.str s) = some [.str s]) ∧
    (∀ {b i : Nat}, AV.cells? (.ptr b i) = some [.ptr b i]) ∧
    (∀ {b i l z : Nat}, AV.cells? (.slice b i l z) = some [.slice b i l z]) ∧
    (AV.cells? .nilslice = some [.nilslice]) ∧ (AV.cells? .nilptr = some [.nilptr]) ∧ (AV.cells? .nilfunc = some [.nilfunc]) ∧
    (∀ {f : Nat} {a b : List AV}, AV.cells? (.func f a b) = some [.func f a b]) ∧
    (∀ {l : Nat}, AV.cells? (.yield l) = some [.yield l]) ∧
    (∀ {b : Nat}, AV.cells? (.map b) = some [.map b]) ∧
    (∀ {k : IntKind} {n : Int}, AV.isCell (.int k n) = true) ∧
    (∀ {b : Bool}, AV.isCell (.bool b) = true) ∧
    (∀ {s : ByteArray}, AV.isCell (.str s) = true) ∧
    (∀ {b i : Nat}, AV.isCell (.ptr b i) = true) ∧
    (∀ {b i l z : Nat}, AV.isCell (.slice b i l z) = true) ∧
    (AV.isCell .nilslice = true) ∧ (AV.isCell .nilptr = true) ∧ (AV.isCell .nilfunc = true) ∧
    (∀ {f : Nat} {a b : List AV}, AV.isCell (.func f a b) = true) ∧
    (∀ {l : Nat}, AV.isCell (.yield l) = true) ∧
    (∀ {b : Nat}, AV.isCell (.map b) = true) ∧
    (∀ {vs : List AV} {i : Nat}, writeN vs i [] = some vs) ∧
    (∀ {v x : AV} {vs xs : List AV}, writeN (v :: vs) 0 (x :: xs) = (writeN vs 0 xs).map (x :: ·)) ∧
    (∀ {v x : AV} {vs xs : List AV} {i : Nat}, writeN (v :: vs) (i + 1) (x :: xs) = (writeN vs i (x :: xs)).map (v :: ·)) ∧
    (∀ {vs : List AV} {i n : Nat}, readN vs i n = if i + n ≤ vs.length then some ((vs.drop i).take n) else none) ∧
    (∀ {z : List AV} {ps : List (Nat × Nat × AV)} {H : AH}, opBuild z ps H = aggOf H (fillA z ps)) ∧
    (∀ {cs : List AV}, fillA cs [] = some cs) ∧
    (∀ {cs : List AV} {o n : Nat} {v : AV} {rest : List (Nat × Nat × AV)}, fillA cs ((o, n, v) :: rest) = match v.cells? with
      | some vs => if vs.length = n ∧ o + n ≤ cs.length then match writeN cs o vs with
          | some cs' => fillA cs' rest
          | none => none
        else none
      | none => none) ∧
    (∀ {l z : Nat} {zero : List AV} {ps : List (Nat × Nat × AV)} {H : AH}, opMkslice l z zero ps H = match fillA zero ps with
      | some cs => some (.slice H.next 0 l z, H.alloc (.cells false cs))
      | none => none) ∧
    (∀ {v : AV}, oneOf [v] = v) ∧
    (∀ {v w : AV} {l : List AV}, oneOf (v :: w :: l) = .tuple (v :: w :: l)) ∧
    (∀ {p : AV → Bool}, [].all p = true) ∧
    (∀ {p : AV → Bool} {v : AV} {vs : List AV}, (v :: vs).all p = (p v && vs.all p)) ∧
    (∀ {v : AV} {vs : List AV}, (v :: vs)[0]? = some v) ∧
    (∀ {v : AV} {vs : List AV} {i : Nat}, (v :: vs)[i + 1]? = vs[i]?) ∧
    (∀ {l : List AV}, l.drop 0 = l) ∧
    (∀ {v : AV} {l : List AV} {i : Nat}, (v :: l).drop (i + 1) = l.drop i) ∧
    (∀ {l : List AV}, l.take 0 = []) ∧
    (∀ {v : AV} {l : List AV} {i : Nat}, (v :: l).take (i + 1) = v :: l.take i) ∧
    (∀ {v : AV} {l : List AV}, (v :: l).length = l.length + 1) ∧
    (([] : List AV).length = 0) ∧
    (∀ {e : Env} {H : AH}, resVals e H [] = some []) ∧
    (∀ {e : Env} {H : AH} {t : Nat} {rs : List ARes}, resVals e H (.slot t :: rs) = match e.get t with
      | some v => match resVals e H rs with
        | some vs => some (v :: vs)
        | none => none
      | none => none) ∧
    (∀ {e : Env} {H : AH} {t : Nat} {rs : List ARes}, resVals e H (.cell t :: rs) = match (match e.get t with
        | some (.ptr b i) => H.read1 b i
        | _ => none) with
      | some v => match resVals e H rs with
        | some vs => some (v :: vs)
        | none => none
      | none => none) ∧
    (∀ {e : Env} {H : AH} {n t : Nat} {rs : List ARes}, resVals e H (.cellN n t :: rs) = match (match e.get t with
        | some (.ptr b i) => match H.read b i n with
          | some cs => some (.agg cs)
          | none => none
        | _ => none) with
      | some v => match resVals e H rs with
        | some vs => some (v :: vs)
        | none => none
      | none => none) := by
  refine ⟨rfl, rfl, ?_, AH.get_alloc _ _ _, AH.get_set _ _ _ _, fun h => if_neg h, rfl, rfl, rfl, rfl, rfl, rfl, rfl, rfl, rfl, rfl, rfl, rfl, rfl, rfl, rfl, rfl, rfl, rfl, rfl, rfl, rfl, rfl, rfl, rfl, rfl, rfl, writeN_nil _ _, rfl, rfl, rfl, ?_, rfl, rfl, ?_, rfl, rfl, rfl, rfl, rfl, rfl, rfl, rfl, rfl, rfl, rfl, rfl, rfl, rfl, rfl, rfl⟩
  · intro H b i xs
    unfold AH.write
    cases H.get b with
    | none => rfl
    | some o =>
      cases o with
      | cells ro vs =>
        cases ro with
        | true => rfl
        | false => simp only; cases writeN vs i xs <;> rfl
      | _ => rfl
  · intro z ps H
    unfold opBuild aggOf
    cases fillA z ps <;> rfl
  · intro l z zero ps H
    unfold opMkslice
    cases fillA zero ps <;> rfl
end Go.AM
namespace Go.AM
structure Goal (p : Prop) : Prop where
  out : p
theorem goal_iff {p : Prop} : Goal p ↔ p := ⟨Goal.out, Goal.mk⟩
inductive Kont where
  | seq (b : ACode)
  | block (id : Nat)
  | loop (m : Nat) (I : Nat → Env → AH → Prop)
def RetQ (res : List ARes) (R : AV → AH → Prop) : AExit → Env → AH → Prop
  | .exit _, _, _ => False
  | _, e, H => ∃ vs, resVals e H res = some vs ∧ R (oneOf vs) H
def RetE (x : Option (List AV)) (R : AV → AH → Prop) (H : AH) : Prop :=
  match x with
  | some vs => R (oneOf vs) H
  | none => False
def runK (prog : Nat → Option AFunc) (Q : AExit → Env → AH → Prop) : List Kont → AExit → Env → AH → Prop
  | [], x, e, H => Q x e H
  | .seq b :: ks, x, e, H => match x with
    | .normal => Wp prog b e H fun x e H => runK prog Q ks x e H
    | x => runK prog Q ks x e H
  | .block id :: ks, x, e, H => match x with
    | .exit i => if i = id then runK prog Q ks .normal e H else runK prog Q ks (.exit i) e H
    | x => runK prog Q ks x e H
  | .loop m I :: ks, x, e, H => match x with
    | .normal => ∃ k, k < m ∧ I k e H
    | x => runK prog Q ks x e H
def WpK (prog : Nat → Option AFunc) (c : ACode) (e : Env) (H : AH) (ks : List Kont) (Q : AExit → Env → AH → Prop) : Prop := Wp prog c e H fun x e H => runK prog Q ks x e H
def EndK (prog : Nat → Option AFunc) (x : AExit) (e : Env) (H : AH) (ks : List Kont) (Q : AExit → Env → AH → Prop) : Prop := runK prog Q ks x e H
def RegK (prog : Nat → Option AFunc) (os : List AOper) (kp : List Nat) (e : Env) (H : AH) (ks : List Kont) (Q : AExit → Env → AH → Prop) : Prop := WpOps prog os e H fun e H => runK prog Q ks .normal (e.keep kp) H
def DrawK (prog : Nat → Option AFunc) (os : List AOper) (kp : List Nat) (e : Env) (H : AH) (over : List AOper) (ls : List LR) (hs : List HR) (ks : List Kont) (Q : AExit → Env → AH → Prop) : Prop := WpD prog os e H over ls hs fun e H => runK prog Q ks .normal (e.keep kp) H
section
variable {prog : Nat → Option AFunc} {e : Env} {H : AH} {ks : List Kont} {Q : AExit → Env → AH → Prop}
def CondK (prog : Nat → Option AFunc) (x : Option AV) (a b : ACode) (e : Env) (H : AH) (ks : List Kont) (Q : AExit → Env → AH → Prop) : Prop :=
  match x with
  | some (.bool true) => WpK prog a e H ks Q
  | some (.bool false) => WpK prog b e H ks Q
  | _ => False
theorem CallQ_enter {R : AV → AH → Prop} {f : Nat} {first captured args : List AV} {fn : AFunc} (hp : prog f = some fn) (hl : (first ++ args ++ captured).length ≤ fn.nt)
    (h : WpK prog fn.body (envFrom 0 (first ++ args ++ captured)) H [] (RetQ fn.res R)) : CallQ prog (.func f first captured) args H R := by
  refine CallQ_func hp hl (h.mono fun x e' H' hx => ?_)
  cases x <;> exact hx
theorem K_draw {os : List AOper} {kp : List Nat} (h : Goal (DrawK prog os kp e H [] [] [] ks Q)) : WpK prog (.draw os kp) e H ks Q := Wp_draw h.out
theorem K_loop {a : ACode} (I : Nat → Env → AH → Prop) (m : Nat) (h0 : I m e H) (step : ∀ m e H, I m e H → WpK prog a e H (.loop m I :: ks) Q) : WpK prog (.loop a) e H ks Q := by
  refine Wp_loop I (fun k e H hI => ?_) m e H h0
  refine (step k e H hI).mono fun x e' H' hx => ?_
  cases x <;> exact hx
theorem C_decide {p : Prop} [Decidable p] {a b : ACode} (h1 : p → WpK prog a e H ks Q) (h2 : ¬ p → WpK prog b e H ks Q) : CondK prog (some (.bool (decide p))) a b e H ks Q := by
  by_cases h : p
  · simp only [h, decide_true]; exact h1 h
  · simp only [h, decide_false]; exact h2 h
theorem C_bool {t : Bool} {a b : ACode} (h1 : t = true → WpK prog a e H ks Q) (h2 : t = false → WpK prog b e H ks Q) : CondK prog (some (.bool t)) a b e H ks Q := by
  cases t with
  | true => exact h1 rfl
  | false => exact h2 rfl
end
theorem Wp_iff_reg {prog : Nat → Option AFunc} {ops : List AOper} {kp : List Nat} {e : Env} {H : AH} {Q : AExit → Env → AH → Prop} : Wp prog (.reg ops kp) e H Q ↔ WpOps prog ops e H fun e' H' => Q .normal (e'.keep kp) H' := by
  refine ⟨fun ⟨n, x, e', H', h, hq⟩ => ?_, Wp_reg⟩
  simp only [code] at h
  split at h
  · rename_i e1 H1 h1
    simp only [Option.some.injEq, Prod.mk.injEq] at h
    obtain ⟨rfl, rfl, rfl⟩ := h
    exact ⟨n, e1, H1, h1, hq⟩
  · cases h
theorem Wp_iff_seq {prog : Nat → Option AFunc} {a b : ACode} {e : Env} {H : AH} {Q : AExit → Env → AH → Prop} : Wp prog (.seq a b) e H Q ↔ Wp prog a e H fun x e' H' => match x with
    | .normal => Wp prog b e' H' Q
    | x => Q x e' H' := by
  refine ⟨fun ⟨n, x, e', H', h, hq⟩ => ?_, Wp_seq⟩
  simp only [code] at h
  split at h
  · rename_i e1 H1 h1
    exact ⟨n, _, _, _, h1, n, x, e', H', h, hq⟩
  · rename_i h1
    refine ⟨n, x, e', H', h, ?_⟩
    cases x with
    | normal => exact absurd h (h1 e' H')
    | _ => exact hq
theorem Wp_iff_block {prog : Nat → Option AFunc} {id : Nat} {a : ACode} {e : Env} {H : AH} {Q : AExit → Env → AH → Prop} : Wp prog (.block id a) e H Q ↔ Wp prog a e H fun x e' H' => match x with
    | .exit i => if i = id then Q .normal e' H' else Q (.exit i) e' H'
    | x => Q x e' H' := by
  refine ⟨fun ⟨n, x, e', H', h, hq⟩ => ?_, Wp_block⟩
  simp only [code] at h
  split at h
  · rename_i i e1 H1 h1
    refine ⟨n, _, _, _, h1, ?_⟩
    split at h
    · rename_i hi
      simp only [Option.some.injEq, Prod.mk.injEq] at h
      obtain ⟨rfl, rfl, rfl⟩ := h
      simp only [hi, if_true]; exact hq
    · rename_i hi
      simp only [Option.some.injEq, Prod.mk.injEq] at h
      obtain ⟨rfl, rfl, rfl⟩ := h
      simp only [hi, if_false]; exact hq
  · rename_i h1
    refine ⟨n, x, e', H', h, ?_⟩
    cases x with
    | exit i => exact absurd h (h1 i e' H')
    | _ => exact hq
theorem Wp_iff_plain {prog : Nat → Option AFunc} {e : Env} {H : AH} {Q : AExit → Env → AH → Prop} : (Wp prog .skip e H Q ↔ Q .normal e H) ∧ (∀ i, Wp prog (.exit i) e H Q ↔ Q (.exit i) e H) ∧ (Wp prog .ret e H Q ↔ Q .ret e H) := by
  refine ⟨⟨fun ⟨n, x, e', H', h, hq⟩ => ?_, Wp_skip⟩, fun i => ⟨fun ⟨n, x, e', H', h, hq⟩ => ?_, Wp_exit⟩, ⟨fun ⟨n, x, e', H', h, hq⟩ => ?_, Wp_ret⟩⟩
  all_goals
    simp only [code, Option.some.injEq, Prod.mk.injEq] at h
    obtain ⟨rfl, rfl, rfl⟩ := h
    exact hq
theorem Wp_iff_cond {prog : Nat → Option AFunc} {c : AOpd} {a b : ACode} {e : Env} {H : AH} {Q : AExit → Env → AH → Prop} : Wp prog (.cond c a b) e H Q ↔ match c.val e with
    | some (.bool true) => Wp prog a e H Q
    | some (.bool false) => Wp prog b e H Q
    | _ => False := by
  constructor
  · rintro ⟨n, x, e', H', h, hq⟩
    simp only [code] at h
    split at h
    · rename_i t ht
      simp only [ht]
      cases t with
      | true => exact ⟨n, x, e', H', h, hq⟩
      | false => exact ⟨n, x, e', H', h, hq⟩
    · cases h
  · intro h
    split at h
    · rename_i hc; exact Wp_cond hc h
    · rename_i hc; exact Wp_cond hc h
    · exact h.elim
theorem Wp_ext {prog : Nat → Option AFunc} {c : ACode} {e : Env} {H : AH} {Q Q' : AExit → Env → AH → Prop} (h : ∀ x e H, Q x e H ↔ Q' x e H) : Wp prog c e H Q ↔ Wp prog c e H Q' :=
  ⟨fun h' => h'.mono fun x e H => (h x e H).1, fun h' => h'.mono fun x e H => (h x e H).2⟩
theorem K1 :
    (∀ {prog : Nat → Option AFunc} {e : Env} {H : AH} {ks : List Kont} {Q : AExit → Env → AH → Prop} {a b : ACode}, WpK prog (.seq a b) e H ks Q ↔ WpK prog a e H (.seq b :: ks) Q) ∧
    (∀ {prog : Nat → Option AFunc} {e : Env} {H : AH} {ks : List Kont} {Q : AExit → Env → AH → Prop} {a : ACode} {id : Nat}, WpK prog (.block id a) e H ks Q ↔ WpK prog a e H (.block id :: ks) Q) ∧
    (∀ {prog : Nat → Option AFunc} {e : Env} {H : AH} {ks : List Kont} {Q : AExit → Env → AH → Prop}, WpK prog .skip e H ks Q ↔ EndK prog .normal e H ks Q) ∧
    (∀ {prog : Nat → Option AFunc} {e : Env} {H : AH} {ks : List Kont} {Q : AExit → Env → AH → Prop} {i : Nat}, WpK prog (.exit i) e H ks Q ↔ EndK prog (.exit i) e H ks Q) ∧
    (∀ {prog : Nat → Option AFunc} {e : Env} {H : AH} {ks : List Kont} {Q : AExit → Env → AH → Prop}, WpK prog .ret e H ks Q ↔ EndK prog .ret e H ks Q) ∧
    (∀ {prog : Nat → Option AFunc} {e : Env} {H : AH} {ks : List Kont} {Q : AExit → Env → AH → Prop} {os : List AOper} {kp : List Nat}, WpK prog (.reg os kp) e H ks Q ↔ RegK prog os kp e H ks Q) ∧
    (∀ {prog : Nat → Option AFunc} {e : Env} {H : AH} {ks : List Kont} {Q : AExit → Env → AH → Prop} {c : AOpd} {a b : ACode}, WpK prog (.cond c a b) e H ks Q ↔ CondK prog (c.val e) a b e H ks Q) ∧
    (∀ {prog : Nat → Option AFunc} {e : Env} {H : AH} {ks : List Kont} {Q : AExit → Env → AH → Prop} {a b : ACode}, CondK prog (some (.bool true)) a b e H ks Q ↔ WpK prog a e H ks Q) ∧
    (∀ {prog : Nat → Option AFunc} {e : Env} {H : AH} {ks : List Kont} {Q : AExit → Env → AH → Prop} {a b : ACode}, CondK prog (some (.bool false)) a b e H ks Q ↔ WpK prog b e H ks Q) ∧
    (∀ {prog : Nat → Option AFunc} {e : Env} {H : AH} {ks : List Kont} {Q : AExit → Env → AH → Prop} {b : ACode}, EndK prog .normal e H (.seq b :: ks) Q ↔ WpK prog b e H ks Q) ∧
    (∀ {prog : Nat → Option AFunc} {e : Env} {H : AH} {ks : List Kont} {Q : AExit → Env → AH → Prop} {b : ACode} {i : Nat}, EndK prog (.exit i) e H (.seq b :: ks) Q ↔ EndK prog (.exit i) e H ks Q) ∧
    (∀ {prog : Nat → Option AFunc} {e : Env} {H : AH} {ks : List Kont} {Q : AExit → Env → AH → Prop} {b : ACode}, EndK prog .ret e H (.seq b :: ks) Q ↔ EndK prog .ret e H ks Q) ∧
    (∀ {prog : Nat → Option AFunc} {e : Env} {H : AH} {ks : List Kont} {Q : AExit → Env → AH → Prop} {id : Nat}, EndK prog .normal e H (.block id :: ks) Q ↔ EndK prog .normal e H ks Q) ∧
    (∀ {prog : Nat → Option AFunc} {e : Env} {H : AH} {ks : List Kont} {Q : AExit → Env → AH → Prop} {id i : Nat}, EndK prog (.exit i) e H (.block id :: ks) Q ↔ if i = id then EndK prog .normal e H ks Q else EndK prog (.exit i) e H ks Q) ∧
    (∀ {prog : Nat → Option AFunc} {e : Env} {H : AH} {ks : List Kont} {Q : AExit → Env → AH → Prop} {id : Nat}, EndK prog .ret e H (.block id :: ks) Q ↔ EndK prog .ret e H ks Q) ∧
    (∀ {prog : Nat → Option AFunc} {e : Env} {H : AH} {ks : List Kont} {Q : AExit → Env → AH → Prop} {m i : Nat} {I : Nat → Env → AH → Prop}, EndK prog (.exit i) e H (.loop m I :: ks) Q ↔ EndK prog (.exit i) e H ks Q) ∧
    (∀ {prog : Nat → Option AFunc} {e : Env} {H : AH} {ks : List Kont} {Q : AExit → Env → AH → Prop} {m : Nat} {I : Nat → Env → AH → Prop}, EndK prog .ret e H (.loop m I :: ks) Q ↔ EndK prog .ret e H ks Q) ∧
    (∀ {prog : Nat → Option AFunc} {e : Env} {H : AH} {res : List ARes} {R : AV → AH → Prop}, EndK prog .normal e H [] (RetQ res R) ↔ RetE (resVals e H res) R H) ∧
    (∀ {prog : Nat → Option AFunc} {e : Env} {H : AH} {res : List ARes} {R : AV → AH → Prop}, EndK prog .ret e H [] (RetQ res R) ↔ RetE (resVals e H res) R H) ∧
    (∀ {vs : List AV} {H : AH} {R : AV → AH → Prop}, RetE (some vs) R H ↔ R (oneOf vs) H) := by
  have hret : ∀ {e : Env} {H : AH} {res : List ARes} {R : AV → AH → Prop}, (∃ vs, resVals e H res = some vs ∧ R (oneOf vs) H) ↔ RetE (resVals e H res) R H := by
    intro e H res R
    unfold RetE
    cases resVals e H res with
    | none => simp
    | some vs => simp
  refine ⟨?_, ?_, Wp_iff_plain.1, Wp_iff_plain.2.1 _, Wp_iff_plain.2.2, Wp_iff_reg, ?_, Iff.rfl, Iff.rfl, Iff.rfl, Iff.rfl, Iff.rfl, Iff.rfl, Iff.rfl, Iff.rfl, Iff.rfl, Iff.rfl, hret, hret, Iff.rfl⟩
  · intro prog e H ks Q a b
    refine Wp_iff_seq.trans (Wp_ext fun x e H => ?_)
    cases x <;> exact Iff.rfl
  · intro prog e H ks Q a id
    refine Wp_iff_block.trans (Wp_ext fun x e H => ?_)
    cases x <;> exact Iff.rfl
  · intro prog e H ks Q c a b
    refine Wp_iff_cond.trans ?_
    unfold CondK
    generalize c.val e = x
    cases x with
    | none => rfl
    | some v =>
      cases v with
      | bool t => cases t <;> rfl
      | _ => rfl
def ThenR (prog : Nat → Option AFunc) (x : ORes) (d : Option Nat) (os : List AOper) (kp : List Nat) (e : Env) (ks : List Kont) (Q : AExit → Env → AH → Prop) : Prop := ThenO prog x d os e fun e H => runK prog Q ks .normal (e.keep kp) H
def GuardR (prog : Nat → Option AFunc) (x : Option AV) (b : Bool) (d : Option Nat) (op : AOp) (id : Nat) (pre : List Nat) (os : List AOper) (kp : List Nat) (e : Env) (H : AH) (ks : List Kont) (Q : AExit → Env → AH → Prop) : Prop := GuardO prog x b d op id pre os e H fun e H => runK prog Q ks .normal (e.keep kp) H
theorem K2 :
    (∀ {prog : Nat → Option AFunc} {e : Env} {H : AH} {d : Option Nat} {id : Nat} {pre : List Nat} {os : List AOper} {kp : List Nat} {kk : List Kont} {Q : AExit → Env → AH → Prop} (x : AOpd), RegK prog (⟨d, .move x, none, id, pre⟩ :: os) kp e H kk Q ↔ ThenR prog (aop0 e H (.move x)) d os kp e kk Q) ∧
    (∀ {prog : Nat → Option AFunc} {e : Env} {H : AH} {d : Option Nat} {id : Nat} {pre : List Nat} {os : List AOper} {kp : List Nat} {kk : List Kont} {Q : AExit → Env → AH → Prop} (c a b : AOpd), RegK prog (⟨d, .pick c a b, none, id, pre⟩ :: os) kp e H kk Q ↔ ThenR prog (aop0 e H (.pick c a b)) d os kp e kk Q) ∧
    (∀ {prog : Nat → Option AFunc} {e : Env} {H : AH} {d : Option Nat} {id : Nat} {pre : List Nat} {os : List AOper} {kp : List Nat} {kk : List Kont} {Q : AExit → Env → AH → Prop} (zero : List AV), RegK prog (⟨d, .alloc zero, none, id, pre⟩ :: os) kp e H kk Q ↔ ThenR prog (aop0 e H (.alloc zero)) d os kp e kk Q) ∧
    (∀ {prog : Nat → Option AFunc} {e : Env} {H : AH} {d : Option Nat} {id : Nat} {pre : List Nat} {os : List AOper} {kp : List Nat} {kk : List Kont} {Q : AExit → Env → AH → Prop} (x : AOpd), RegK prog (⟨d, .box x, none, id, pre⟩ :: os) kp e H kk Q ↔ ThenR prog (aop0 e H (.box x)) d os kp e kk Q) ∧
    (∀ {prog : Nat → Option AFunc} {e : Env} {H : AH} {d : Option Nat} {id : Nat} {pre : List Nat} {os : List AOper} {kp : List Nat} {kk : List Kont} {Q : AExit → Env → AH → Prop} (zero : List AV) (parts : List (Nat × Nat × AOpd)), RegK prog (⟨d, .build zero parts, none, id, pre⟩ :: os) kp e H kk Q ↔ ThenR prog (aop0 e H (.build zero parts)) d os kp e kk Q) ∧
    (∀ {prog : Nat → Option AFunc} {e : Env} {H : AH} {d : Option Nat} {id : Nat} {pre : List Nat} {os : List AOper} {kp : List Nat} {kk : List Kont} {Q : AExit → Env → AH → Prop} (len sz : Nat) (zero : List AV) (parts : List (Nat × Nat × AOpd)), RegK prog (⟨d, .mkslice len sz zero parts, none, id, pre⟩ :: os) kp e H kk Q ↔ ThenR prog (aop0 e H (.mkslice len sz zero parts)) d os kp e kk Q) ∧
    (∀ {prog : Nat → Option AFunc} {e : Env} {H : AH} {d : Option Nat} {id : Nat} {pre : List Nat} {os : List AOper} {kp : List Nat} {kk : List Kont} {Q : AExit → Env → AH → Prop} (a : AOpd), RegK prog (⟨d, .load a, none, id, pre⟩ :: os) kp e H kk Q ↔ ThenR prog (aop0 e H (.load a)) d os kp e kk Q) ∧
    (∀ {prog : Nat → Option AFunc} {e : Env} {H : AH} {d : Option Nat} {id : Nat} {pre : List Nat} {os : List AOper} {kp : List Nat} {kk : List Kont} {Q : AExit → Env → AH → Prop} (n : Nat) (a : AOpd), RegK prog (⟨d, .loadN n a, none, id, pre⟩ :: os) kp e H kk Q ↔ ThenR prog (aop0 e H (.loadN n a)) d os kp e kk Q) ∧
    (∀ {prog : Nat → Option AFunc} {e : Env} {H : AH} {d : Option Nat} {id : Nat} {pre : List Nat} {os : List AOper} {kp : List Nat} {kk : List Kont} {Q : AExit → Env → AH → Prop} (n : Nat) (a x : AOpd), RegK prog (⟨d, .store n a x, none, id, pre⟩ :: os) kp e H kk Q ↔ ThenR prog (aop0 e H (.store n a x)) d os kp e kk Q) ∧
    (∀ {prog : Nat → Option AFunc} {e : Env} {H : AH} {d : Option Nat} {id : Nat} {pre : List Nat} {os : List AOper} {kp : List Nat} {kk : List Kont} {Q : AExit → Env → AH → Prop} (x : AOpd), RegK prog (⟨d, .nilCheck x, none, id, pre⟩ :: os) kp e H kk Q ↔ ThenR prog (aop0 e H (.nilCheck x)) d os kp e kk Q) ∧
    (∀ {prog : Nat → Option AFunc} {e : Env} {H : AH} {d : Option Nat} {id : Nat} {pre : List Nat} {os : List AOper} {kp : List Nat} {kk : List Kont} {Q : AExit → Env → AH → Prop} (op : BinOp) (x y : AOpd), RegK prog (⟨d, .bin op x y, none, id, pre⟩ :: os) kp e H kk Q ↔ ThenR prog (aop0 e H (.bin op x y)) d os kp e kk Q) ∧
    (∀ {prog : Nat → Option AFunc} {e : Env} {H : AH} {d : Option Nat} {id : Nat} {pre : List Nat} {os : List AOper} {kp : List Nat} {kk : List Kont} {Q : AExit → Env → AH → Prop} (g : Bool) (ks : List SK) (neg : Bool) (x y : AOpd), RegK prog (⟨d, .eqFlat g ks neg x y, none, id, pre⟩ :: os) kp e H kk Q ↔ ThenR prog (aop0 e H (.eqFlat g ks neg x y)) d os kp e kk Q) ∧
    (∀ {prog : Nat → Option AFunc} {e : Env} {H : AH} {d : Option Nat} {id : Nat} {pre : List Nat} {os : List AOper} {kp : List Nat} {kk : List Kont} {Q : AExit → Env → AH → Prop} (k : NK) (neg : Bool) (x y : AOpd), RegK prog (⟨d, .eqNil k neg x y, none, id, pre⟩ :: os) kp e H kk Q ↔ ThenR prog (aop0 e H (.eqNil k neg x y)) d os kp e kk Q) ∧
    (∀ {prog : Nat → Option AFunc} {e : Env} {H : AH} {d : Option Nat} {id : Nat} {pre : List Nat} {os : List AOper} {kp : List Nat} {kk : List Kont} {Q : AExit → Env → AH → Prop} (op : UnOp) (x : AOpd), RegK prog (⟨d, .un op x, none, id, pre⟩ :: os) kp e H kk Q ↔ ThenR prog (aop0 e H (.un op x)) d os kp e kk Q) ∧
    (∀ {prog : Nat → Option AFunc} {e : Env} {H : AH} {d : Option Nat} {id : Nat} {pre : List Nat} {os : List AOper} {kp : List Nat} {kk : List Kont} {Q : AExit → Env → AH → Prop} (k : IntKind) (x : AOpd), RegK prog (⟨d, .toInt k x, none, id, pre⟩ :: os) kp e H kk Q ↔ ThenR prog (aop0 e H (.toInt k x)) d os kp e kk Q) ∧
    (∀ {prog : Nat → Option AFunc} {e : Env} {H : AH} {d : Option Nat} {id : Nat} {pre : List Nat} {os : List AOper} {kp : List Nat} {kk : List Kont} {Q : AExit → Env → AH → Prop} (x : AOpd), RegK prog (⟨d, .strId x, none, id, pre⟩ :: os) kp e H kk Q ↔ ThenR prog (aop0 e H (.strId x)) d os kp e kk Q) ∧
    (∀ {prog : Nat → Option AFunc} {e : Env} {H : AH} {d : Option Nat} {id : Nat} {pre : List Nat} {os : List AOper} {kp : List Nat} {kk : List Kont} {Q : AExit → Env → AH → Prop} (f : Nat) (first captured : List AOpd), RegK prog (⟨d, .func f first captured, none, id, pre⟩ :: os) kp e H kk Q ↔ ThenR prog (aop0 e H (.func f first captured)) d os kp e kk Q) ∧
    (∀ {prog : Nat → Option AFunc} {e : Env} {H : AH} {d : Option Nat} {id : Nat} {pre : List Nat} {os : List AOper} {kp : List Nat} {kk : List Kont} {Q : AExit → Env → AH → Prop} , RegK prog (⟨d, .makeMap, none, id, pre⟩ :: os) kp e H kk Q ↔ ThenR prog (aop0 e H .makeMap) d os kp e kk Q) ∧
    (∀ {prog : Nat → Option AFunc} {e : Env} {H : AH} {d : Option Nat} {id : Nat} {pre : List Nat} {os : List AOper} {kp : List Nat} {kk : List Kont} {Q : AExit → Env → AH → Prop} (sz bytes : Nat) (zero : List AV) (len cap : AOpd), RegK prog (⟨d, .makeSlice sz bytes zero len cap, none, id, pre⟩ :: os) kp e H kk Q ↔ ThenR prog (aop0 e H (.makeSlice sz bytes zero len cap)) d os kp e kk Q) ∧
    (∀ {prog : Nat → Option AFunc} {e : Env} {H : AH} {d : Option Nat} {id : Nat} {pre : List Nat} {os : List AOper} {kp : List Nat} {kk : List Kont} {Q : AExit → Env → AH → Prop} (x : AOpd) (lo hi : Option AOpd), RegK prog (⟨d, .sliceStr x lo hi, none, id, pre⟩ :: os) kp e H kk Q ↔ ThenR prog (aop0 e H (.sliceStr x lo hi)) d os kp e kk Q) ∧
    (∀ {prog : Nat → Option AFunc} {e : Env} {H : AH} {d : Option Nat} {id : Nat} {pre : List Nat} {os : List AOper} {kp : List Nat} {kk : List Kont} {Q : AExit → Env → AH → Prop} (sz : Nat) (x : AOpd) (lo hi : Option AOpd), RegK prog (⟨d, .sliceSl sz x lo hi, none, id, pre⟩ :: os) kp e H kk Q ↔ ThenR prog (aop0 e H (.sliceSl sz x lo hi)) d os kp e kk Q) ∧
    (∀ {prog : Nat → Option AFunc} {e : Env} {H : AH} {d : Option Nat} {id : Nat} {pre : List Nat} {os : List AOper} {kp : List Nat} {kk : List Kont} {Q : AExit → Env → AH → Prop} (n sz : Nat) (x : AOpd) (lo hi : Option AOpd), RegK prog (⟨d, .sliceArr n sz x lo hi, none, id, pre⟩ :: os) kp e H kk Q ↔ ThenR prog (aop0 e H (.sliceArr n sz x lo hi)) d os kp e kk Q) ∧
    (∀ {prog : Nat → Option AFunc} {e : Env} {H : AH} {d : Option Nat} {id : Nat} {pre : List Nat} {os : List AOper} {kp : List Nat} {kk : List Kont} {Q : AExit → Env → AH → Prop} (n : Nat) (x : AOpd), RegK prog (⟨d, .off n x, none, id, pre⟩ :: os) kp e H kk Q ↔ ThenR prog (aop0 e H (.off n x)) d os kp e kk Q) ∧
    (∀ {prog : Nat → Option AFunc} {e : Env} {H : AH} {d : Option Nat} {id : Nat} {pre : List Nat} {os : List AOper} {kp : List Nat} {kk : List Kont} {Q : AExit → Env → AH → Prop} (sz : Nat) (x i : AOpd), RegK prog (⟨d, .idxSl sz x i, none, id, pre⟩ :: os) kp e H kk Q ↔ ThenR prog (aop0 e H (.idxSl sz x i)) d os kp e kk Q) ∧
    (∀ {prog : Nat → Option AFunc} {e : Env} {H : AH} {d : Option Nat} {id : Nat} {pre : List Nat} {os : List AOper} {kp : List Nat} {kk : List Kont} {Q : AExit → Env → AH → Prop} (len sz : Nat) (x i : AOpd), RegK prog (⟨d, .idxArr len sz x i, none, id, pre⟩ :: os) kp e H kk Q ↔ ThenR prog (aop0 e H (.idxArr len sz x i)) d os kp e kk Q) ∧
    (∀ {prog : Nat → Option AFunc} {e : Env} {H : AH} {d : Option Nat} {id : Nat} {pre : List Nat} {os : List AOper} {kp : List Nat} {kk : List Kont} {Q : AExit → Env → AH → Prop} (off : Nat) (x : AOpd), RegK prog (⟨d, .part off x, none, id, pre⟩ :: os) kp e H kk Q ↔ ThenR prog (aop0 e H (.part off x)) d os kp e kk Q) ∧
    (∀ {prog : Nat → Option AFunc} {e : Env} {H : AH} {d : Option Nat} {id : Nat} {pre : List Nat} {os : List AOper} {kp : List Nat} {kk : List Kont} {Q : AExit → Env → AH → Prop} (off n : Nat) (x : AOpd), RegK prog (⟨d, .partN off n x, none, id, pre⟩ :: os) kp e H kk Q ↔ ThenR prog (aop0 e H (.partN off n x)) d os kp e kk Q) ∧
    (∀ {prog : Nat → Option AFunc} {e : Env} {H : AH} {d : Option Nat} {id : Nat} {pre : List Nat} {os : List AOper} {kp : List Nat} {kk : List Kont} {Q : AExit → Env → AH → Prop} (len sz : Nat) (isAgg : Bool) (x i : AOpd), RegK prog (⟨d, .at len sz isAgg x i, none, id, pre⟩ :: os) kp e H kk Q ↔ ThenR prog (aop0 e H (.at len sz isAgg x i)) d os kp e kk Q) ∧
    (∀ {prog : Nat → Option AFunc} {e : Env} {H : AH} {d : Option Nat} {id : Nat} {pre : List Nat} {os : List AOper} {kp : List Nat} {kk : List Kont} {Q : AExit → Env → AH → Prop} (x i : AOpd), RegK prog (⟨d, .byteAt x i, none, id, pre⟩ :: os) kp e H kk Q ↔ ThenR prog (aop0 e H (.byteAt x i)) d os kp e kk Q) ∧
    (∀ {prog : Nat → Option AFunc} {e : Env} {H : AH} {d : Option Nat} {id : Nat} {pre : List Nat} {os : List AOper} {kp : List Nat} {kk : List Kont} {Q : AExit → Env → AH → Prop} (g : Bool) (ks : List SK) (zero : AV) (ok : Bool) (m k : AOpd), RegK prog (⟨d, .lookup g ks zero ok m k, none, id, pre⟩ :: os) kp e H kk Q ↔ ThenR prog (aop0 e H (.lookup g ks zero ok m k)) d os kp e kk Q) ∧
    (∀ {prog : Nat → Option AFunc} {e : Env} {H : AH} {d : Option Nat} {id : Nat} {pre : List Nat} {os : List AOper} {kp : List Nat} {kk : List Kont} {Q : AExit → Env → AH → Prop} (g : Bool) (ks : List SK) (m k v : AOpd), RegK prog (⟨d, .update g ks m k v, none, id, pre⟩ :: os) kp e H kk Q ↔ ThenR prog (aop0 e H (.update g ks m k v)) d os kp e kk Q) ∧
    (∀ {prog : Nat → Option AFunc} {e : Env} {H : AH} {d : Option Nat} {id : Nat} {pre : List Nat} {os : List AOper} {kp : List Nat} {kk : List Kont} {Q : AExit → Env → AH → Prop} (x : AOpd), RegK prog (⟨d, .rangeStr x, none, id, pre⟩ :: os) kp e H kk Q ↔ ThenR prog (aop0 e H (.rangeStr x)) d os kp e kk Q) ∧
    (∀ {prog : Nat → Option AFunc} {e : Env} {H : AH} {d : Option Nat} {id : Nat} {pre : List Nat} {os : List AOper} {kp : List Nat} {kk : List Kont} {Q : AExit → Env → AH → Prop} (it : AOpd), RegK prog (⟨d, .nextStr it, none, id, pre⟩ :: os) kp e H kk Q ↔ ThenR prog (aop0 e H (.nextStr it)) d os kp e kk Q) ∧
    (∀ {prog : Nat → Option AFunc} {e : Env} {H : AH} {d : Option Nat} {id : Nat} {pre : List Nat} {os : List AOper} {kp : List Nat} {kk : List Kont} {Q : AExit → Env → AH → Prop} (i : Nat) (x : AOpd), RegK prog (⟨d, .extract i x, none, id, pre⟩ :: os) kp e H kk Q ↔ ThenR prog (aop0 e H (.extract i x)) d os kp e kk Q) ∧
    (∀ {prog : Nat → Option AFunc} {e : Env} {H : AH} {d : Option Nat} {id : Nat} {pre : List Nat} {os : List AOper} {kp : List Nat} {kk : List Kont} {Q : AExit → Env → AH → Prop} (isStr : Bool) (x : AOpd), RegK prog (⟨d, .len isStr x, none, id, pre⟩ :: os) kp e H kk Q ↔ ThenR prog (aop0 e H (.len isStr x)) d os kp e kk Q) ∧
    (∀ {prog : Nat → Option AFunc} {e : Env} {H : AH} {d : Option Nat} {id : Nat} {pre : List Nat} {os : List AOper} {kp : List Nat} {kk : List Kont} {Q : AExit → Env → AH → Prop} (x : AOpd), RegK prog (⟨d, .lenMap x, none, id, pre⟩ :: os) kp e H kk Q ↔ ThenR prog (aop0 e H (.lenMap x)) d os kp e kk Q) ∧
    (∀ {prog : Nat → Option AFunc} {e : Env} {H : AH} {d : Option Nat} {id : Nat} {pre : List Nat} {os : List AOper} {kp : List Nat} {kk : List Kont} {Q : AExit → Env → AH → Prop} (sz bytes : Nat) (s x : AOpd), RegK prog (⟨d, .append sz bytes s x, none, id, pre⟩ :: os) kp e H kk Q ↔ ThenR prog (aop0 e H (.append sz bytes s x)) d os kp e kk Q) ∧
    (∀ {prog : Nat → Option AFunc} {e : Env} {H : AH} {d : Option Nat} {id : Nat} {pre : List Nat} {os : List AOper} {kp : List Nat} {kk : List Kont} {Q : AExit → Env → AH → Prop} (sz : Nat) (y s : AOpd), RegK prog (⟨d, .copy sz y s, none, id, pre⟩ :: os) kp e H kk Q ↔ ThenR prog (aop0 e H (.copy sz y s)) d os kp e kk Q) ∧
    (∀ {prog : Nat → Option AFunc} {e : Env} {H : AH} {d : Option Nat} {id : Nat} {pre : List Nat} {os : List AOper} {kp : List Nat} {kk : List Kont} {Q : AExit → Env → AH → Prop} (x : AOpd) (xs : List AOpd), RegK prog (⟨d, .maxInt x xs, none, id, pre⟩ :: os) kp e H kk Q ↔ ThenR prog (aop0 e H (.maxInt x xs)) d os kp e kk Q) ∧
    (∀ {prog : Nat → Option AFunc} {e : Env} {H : AH} {d : Option Nat} {id : Nat} {pre : List Nat} {os : List AOper} {kp : List Nat} {kk : List Kont} {Q : AExit → Env → AH → Prop} (x : AOpd) (xs : List AOpd), RegK prog (⟨d, .minInt x xs, none, id, pre⟩ :: os) kp e H kk Q ↔ ThenR prog (aop0 e H (.minInt x xs)) d os kp e kk Q) ∧
    (∀ {prog : Nat → Option AFunc} {e : Env} {H : AH} {kp : List Nat} {kk : List Kont} {Q : AExit → Env → AH → Prop}, RegK prog [] kp e H kk Q ↔ EndK prog .normal (e.keep kp) H kk Q) ∧
    (∀ {prog : Nat → Option AFunc} {v : AV} {H : AH} {d : Option Nat} {os : List AOper} {e : Env} {kp : List Nat} {kk : List Kont} {Q : AExit → Env → AH → Prop}, ThenR prog (some (v, H)) d os kp e kk Q ↔ RegK prog os kp (putDst e d v) H kk Q) ∧
    (∀ {prog : Nat → Option AFunc} {e : Env} {H : AH} {d : Option Nat} {id : Nat} {pre : List Nat} {os : List AOper} {kp : List Nat} {kk : List Kont} {Q : AExit → Env → AH → Prop} {op : AOp} {t : Nat} {b : Bool}, RegK prog (⟨d, op, some (t, b), id, pre⟩ :: os) kp e H kk Q ↔ GuardR prog (e.get t) b d op id pre os kp e H kk Q) ∧
    (∀ {prog : Nat → Option AFunc} {e : Env} {H : AH} {d : Option Nat} {id : Nat} {pre : List Nat} {os : List AOper} {kp : List Nat} {kk : List Kont} {Q : AExit → Env → AH → Prop} {op : AOp}, GuardR prog (some (.bool true)) true d op id pre os kp e H kk Q ↔ RegK prog (⟨d, op, none, id, pre⟩ :: os) kp e H kk Q) ∧
    (∀ {prog : Nat → Option AFunc} {e : Env} {H : AH} {d : Option Nat} {id : Nat} {pre : List Nat} {os : List AOper} {kp : List Nat} {kk : List Kont} {Q : AExit → Env → AH → Prop} {op : AOp}, GuardR prog (some (.bool false)) false d op id pre os kp e H kk Q ↔ RegK prog (⟨d, op, none, id, pre⟩ :: os) kp e H kk Q) ∧
    (∀ {prog : Nat → Option AFunc} {e : Env} {H : AH} {d : Option Nat} {id : Nat} {pre : List Nat} {os : List AOper} {kp : List Nat} {kk : List Kont} {Q : AExit → Env → AH → Prop} {op : AOp}, GuardR prog (some (.bool true)) false d op id pre os kp e H kk Q ↔ RegK prog os kp (putDst e d (.tuple [])) H kk Q) ∧
    (∀ {prog : Nat → Option AFunc} {e : Env} {H : AH} {d : Option Nat} {id : Nat} {pre : List Nat} {os : List AOper} {kp : List Nat} {kk : List Kont} {Q : AExit → Env → AH → Prop} {op : AOp}, GuardR prog (some (.bool false)) true d op id pre os kp e H kk Q ↔ RegK prog os kp (putDst e d (.tuple [])) H kk Q) ∧
    (∀ {prog : Nat → Option AFunc} {e : Env} {H : AH} {d : Option Nat} {id : Nat} {pre : List Nat} {os : List AOper} {kp : List Nat} {kk : List Kont} {Q : AExit → Env → AH → Prop} {op : AOp} {b : Bool}, GuardR prog (some (.tuple [])) b d op id pre os kp e H kk Q ↔ RegK prog os kp (putDst e d (.tuple [])) H kk Q) :=
  ⟨by intros; exact WpOps_n rfl,
   by intros; exact WpOps_n rfl,
   by intros; exact WpOps_n rfl,
   by intros; exact WpOps_n rfl,
   by intros; exact WpOps_n rfl,
   by intros; exact WpOps_n rfl,
   by intros; exact WpOps_n rfl,
   by intros; exact WpOps_n rfl,
   by intros; exact WpOps_n rfl,
   by intros; exact WpOps_n rfl,
   by intros; exact WpOps_n rfl,
   by intros; exact WpOps_n rfl,
   by intros; exact WpOps_n rfl,
   by intros; exact WpOps_n rfl,
   by intros; exact WpOps_n rfl,
   by intros; exact WpOps_n rfl,
   by intros; exact WpOps_n rfl,
   by intros; exact WpOps_n rfl,
   by intros; exact WpOps_n rfl,
   by intros; exact WpOps_n rfl,
   by intros; exact WpOps_n rfl,
   by intros; exact WpOps_n rfl,
   by intros; exact WpOps_n rfl,
   by intros; exact WpOps_n rfl,
   by intros; exact WpOps_n rfl,
   by intros; exact WpOps_n rfl,
   by intros; exact WpOps_n rfl,
   by intros; exact WpOps_n rfl,
   by intros; exact WpOps_n rfl,
   by intros; exact WpOps_n rfl,
   by intros; exact WpOps_n rfl,
   by intros; exact WpOps_n rfl,
   by intros; exact WpOps_n rfl,
   by intros; exact WpOps_n rfl,
   by intros; exact WpOps_n rfl,
   by intros; exact WpOps_n rfl,
   by intros; exact WpOps_n rfl,
   by intros; exact WpOps_n rfl,
   by intros; exact WpOps_n rfl,
   by intros; exact WpOps_n rfl,
   WpOps_nil,
   Iff.rfl,
   S_guard,
   by intros; exact Iff.rfl,
   by intros; exact Iff.rfl,
   by intros; exact Iff.rfl,
   by intros; exact Iff.rfl,
   by intros; exact Iff.rfl⟩
def ThenX (prog : Nat → Option AFunc) (x : ORes) (d : Option Nat) (os : List AOper) (kp : List Nat) (e : Env) (over : List AOper) (ls : List LR) (hs : List HR) (ks : List Kont) (Q : AExit → Env → AH → Prop) : Prop := ThenD prog x d os e over ls hs fun e H => runK prog Q ks .normal (e.keep kp) H
def ThenY (prog : Nat → Option AFunc) (x : ORes) (o : AOper) (f : AH → ORes) (os : List AOper) (kp : List Nat) (e : Env) (over : List AOper) (ls : List LR) (hs : List HR) (ks : List Kont) (Q : AExit → Env → AH → Prop) : Prop := ThenL prog x o f os e over ls hs fun e H => runK prog Q ks .normal (e.keep kp) H
def DrawG (prog : Nat → Option AFunc) (o : AOper) (os : List AOper) (kp : List Nat) (e : Env) (H : AH) (over : List AOper) (ls : List LR) (hs : List HR) (ks : List Kont) (Q : AExit → Env → AH → Prop) : Prop := WpDG prog o os e H over ls hs fun e H => runK prog Q ks .normal (e.keep kp) H
def DrawN (prog : Nat → Option AFunc) (o : AOper) (os : List AOper) (kp : List Nat) (e : Env) (H : AH) (over : List AOper) (ls : List LR) (hs : List HR) (ks : List Kont) (Q : AExit → Env → AH → Prop) : Prop := WpDN prog o os e H over ls hs fun e H => runK prog Q ks .normal (e.keep kp) H
def GuardX (prog : Nat → Option AFunc) (x : Option AV) (b : Bool) (o : AOper) (os : List AOper) (kp : List Nat) (e : Env) (H : AH) (over : List AOper) (ls : List LR) (hs : List HR) (ks : List Kont) (Q : AExit → Env → AH → Prop) : Prop := GuardD prog x b o os e H over ls hs fun e H => runK prog Q ks .normal (e.keep kp) H
theorem K3 :
    (∀ {prog : Nat → Option AFunc} {e : Env} {H : AH} {d : Option Nat} {id : Nat} {pre : List Nat} {os : List AOper} {over : List AOper} {ls : List LR} {hs : List HR} {kp : List Nat} {kk : List Kont} {Q : AExit → Env → AH → Prop} {gd : Option (Nat × Bool)} (x : AOpd), DrawG prog (⟨d, .move x, gd, id, pre⟩ : AOper) os kp e H over ls hs kk Q ↔ ThenX prog (aop0 e H (.move x)) d os kp e over ls hs kk Q) ∧
    (∀ {prog : Nat → Option AFunc} {e : Env} {H : AH} {d : Option Nat} {id : Nat} {pre : List Nat} {os : List AOper} {over : List AOper} {ls : List LR} {hs : List HR} {kp : List Nat} {kk : List Kont} {Q : AExit → Env → AH → Prop} {gd : Option (Nat × Bool)} (x : AOpd), DrawN prog (⟨d, .move x, gd, id, pre⟩ : AOper) os kp e H over ls hs kk Q ↔ DrawK prog os kp (putDst e d (.tuple [])) H over ls hs kk Q) ∧
    (∀ {prog : Nat → Option AFunc} {e : Env} {H : AH} {d : Option Nat} {id : Nat} {pre : List Nat} {os : List AOper} {over : List AOper} {ls : List LR} {hs : List HR} {kp : List Nat} {kk : List Kont} {Q : AExit → Env → AH → Prop} {gd : Option (Nat × Bool)} (c a b : AOpd), DrawG prog (⟨d, .pick c a b, gd, id, pre⟩ : AOper) os kp e H over ls hs kk Q ↔ ThenX prog (aop0 e H (.pick c a b)) d os kp e over ls hs kk Q) ∧
    (∀ {prog : Nat → Option AFunc} {e : Env} {H : AH} {d : Option Nat} {id : Nat} {pre : List Nat} {os : List AOper} {over : List AOper} {ls : List LR} {hs : List HR} {kp : List Nat} {kk : List Kont} {Q : AExit → Env → AH → Prop} {gd : Option (Nat × Bool)} (c a b : AOpd), DrawN prog (⟨d, .pick c a b, gd, id, pre⟩ : AOper) os kp e H over ls hs kk Q ↔ DrawK prog os kp (putDst e d (.tuple [])) H over ls hs kk Q) ∧
    (∀ {prog : Nat → Option AFunc} {e : Env} {H : AH} {d : Option Nat} {id : Nat} {pre : List Nat} {os : List AOper} {over : List AOper} {ls : List LR} {hs : List HR} {kp : List Nat} {kk : List Kont} {Q : AExit → Env → AH → Prop} {gd : Option (Nat × Bool)} (zero : List AV), DrawG prog (⟨d, .alloc zero, gd, id, pre⟩ : AOper) os kp e H over ls hs kk Q ↔ ThenX prog (aop0 e H (.alloc zero)) d os kp e over ls hs kk Q) ∧
    (∀ {prog : Nat → Option AFunc} {e : Env} {H : AH} {d : Option Nat} {id : Nat} {pre : List Nat} {os : List AOper} {over : List AOper} {ls : List LR} {hs : List HR} {kp : List Nat} {kk : List Kont} {Q : AExit → Env → AH → Prop} {gd : Option (Nat × Bool)} (zero : List AV), DrawN prog (⟨d, .alloc zero, gd, id, pre⟩ : AOper) os kp e H over ls hs kk Q ↔ DrawK prog os kp (putDst e d (.tuple [])) H over ls hs kk Q) ∧
    (∀ {prog : Nat → Option AFunc} {e : Env} {H : AH} {d : Option Nat} {id : Nat} {pre : List Nat} {os : List AOper} {over : List AOper} {ls : List LR} {hs : List HR} {kp : List Nat} {kk : List Kont} {Q : AExit → Env → AH → Prop} {gd : Option (Nat × Bool)} (x : AOpd), DrawG prog (⟨d, .box x, gd, id, pre⟩ : AOper) os kp e H over ls hs kk Q ↔ ThenX prog (aop0 e H (.box x)) d os kp e over ls hs kk Q) ∧
    (∀ {prog : Nat → Option AFunc} {e : Env} {H : AH} {d : Option Nat} {id : Nat} {pre : List Nat} {os : List AOper} {over : List AOper} {ls : List LR} {hs : List HR} {kp : List Nat} {kk : List Kont} {Q : AExit → Env → AH → Prop} {gd : Option (Nat × Bool)} (x : AOpd), DrawN prog (⟨d, .box x, gd, id, pre⟩ : AOper) os kp e H over ls hs kk Q ↔ DrawK prog os kp (putDst e d (.tuple [])) H over ls hs kk Q) ∧
    (∀ {prog : Nat → Option AFunc} {e : Env} {H : AH} {d : Option Nat} {id : Nat} {pre : List Nat} {os : List AOper} {over : List AOper} {ls : List LR} {hs : List HR} {kp : List Nat} {kk : List Kont} {Q : AExit → Env → AH → Prop} {gd : Option (Nat × Bool)} (zero : List AV) (parts : List (Nat × Nat × AOpd)), DrawG prog (⟨d, .build zero parts, gd, id, pre⟩ : AOper) os kp e H over ls hs kk Q ↔ ThenX prog (aop0 e H (.build zero parts)) d os kp e over ls hs kk Q) ∧
    (∀ {prog : Nat → Option AFunc} {e : Env} {H : AH} {d : Option Nat} {id : Nat} {pre : List Nat} {os : List AOper} {over : List AOper} {ls : List LR} {hs : List HR} {kp : List Nat} {kk : List Kont} {Q : AExit → Env → AH → Prop} {gd : Option (Nat × Bool)} (zero : List AV) (parts : List (Nat × Nat × AOpd)), DrawN prog (⟨d, .build zero parts, gd, id, pre⟩ : AOper) os kp e H over ls hs kk Q ↔ DrawK prog os kp (putDst e d (.tuple [])) H over ls hs kk Q) ∧
    (∀ {prog : Nat → Option AFunc} {e : Env} {H : AH} {d : Option Nat} {id : Nat} {pre : List Nat} {os : List AOper} {over : List AOper} {ls : List LR} {hs : List HR} {kp : List Nat} {kk : List Kont} {Q : AExit → Env → AH → Prop} {gd : Option (Nat × Bool)} (len sz : Nat) (zero : List AV) (parts : List (Nat × Nat × AOpd)), DrawG prog (⟨d, .mkslice len sz zero parts, gd, id, pre⟩ : AOper) os kp e H over ls hs kk Q ↔ ThenX prog (aop0 e H (.mkslice len sz zero parts)) d os kp e over ls hs kk Q) ∧
    (∀ {prog : Nat → Option AFunc} {e : Env} {H : AH} {d : Option Nat} {id : Nat} {pre : List Nat} {os : List AOper} {over : List AOper} {ls : List LR} {hs : List HR} {kp : List Nat} {kk : List Kont} {Q : AExit → Env → AH → Prop} {gd : Option (Nat × Bool)} (len sz : Nat) (zero : List AV) (parts : List (Nat × Nat × AOpd)), DrawN prog (⟨d, .mkslice len sz zero parts, gd, id, pre⟩ : AOper) os kp e H over ls hs kk Q ↔ DrawK prog os kp (putDst e d (.tuple [])) H over ls hs kk Q) ∧
    (∀ {prog : Nat → Option AFunc} {e : Env} {H : AH} {d : Option Nat} {id : Nat} {pre : List Nat} {os : List AOper} {over : List AOper} {ls : List LR} {hs : List HR} {kp : List Nat} {kk : List Kont} {Q : AExit → Env → AH → Prop} {gd : Option (Nat × Bool)} (a : AOpd), DrawG prog (⟨d, .load a, gd, id, pre⟩ : AOper) os kp e H over ls hs kk Q ↔ ThenY prog (aop0 e H (.load a)) (⟨d, .load a, gd, id, pre⟩ : AOper) (fun S => aop0 e S (.load a)) os kp e over ls hs kk Q) ∧
    (∀ {prog : Nat → Option AFunc} {e : Env} {H : AH} {d : Option Nat} {id : Nat} {pre : List Nat} {os : List AOper} {over : List AOper} {ls : List LR} {hs : List HR} {kp : List Nat} {kk : List Kont} {Q : AExit → Env → AH → Prop} {gd : Option (Nat × Bool)} (a : AOpd), DrawN prog (⟨d, .load a, gd, id, pre⟩ : AOper) os kp e H over ls hs kk Q ↔ DrawK prog os kp (putDst e d (.tuple [])) H over ls hs kk Q) ∧
    (∀ {prog : Nat → Option AFunc} {e : Env} {H : AH} {d : Option Nat} {id : Nat} {pre : List Nat} {os : List AOper} {over : List AOper} {ls : List LR} {hs : List HR} {kp : List Nat} {kk : List Kont} {Q : AExit → Env → AH → Prop} {gd : Option (Nat × Bool)} (n : Nat) (a : AOpd), DrawG prog (⟨d, .loadN n a, gd, id, pre⟩ : AOper) os kp e H over ls hs kk Q ↔ ThenY prog (aop0 e H (.loadN n a)) (⟨d, .loadN n a, gd, id, pre⟩ : AOper) (fun S => aop0 e S (.loadN n a)) os kp e over ls hs kk Q) ∧
    (∀ {prog : Nat → Option AFunc} {e : Env} {H : AH} {d : Option Nat} {id : Nat} {pre : List Nat} {os : List AOper} {over : List AOper} {ls : List LR} {hs : List HR} {kp : List Nat} {kk : List Kont} {Q : AExit → Env → AH → Prop} {gd : Option (Nat × Bool)} (n : Nat) (a : AOpd), DrawN prog (⟨d, .loadN n a, gd, id, pre⟩ : AOper) os kp e H over ls hs kk Q ↔ DrawK prog os kp (putDst e d (.tuple [])) H over ls hs kk Q) ∧
    (∀ {prog : Nat → Option AFunc} {e : Env} {H : AH} {d : Option Nat} {id : Nat} {pre : List Nat} {os : List AOper} {over : List AOper} {ls : List LR} {hs : List HR} {kp : List Nat} {kk : List Kont} {Q : AExit → Env → AH → Prop} {gd : Option (Nat × Bool)} (n : Nat) (a x : AOpd), DrawG prog (⟨d, .store n a x, gd, id, pre⟩ : AOper) os kp e H over ls hs kk Q ↔ okAll ls ⟨H, over, (⟨d, .store n a x, gd, id, pre⟩ : AOper) :: effsO os⟩ ∧ ThenX prog (aop0 e H (.store n a x)) d os kp e (over ++ [(⟨d, .store n a x, gd, id, pre⟩ : AOper)]) ls (hs ++ [⟨H, over, (⟨d, .store n a x, gd, id, pre⟩ : AOper) :: effsO os⟩]) kk Q) ∧
    (∀ {prog : Nat → Option AFunc} {e : Env} {H : AH} {d : Option Nat} {id : Nat} {pre : List Nat} {os : List AOper} {over : List AOper} {ls : List LR} {hs : List HR} {kp : List Nat} {kk : List Kont} {Q : AExit → Env → AH → Prop} {gd : Option (Nat × Bool)} (n : Nat) (a x : AOpd), DrawN prog (⟨d, .store n a x, gd, id, pre⟩ : AOper) os kp e H over ls hs kk Q ↔ okAll ls ⟨H, over, (⟨d, .store n a x, gd, id, pre⟩ : AOper) :: effsO os⟩ ∧ DrawK prog os kp (putDst e d (.tuple [])) H (over ++ [(⟨d, .store n a x, gd, id, pre⟩ : AOper)]) ls (hs ++ [⟨H, over, (⟨d, .store n a x, gd, id, pre⟩ : AOper) :: effsO os⟩]) kk Q) ∧
    (∀ {prog : Nat → Option AFunc} {e : Env} {H : AH} {d : Option Nat} {id : Nat} {pre : List Nat} {os : List AOper} {over : List AOper} {ls : List LR} {hs : List HR} {kp : List Nat} {kk : List Kont} {Q : AExit → Env → AH → Prop} {gd : Option (Nat × Bool)} (x : AOpd), DrawG prog (⟨d, .nilCheck x, gd, id, pre⟩ : AOper) os kp e H over ls hs kk Q ↔ ThenX prog (aop0 e H (.nilCheck x)) d os kp e over ls hs kk Q) ∧
    (∀ {prog : Nat → Option AFunc} {e : Env} {H : AH} {d : Option Nat} {id : Nat} {pre : List Nat} {os : List AOper} {over : List AOper} {ls : List LR} {hs : List HR} {kp : List Nat} {kk : List Kont} {Q : AExit → Env → AH → Prop} {gd : Option (Nat × Bool)} (x : AOpd), DrawN prog (⟨d, .nilCheck x, gd, id, pre⟩ : AOper) os kp e H over ls hs kk Q ↔ DrawK prog os kp (putDst e d (.tuple [])) H over ls hs kk Q) ∧
    (∀ {prog : Nat → Option AFunc} {e : Env} {H : AH} {d : Option Nat} {id : Nat} {pre : List Nat} {os : List AOper} {over : List AOper} {ls : List LR} {hs : List HR} {kp : List Nat} {kk : List Kont} {Q : AExit → Env → AH → Prop} {gd : Option (Nat × Bool)} (op : BinOp) (x y : AOpd), DrawG prog (⟨d, .bin op x y, gd, id, pre⟩ : AOper) os kp e H over ls hs kk Q ↔ ThenX prog (aop0 e H (.bin op x y)) d os kp e over ls hs kk Q) ∧
    (∀ {prog : Nat → Option AFunc} {e : Env} {H : AH} {d : Option Nat} {id : Nat} {pre : List Nat} {os : List AOper} {over : List AOper} {ls : List LR} {hs : List HR} {kp : List Nat} {kk : List Kont} {Q : AExit → Env → AH → Prop} {gd : Option (Nat × Bool)} (op : BinOp) (x y : AOpd), DrawN prog (⟨d, .bin op x y, gd, id, pre⟩ : AOper) os kp e H over ls hs kk Q ↔ DrawK prog os kp (putDst e d (.tuple [])) H over ls hs kk Q) ∧
    (∀ {prog : Nat → Option AFunc} {e : Env} {H : AH} {d : Option Nat} {id : Nat} {pre : List Nat} {os : List AOper} {over : List AOper} {ls : List LR} {hs : List HR} {kp : List Nat} {kk : List Kont} {Q : AExit → Env → AH → Prop} {gd : Option (Nat × Bool)} (g : Bool) (ks : List SK) (neg : Bool) (x y : AOpd), DrawG prog (⟨d, .eqFlat g ks neg x y, gd, id, pre⟩ : AOper) os kp e H over ls hs kk Q ↔ ThenX prog (aop0 e H (.eqFlat g ks neg x y)) d os kp e over ls hs kk Q) ∧
    (∀ {prog : Nat → Option AFunc} {e : Env} {H : AH} {d : Option Nat} {id : Nat} {pre : List Nat} {os : List AOper} {over : List AOper} {ls : List LR} {hs : List HR} {kp : List Nat} {kk : List Kont} {Q : AExit → Env → AH → Prop} {gd : Option (Nat × Bool)} (g : Bool) (ks : List SK) (neg : Bool) (x y : AOpd), DrawN prog (⟨d, .eqFlat g ks neg x y, gd, id, pre⟩ : AOper) os kp e H over ls hs kk Q ↔ DrawK prog os kp (putDst e d (.tuple [])) H over ls hs kk Q) ∧
    (∀ {prog : Nat → Option AFunc} {e : Env} {H : AH} {d : Option Nat} {id : Nat} {pre : List Nat} {os : List AOper} {over : List AOper} {ls : List LR} {hs : List HR} {kp : List Nat} {kk : List Kont} {Q : AExit → Env → AH → Prop} {gd : Option (Nat × Bool)} (k : NK) (neg : Bool) (x y : AOpd), DrawG prog (⟨d, .eqNil k neg x y, gd, id, pre⟩ : AOper) os kp e H over ls hs kk Q ↔ ThenX prog (aop0 e H (.eqNil k neg x y)) d os kp e over ls hs kk Q) ∧
    (∀ {prog : Nat → Option AFunc} {e : Env} {H : AH} {d : Option Nat} {id : Nat} {pre : List Nat} {os : List AOper} {over : List AOper} {ls : List LR} {hs : List HR} {kp : List Nat} {kk : List Kont} {Q : AExit → Env → AH → Prop} {gd : Option (Nat × Bool)} (k : NK) (neg : Bool) (x y : AOpd), DrawN prog (⟨d, .eqNil k neg x y, gd, id, pre⟩ : AOper) os kp e H over ls hs kk Q ↔ DrawK prog os kp (putDst e d (.tuple [])) H over ls hs kk Q) ∧
    (∀ {prog : Nat → Option AFunc} {e : Env} {H : AH} {d : Option Nat} {id : Nat} {pre : List Nat} {os : List AOper} {over : List AOper} {ls : List LR} {hs : List HR} {kp : List Nat} {kk : List Kont} {Q : AExit → Env → AH → Prop} {gd : Option (Nat × Bool)} (op : UnOp) (x : AOpd), DrawG prog (⟨d, .un op x, gd, id, pre⟩ : AOper) os kp e H over ls hs kk Q ↔ ThenX prog (aop0 e H (.un op x)) d os kp e over ls hs kk Q) ∧
    (∀ {prog : Nat → Option AFunc} {e : Env} {H : AH} {d : Option Nat} {id : Nat} {pre : List Nat} {os : List AOper} {over : List AOper} {ls : List LR} {hs : List HR} {kp : List Nat} {kk : List Kont} {Q : AExit → Env → AH → Prop} {gd : Option (Nat × Bool)} (op : UnOp) (x : AOpd), DrawN prog (⟨d, .un op x, gd, id, pre⟩ : AOper) os kp e H over ls hs kk Q ↔ DrawK prog os kp (putDst e d (.tuple [])) H over ls hs kk Q) ∧
    (∀ {prog : Nat → Option AFunc} {e : Env} {H : AH} {d : Option Nat} {id : Nat} {pre : List Nat} {os : List AOper} {over : List AOper} {ls : List LR} {hs : List HR} {kp : List Nat} {kk : List Kont} {Q : AExit → Env → AH → Prop} {gd : Option (Nat × Bool)} (k : IntKind) (x : AOpd), DrawG prog (⟨d, .toInt k x, gd, id, pre⟩ : AOper) os kp e H over ls hs kk Q ↔ ThenX prog (aop0 e H (.toInt k x)) d os kp e over ls hs kk Q) ∧
    (∀ {prog : Nat → Option AFunc} {e : Env} {H : AH} {d : Option Nat} {id : Nat} {pre : List Nat} {os : List AOper} {over : List AOper} {ls : List LR} {hs : List HR} {kp : List Nat} {kk : List Kont} {Q : AExit → Env → AH → Prop} {gd : Option (Nat × Bool)} (k : IntKind) (x : AOpd), DrawN prog (⟨d, .toInt k x, gd, id, pre⟩ : AOper) os kp e H over ls hs kk Q ↔ DrawK prog os kp (putDst e d (.tuple [])) H over ls hs kk Q) ∧
    (∀ {prog : Nat → Option AFunc} {e : Env} {H : AH} {d : Option Nat} {id : Nat} {pre : List Nat} {os : List AOper} {over : List AOper} {ls : List LR} {hs : List HR} {kp : List Nat} {kk : List Kont} {Q : AExit → Env → AH → Prop} {gd : Option (Nat × Bool)} (x : AOpd), DrawG prog (⟨d, .strId x, gd, id, pre⟩ : AOper) os kp e H over ls hs kk Q ↔ ThenX prog (aop0 e H (.strId x)) d os kp e over ls hs kk Q) ∧
    (∀ {prog : Nat → Option AFunc} {e : Env} {H : AH} {d : Option Nat} {id : Nat} {pre : List Nat} {os : List AOper} {over : List AOper} {ls : List LR} {hs : List HR} {kp : List Nat} {kk : List Kont} {Q : AExit → Env → AH → Prop} {gd : Option (Nat × Bool)} (x : AOpd), DrawN prog (⟨d, .strId x, gd, id, pre⟩ : AOper) os kp e H over ls hs kk Q ↔ DrawK prog os kp (putDst e d (.tuple [])) H over ls hs kk Q) ∧
    (∀ {prog : Nat → Option AFunc} {e : Env} {H : AH} {d : Option Nat} {id : Nat} {pre : List Nat} {os : List AOper} {over : List AOper} {ls : List LR} {hs : List HR} {kp : List Nat} {kk : List Kont} {Q : AExit → Env → AH → Prop} {gd : Option (Nat × Bool)} (f : Nat) (first captured : List AOpd), DrawG prog (⟨d, .func f first captured, gd, id, pre⟩ : AOper) os kp e H over ls hs kk Q ↔ ThenX prog (aop0 e H (.func f first captured)) d os kp e over ls hs kk Q) ∧
    (∀ {prog : Nat → Option AFunc} {e : Env} {H : AH} {d : Option Nat} {id : Nat} {pre : List Nat} {os : List AOper} {over : List AOper} {ls : List LR} {hs : List HR} {kp : List Nat} {kk : List Kont} {Q : AExit → Env → AH → Prop} {gd : Option (Nat × Bool)} (f : Nat) (first captured : List AOpd), DrawN prog (⟨d, .func f first captured, gd, id, pre⟩ : AOper) os kp e H over ls hs kk Q ↔ DrawK prog os kp (putDst e d (.tuple [])) H over ls hs kk Q) ∧
    (∀ {prog : Nat → Option AFunc} {e : Env} {H : AH} {d : Option Nat} {id : Nat} {pre : List Nat} {os : List AOper} {over : List AOper} {ls : List LR} {hs : List HR} {kp : List Nat} {kk : List Kont} {Q : AExit → Env → AH → Prop} {gd : Option (Nat × Bool)} , DrawG prog (⟨d, .makeMap, gd, id, pre⟩ : AOper) os kp e H over ls hs kk Q ↔ ThenX prog (aop0 e H .makeMap) d os kp e over ls hs kk Q) ∧
    (∀ {prog : Nat → Option AFunc} {e : Env} {H : AH} {d : Option Nat} {id : Nat} {pre : List Nat} {os : List AOper} {over : List AOper} {ls : List LR} {hs : List HR} {kp : List Nat} {kk : List Kont} {Q : AExit → Env → AH → Prop} {gd : Option (Nat × Bool)} , DrawN prog (⟨d, .makeMap, gd, id, pre⟩ : AOper) os kp e H over ls hs kk Q ↔ DrawK prog os kp (putDst e d (.tuple [])) H over ls hs kk Q) ∧
    (∀ {prog : Nat → Option AFunc} {e : Env} {H : AH} {d : Option Nat} {id : Nat} {pre : List Nat} {os : List AOper} {over : List AOper} {ls : List LR} {hs : List HR} {kp : List Nat} {kk : List Kont} {Q : AExit → Env → AH → Prop} {gd : Option (Nat × Bool)} (sz bytes : Nat) (zero : List AV) (len cap : AOpd), DrawG prog (⟨d, .makeSlice sz bytes zero len cap, gd, id, pre⟩ : AOper) os kp e H over ls hs kk Q ↔ ThenX prog (aop0 e H (.makeSlice sz bytes zero len cap)) d os kp e over ls hs kk Q) ∧
    (∀ {prog : Nat → Option AFunc} {e : Env} {H : AH} {d : Option Nat} {id : Nat} {pre : List Nat} {os : List AOper} {over : List AOper} {ls : List LR} {hs : List HR} {kp : List Nat} {kk : List Kont} {Q : AExit → Env → AH → Prop} {gd : Option (Nat × Bool)} (sz bytes : Nat) (zero : List AV) (len cap : AOpd), DrawN prog (⟨d, .makeSlice sz bytes zero len cap, gd, id, pre⟩ : AOper) os kp e H over ls hs kk Q ↔ DrawK prog os kp (putDst e d (.tuple [])) H over ls hs kk Q) ∧
    (∀ {prog : Nat → Option AFunc} {e : Env} {H : AH} {d : Option Nat} {id : Nat} {pre : List Nat} {os : List AOper} {over : List AOper} {ls : List LR} {hs : List HR} {kp : List Nat} {kk : List Kont} {Q : AExit → Env → AH → Prop} {gd : Option (Nat × Bool)} (x : AOpd) (lo hi : Option AOpd), DrawG prog (⟨d, .sliceStr x lo hi, gd, id, pre⟩ : AOper) os kp e H over ls hs kk Q ↔ ThenX prog (aop0 e H (.sliceStr x lo hi)) d os kp e over ls hs kk Q) ∧
    (∀ {prog : Nat → Option AFunc} {e : Env} {H : AH} {d : Option Nat} {id : Nat} {pre : List Nat} {os : List AOper} {over : List AOper} {ls : List LR} {hs : List HR} {kp : List Nat} {kk : List Kont} {Q : AExit → Env → AH → Prop} {gd : Option (Nat × Bool)} (x : AOpd) (lo hi : Option AOpd), DrawN prog (⟨d, .sliceStr x lo hi, gd, id, pre⟩ : AOper) os kp e H over ls hs kk Q ↔ DrawK prog os kp (putDst e d (.tuple [])) H over ls hs kk Q) ∧
    (∀ {prog : Nat → Option AFunc} {e : Env} {H : AH} {d : Option Nat} {id : Nat} {pre : List Nat} {os : List AOper} {over : List AOper} {ls : List LR} {hs : List HR} {kp : List Nat} {kk : List Kont} {Q : AExit → Env → AH → Prop} {gd : Option (Nat × Bool)} (sz : Nat) (x : AOpd) (lo hi : Option AOpd), DrawG prog (⟨d, .sliceSl sz x lo hi, gd, id, pre⟩ : AOper) os kp e H over ls hs kk Q ↔ ThenX prog (aop0 e H (.sliceSl sz x lo hi)) d os kp e over ls hs kk Q) ∧
    (∀ {prog : Nat → Option AFunc} {e : Env} {H : AH} {d : Option Nat} {id : Nat} {pre : List Nat} {os : List AOper} {over : List AOper} {ls : List LR} {hs : List HR} {kp : List Nat} {kk : List Kont} {Q : AExit → Env → AH → Prop} {gd : Option (Nat × Bool)} (sz : Nat) (x : AOpd) (lo hi : Option AOpd), DrawN prog (⟨d, .sliceSl sz x lo hi, gd, id, pre⟩ : AOper) os kp e H over ls hs kk Q ↔ DrawK prog os kp (putDst e d (.tuple [])) H over ls hs kk Q) ∧
    (∀ {prog : Nat → Option AFunc} {e : Env} {H : AH} {d : Option Nat} {id : Nat} {pre : List Nat} {os : List AOper} {over : List AOper} {ls : List LR} {hs : List HR} {kp : List Nat} {kk : List Kont} {Q : AExit → Env → AH → Prop} {gd : Option (Nat × Bool)} (n sz : Nat) (x : AOpd) (lo hi : Option AOpd), DrawG prog (⟨d, .sliceArr n sz x lo hi, gd, id, pre⟩ : AOper) os kp e H over ls hs kk Q ↔ ThenY prog (aop0 e H (.sliceArr n sz x lo hi)) (⟨d, .sliceArr n sz x lo hi, gd, id, pre⟩ : AOper) (fun S => aop0 e S (.sliceArr n sz x lo hi)) os kp e over ls hs kk Q) ∧
    (∀ {prog : Nat → Option AFunc} {e : Env} {H : AH} {d : Option Nat} {id : Nat} {pre : List Nat} {os : List AOper} {over : List AOper} {ls : List LR} {hs : List HR} {kp : List Nat} {kk : List Kont} {Q : AExit → Env → AH → Prop} {gd : Option (Nat × Bool)} (n sz : Nat) (x : AOpd) (lo hi : Option AOpd), DrawN prog (⟨d, .sliceArr n sz x lo hi, gd, id, pre⟩ : AOper) os kp e H over ls hs kk Q ↔ DrawK prog os kp (putDst e d (.tuple [])) H over ls hs kk Q) ∧
    (∀ {prog : Nat → Option AFunc} {e : Env} {H : AH} {d : Option Nat} {id : Nat} {pre : List Nat} {os : List AOper} {over : List AOper} {ls : List LR} {hs : List HR} {kp : List Nat} {kk : List Kont} {Q : AExit → Env → AH → Prop} {gd : Option (Nat × Bool)} (n : Nat) (x : AOpd), DrawG prog (⟨d, .off n x, gd, id, pre⟩ : AOper) os kp e H over ls hs kk Q ↔ ThenX prog (aop0 e H (.off n x)) d os kp e over ls hs kk Q) ∧
    (∀ {prog : Nat → Option AFunc} {e : Env} {H : AH} {d : Option Nat} {id : Nat} {pre : List Nat} {os : List AOper} {over : List AOper} {ls : List LR} {hs : List HR} {kp : List Nat} {kk : List Kont} {Q : AExit → Env → AH → Prop} {gd : Option (Nat × Bool)} (n : Nat) (x : AOpd), DrawN prog (⟨d, .off n x, gd, id, pre⟩ : AOper) os kp e H over ls hs kk Q ↔ DrawK prog os kp (putDst e d (.tuple [])) H over ls hs kk Q) ∧
    (∀ {prog : Nat → Option AFunc} {e : Env} {H : AH} {d : Option Nat} {id : Nat} {pre : List Nat} {os : List AOper} {over : List AOper} {ls : List LR} {hs : List HR} {kp : List Nat} {kk : List Kont} {Q : AExit → Env → AH → Prop} {gd : Option (Nat × Bool)} (sz : Nat) (x i : AOpd), DrawG prog (⟨d, .idxSl sz x i, gd, id, pre⟩ : AOper) os kp e H over ls hs kk Q ↔ ThenX prog (aop0 e H (.idxSl sz x i)) d os kp e over ls hs kk Q) ∧
    (∀ {prog : Nat → Option AFunc} {e : Env} {H : AH} {d : Option Nat} {id : Nat} {pre : List Nat} {os : List AOper} {over : List AOper} {ls : List LR} {hs : List HR} {kp : List Nat} {kk : List Kont} {Q : AExit → Env → AH → Prop} {gd : Option (Nat × Bool)} (sz : Nat) (x i : AOpd), DrawN prog (⟨d, .idxSl sz x i, gd, id, pre⟩ : AOper) os kp e H over ls hs kk Q ↔ DrawK prog os kp (putDst e d (.tuple [])) H over ls hs kk Q) ∧
    (∀ {prog : Nat → Option AFunc} {e : Env} {H : AH} {d : Option Nat} {id : Nat} {pre : List Nat} {os : List AOper} {over : List AOper} {ls : List LR} {hs : List HR} {kp : List Nat} {kk : List Kont} {Q : AExit → Env → AH → Prop} {gd : Option (Nat × Bool)} (len sz : Nat) (x i : AOpd), DrawG prog (⟨d, .idxArr len sz x i, gd, id, pre⟩ : AOper) os kp e H over ls hs kk Q ↔ ThenX prog (aop0 e H (.idxArr len sz x i)) d os kp e over ls hs kk Q) ∧
    (∀ {prog : Nat → Option AFunc} {e : Env} {H : AH} {d : Option Nat} {id : Nat} {pre : List Nat} {os : List AOper} {over : List AOper} {ls : List LR} {hs : List HR} {kp : List Nat} {kk : List Kont} {Q : AExit → Env → AH → Prop} {gd : Option (Nat × Bool)} (len sz : Nat) (x i : AOpd), DrawN prog (⟨d, .idxArr len sz x i, gd, id, pre⟩ : AOper) os kp e H over ls hs kk Q ↔ DrawK prog os kp (putDst e d (.tuple [])) H over ls hs kk Q) ∧
    (∀ {prog : Nat → Option AFunc} {e : Env} {H : AH} {d : Option Nat} {id : Nat} {pre : List Nat} {os : List AOper} {over : List AOper} {ls : List LR} {hs : List HR} {kp : List Nat} {kk : List Kont} {Q : AExit → Env → AH → Prop} {gd : Option (Nat × Bool)} (off : Nat) (x : AOpd), DrawG prog (⟨d, .part off x, gd, id, pre⟩ : AOper) os kp e H over ls hs kk Q ↔ ThenX prog (aop0 e H (.part off x)) d os kp e over ls hs kk Q) ∧
    (∀ {prog : Nat → Option AFunc} {e : Env} {H : AH} {d : Option Nat} {id : Nat} {pre : List Nat} {os : List AOper} {over : List AOper} {ls : List LR} {hs : List HR} {kp : List Nat} {kk : List Kont} {Q : AExit → Env → AH → Prop} {gd : Option (Nat × Bool)} (off : Nat) (x : AOpd), DrawN prog (⟨d, .part off x, gd, id, pre⟩ : AOper) os kp e H over ls hs kk Q ↔ DrawK prog os kp (putDst e d (.tuple [])) H over ls hs kk Q) ∧
    (∀ {prog : Nat → Option AFunc} {e : Env} {H : AH} {d : Option Nat} {id : Nat} {pre : List Nat} {os : List AOper} {over : List AOper} {ls : List LR} {hs : List HR} {kp : List Nat} {kk : List Kont} {Q : AExit → Env → AH → Prop} {gd : Option (Nat × Bool)} (off n : Nat) (x : AOpd), DrawG prog (⟨d, .partN off n x, gd, id, pre⟩ : AOper) os kp e H over ls hs kk Q ↔ ThenX prog (aop0 e H (.partN off n x)) d os kp e over ls hs kk Q) ∧
    (∀ {prog : Nat → Option AFunc} {e : Env} {H : AH} {d : Option Nat} {id : Nat} {pre : List Nat} {os : List AOper} {over : List AOper} {ls : List LR} {hs : List HR} {kp : List Nat} {kk : List Kont} {Q : AExit → Env → AH → Prop} {gd : Option (Nat × Bool)} (off n : Nat) (x : AOpd), DrawN prog (⟨d, .partN off n x, gd, id, pre⟩ : AOper) os kp e H over ls hs kk Q ↔ DrawK prog os kp (putDst e d (.tuple [])) H over ls hs kk Q) ∧
    (∀ {prog : Nat → Option AFunc} {e : Env} {H : AH} {d : Option Nat} {id : Nat} {pre : List Nat} {os : List AOper} {over : List AOper} {ls : List LR} {hs : List HR} {kp : List Nat} {kk : List Kont} {Q : AExit → Env → AH → Prop} {gd : Option (Nat × Bool)} (len sz : Nat) (isAgg : Bool) (x i : AOpd), DrawG prog (⟨d, .at len sz isAgg x i, gd, id, pre⟩ : AOper) os kp e H over ls hs kk Q ↔ ThenX prog (aop0 e H (.at len sz isAgg x i)) d os kp e over ls hs kk Q) ∧
    (∀ {prog : Nat → Option AFunc} {e : Env} {H : AH} {d : Option Nat} {id : Nat} {pre : List Nat} {os : List AOper} {over : List AOper} {ls : List LR} {hs : List HR} {kp : List Nat} {kk : List Kont} {Q : AExit → Env → AH → Prop} {gd : Option (Nat × Bool)} (len sz : Nat) (isAgg : Bool) (x i : AOpd), DrawN prog (⟨d, .at len sz isAgg x i, gd, id, pre⟩ : AOper) os kp e H over ls hs kk Q ↔ DrawK prog os kp (putDst e d (.tuple [])) H over ls hs kk Q) ∧
    (∀ {prog : Nat → Option AFunc} {e : Env} {H : AH} {d : Option Nat} {id : Nat} {pre : List Nat} {os : List AOper} {over : List AOper} {ls : List LR} {hs : List HR} {kp : List Nat} {kk : List Kont} {Q : AExit → Env → AH → Prop} {gd : Option (Nat × Bool)} (x i : AOpd), DrawG prog (⟨d, .byteAt x i, gd, id, pre⟩ : AOper) os kp e H over ls hs kk Q ↔ ThenX prog (aop0 e H (.byteAt x i)) d os kp e over ls hs kk Q) ∧
    (∀ {prog : Nat → Option AFunc} {e : Env} {H : AH} {d : Option Nat} {id : Nat} {pre : List Nat} {os : List AOper} {over : List AOper} {ls : List LR} {hs : List HR} {kp : List Nat} {kk : List Kont} {Q : AExit → Env → AH → Prop} {gd : Option (Nat × Bool)} (x i : AOpd), DrawN prog (⟨d, .byteAt x i, gd, id, pre⟩ : AOper) os kp e H over ls hs kk Q ↔ DrawK prog os kp (putDst e d (.tuple [])) H over ls hs kk Q) ∧
    (∀ {prog : Nat → Option AFunc} {e : Env} {H : AH} {d : Option Nat} {id : Nat} {pre : List Nat} {os : List AOper} {over : List AOper} {ls : List LR} {hs : List HR} {kp : List Nat} {kk : List Kont} {Q : AExit → Env → AH → Prop} {gd : Option (Nat × Bool)} (g : Bool) (ks : List SK) (zero : AV) (ok : Bool) (m k : AOpd), DrawG prog (⟨d, .lookup g ks zero ok m k, gd, id, pre⟩ : AOper) os kp e H over ls hs kk Q ↔ ThenY prog (aop0 e H (.lookup g ks zero ok m k)) (⟨d, .lookup g ks zero ok m k, gd, id, pre⟩ : AOper) (fun S => aop0 e S (.lookup g ks zero ok m k)) os kp e over ls hs kk Q) ∧
    (∀ {prog : Nat → Option AFunc} {e : Env} {H : AH} {d : Option Nat} {id : Nat} {pre : List Nat} {os : List AOper} {over : List AOper} {ls : List LR} {hs : List HR} {kp : List Nat} {kk : List Kont} {Q : AExit → Env → AH → Prop} {gd : Option (Nat × Bool)} (g : Bool) (ks : List SK) (zero : AV) (ok : Bool) (m k : AOpd), DrawN prog (⟨d, .lookup g ks zero ok m k, gd, id, pre⟩ : AOper) os kp e H over ls hs kk Q ↔ DrawK prog os kp (putDst e d (.tuple [])) H over ls hs kk Q) ∧
    (∀ {prog : Nat → Option AFunc} {e : Env} {H : AH} {d : Option Nat} {id : Nat} {pre : List Nat} {os : List AOper} {over : List AOper} {ls : List LR} {hs : List HR} {kp : List Nat} {kk : List Kont} {Q : AExit → Env → AH → Prop} {gd : Option (Nat × Bool)} (g : Bool) (ks : List SK) (m k v : AOpd), DrawG prog (⟨d, .update g ks m k v, gd, id, pre⟩ : AOper) os kp e H over ls hs kk Q ↔ okAll ls ⟨H, over, (⟨d, .update g ks m k v, gd, id, pre⟩ : AOper) :: effsO os⟩ ∧ ThenX prog (aop0 e H (.update g ks m k v)) d os kp e (over ++ [(⟨d, .update g ks m k v, gd, id, pre⟩ : AOper)]) ls (hs ++ [⟨H, over, (⟨d, .update g ks m k v, gd, id, pre⟩ : AOper) :: effsO os⟩]) kk Q) ∧
    (∀ {prog : Nat → Option AFunc} {e : Env} {H : AH} {d : Option Nat} {id : Nat} {pre : List Nat} {os : List AOper} {over : List AOper} {ls : List LR} {hs : List HR} {kp : List Nat} {kk : List Kont} {Q : AExit → Env → AH → Prop} {gd : Option (Nat × Bool)} (g : Bool) (ks : List SK) (m k v : AOpd), DrawN prog (⟨d, .update g ks m k v, gd, id, pre⟩ : AOper) os kp e H over ls hs kk Q ↔ okAll ls ⟨H, over, (⟨d, .update g ks m k v, gd, id, pre⟩ : AOper) :: effsO os⟩ ∧ DrawK prog os kp (putDst e d (.tuple [])) H (over ++ [(⟨d, .update g ks m k v, gd, id, pre⟩ : AOper)]) ls (hs ++ [⟨H, over, (⟨d, .update g ks m k v, gd, id, pre⟩ : AOper) :: effsO os⟩]) kk Q) ∧
    (∀ {prog : Nat → Option AFunc} {e : Env} {H : AH} {d : Option Nat} {id : Nat} {pre : List Nat} {os : List AOper} {over : List AOper} {ls : List LR} {hs : List HR} {kp : List Nat} {kk : List Kont} {Q : AExit → Env → AH → Prop} {gd : Option (Nat × Bool)} (x : AOpd), DrawG prog (⟨d, .rangeStr x, gd, id, pre⟩ : AOper) os kp e H over ls hs kk Q ↔ okAll ls ⟨H, over, (⟨d, .rangeStr x, gd, id, pre⟩ : AOper) :: effsO os⟩ ∧ ThenX prog (aop0 e H (.rangeStr x)) d os kp e (over ++ [(⟨d, .rangeStr x, gd, id, pre⟩ : AOper)]) ls (hs ++ [⟨H, over, (⟨d, .rangeStr x, gd, id, pre⟩ : AOper) :: effsO os⟩]) kk Q) ∧
    (∀ {prog : Nat → Option AFunc} {e : Env} {H : AH} {d : Option Nat} {id : Nat} {pre : List Nat} {os : List AOper} {over : List AOper} {ls : List LR} {hs : List HR} {kp : List Nat} {kk : List Kont} {Q : AExit → Env → AH → Prop} {gd : Option (Nat × Bool)} (x : AOpd), DrawN prog (⟨d, .rangeStr x, gd, id, pre⟩ : AOper) os kp e H over ls hs kk Q ↔ okAll ls ⟨H, over, (⟨d, .rangeStr x, gd, id, pre⟩ : AOper) :: effsO os⟩ ∧ DrawK prog os kp (putDst e d (.tuple [])) H (over ++ [(⟨d, .rangeStr x, gd, id, pre⟩ : AOper)]) ls (hs ++ [⟨H, over, (⟨d, .rangeStr x, gd, id, pre⟩ : AOper) :: effsO os⟩]) kk Q) ∧
    (∀ {prog : Nat → Option AFunc} {e : Env} {H : AH} {d : Option Nat} {id : Nat} {pre : List Nat} {os : List AOper} {over : List AOper} {ls : List LR} {hs : List HR} {kp : List Nat} {kk : List Kont} {Q : AExit → Env → AH → Prop} {gd : Option (Nat × Bool)} (it : AOpd), DrawG prog (⟨d, .nextStr it, gd, id, pre⟩ : AOper) os kp e H over ls hs kk Q ↔ okAll ls ⟨H, over, (⟨d, .nextStr it, gd, id, pre⟩ : AOper) :: effsO os⟩ ∧ ThenX prog (aop0 e H (.nextStr it)) d os kp e (over ++ [(⟨d, .nextStr it, gd, id, pre⟩ : AOper)]) ls (hs ++ [⟨H, over, (⟨d, .nextStr it, gd, id, pre⟩ : AOper) :: effsO os⟩]) kk Q) ∧
    (∀ {prog : Nat → Option AFunc} {e : Env} {H : AH} {d : Option Nat} {id : Nat} {pre : List Nat} {os : List AOper} {over : List AOper} {ls : List LR} {hs : List HR} {kp : List Nat} {kk : List Kont} {Q : AExit → Env → AH → Prop} {gd : Option (Nat × Bool)} (it : AOpd), DrawN prog (⟨d, .nextStr it, gd, id, pre⟩ : AOper) os kp e H over ls hs kk Q ↔ okAll ls ⟨H, over, (⟨d, .nextStr it, gd, id, pre⟩ : AOper) :: effsO os⟩ ∧ DrawK prog os kp (putDst e d (.tuple [])) H (over ++ [(⟨d, .nextStr it, gd, id, pre⟩ : AOper)]) ls (hs ++ [⟨H, over, (⟨d, .nextStr it, gd, id, pre⟩ : AOper) :: effsO os⟩]) kk Q) ∧
    (∀ {prog : Nat → Option AFunc} {e : Env} {H : AH} {d : Option Nat} {id : Nat} {pre : List Nat} {os : List AOper} {over : List AOper} {ls : List LR} {hs : List HR} {kp : List Nat} {kk : List Kont} {Q : AExit → Env → AH → Prop} {gd : Option (Nat × Bool)} (i : Nat) (x : AOpd), DrawG prog (⟨d, .extract i x, gd, id, pre⟩ : AOper) os kp e H over ls hs kk Q ↔ ThenX prog (aop0 e H (.extract i x)) d os kp e over ls hs kk Q) ∧
    (∀ {prog : Nat → Option AFunc} {e : Env} {H : AH} {d : Option Nat} {id : Nat} {pre : List Nat} {os : List AOper} {over : List AOper} {ls : List LR} {hs : List HR} {kp : List Nat} {kk : List Kont} {Q : AExit → Env → AH → Prop} {gd : Option (Nat × Bool)} (i : Nat) (x : AOpd), DrawN prog (⟨d, .extract i x, gd, id, pre⟩ : AOper) os kp e H over ls hs kk Q ↔ DrawK prog os kp (putDst e d (.tuple [])) H over ls hs kk Q) ∧
    (∀ {prog : Nat → Option AFunc} {e : Env} {H : AH} {d : Option Nat} {id : Nat} {pre : List Nat} {os : List AOper} {over : List AOper} {ls : List LR} {hs : List HR} {kp : List Nat} {kk : List Kont} {Q : AExit → Env → AH → Prop} {gd : Option (Nat × Bool)} (isStr : Bool) (x : AOpd), DrawG prog (⟨d, .len isStr x, gd, id, pre⟩ : AOper) os kp e H over ls hs kk Q ↔ ThenX prog (aop0 e H (.len isStr x)) d os kp e over ls hs kk Q) ∧
    (∀ {prog : Nat → Option AFunc} {e : Env} {H : AH} {d : Option Nat} {id : Nat} {pre : List Nat} {os : List AOper} {over : List AOper} {ls : List LR} {hs : List HR} {kp : List Nat} {kk : List Kont} {Q : AExit → Env → AH → Prop} {gd : Option (Nat × Bool)} (isStr : Bool) (x : AOpd), DrawN prog (⟨d, .len isStr x, gd, id, pre⟩ : AOper) os kp e H over ls hs kk Q ↔ DrawK prog os kp (putDst e d (.tuple [])) H over ls hs kk Q) ∧
    (∀ {prog : Nat → Option AFunc} {e : Env} {H : AH} {d : Option Nat} {id : Nat} {pre : List Nat} {os : List AOper} {over : List AOper} {ls : List LR} {hs : List HR} {kp : List Nat} {kk : List Kont} {Q : AExit → Env → AH → Prop} {gd : Option (Nat × Bool)} (x : AOpd), DrawG prog (⟨d, .lenMap x, gd, id, pre⟩ : AOper) os kp e H over ls hs kk Q ↔ ThenY prog (aop0 e H (.lenMap x)) (⟨d, .lenMap x, gd, id, pre⟩ : AOper) (fun S => aop0 e S (.lenMap x)) os kp e over ls hs kk Q) ∧
    (∀ {prog : Nat → Option AFunc} {e : Env} {H : AH} {d : Option Nat} {id : Nat} {pre : List Nat} {os : List AOper} {over : List AOper} {ls : List LR} {hs : List HR} {kp : List Nat} {kk : List Kont} {Q : AExit → Env → AH → Prop} {gd : Option (Nat × Bool)} (x : AOpd), DrawN prog (⟨d, .lenMap x, gd, id, pre⟩ : AOper) os kp e H over ls hs kk Q ↔ DrawK prog os kp (putDst e d (.tuple [])) H over ls hs kk Q) ∧
    (∀ {prog : Nat → Option AFunc} {e : Env} {H : AH} {d : Option Nat} {id : Nat} {pre : List Nat} {os : List AOper} {over : List AOper} {ls : List LR} {hs : List HR} {kp : List Nat} {kk : List Kont} {Q : AExit → Env → AH → Prop} {gd : Option (Nat × Bool)} (sz bytes : Nat) (s x : AOpd), DrawG prog (⟨d, .append sz bytes s x, gd, id, pre⟩ : AOper) os kp e H over ls hs kk Q ↔ okAll ls ⟨H, over, (⟨d, .append sz bytes s x, gd, id, pre⟩ : AOper) :: effsO os⟩ ∧ ThenX prog (aop0 e H (.append sz bytes s x)) d os kp e (over ++ [(⟨d, .append sz bytes s x, gd, id, pre⟩ : AOper)]) ls (hs ++ [⟨H, over, (⟨d, .append sz bytes s x, gd, id, pre⟩ : AOper) :: effsO os⟩]) kk Q) ∧
    (∀ {prog : Nat → Option AFunc} {e : Env} {H : AH} {d : Option Nat} {id : Nat} {pre : List Nat} {os : List AOper} {over : List AOper} {ls : List LR} {hs : List HR} {kp : List Nat} {kk : List Kont} {Q : AExit → Env → AH → Prop} {gd : Option (Nat × Bool)} (sz bytes : Nat) (s x : AOpd), DrawN prog (⟨d, .append sz bytes s x, gd, id, pre⟩ : AOper) os kp e H over ls hs kk Q ↔ okAll ls ⟨H, over, (⟨d, .append sz bytes s x, gd, id, pre⟩ : AOper) :: effsO os⟩ ∧ DrawK prog os kp (putDst e d (.tuple [])) H (over ++ [(⟨d, .append sz bytes s x, gd, id, pre⟩ : AOper)]) ls (hs ++ [⟨H, over, (⟨d, .append sz bytes s x, gd, id, pre⟩ : AOper) :: effsO os⟩]) kk Q) ∧
    (∀ {prog : Nat → Option AFunc} {e : Env} {H : AH} {d : Option Nat} {id : Nat} {pre : List Nat} {os : List AOper} {over : List AOper} {ls : List LR} {hs : List HR} {kp : List Nat} {kk : List Kont} {Q : AExit → Env → AH → Prop} {gd : Option (Nat × Bool)} (sz : Nat) (y s : AOpd), DrawG prog (⟨d, .copy sz y s, gd, id, pre⟩ : AOper) os kp e H over ls hs kk Q ↔ okAll ls ⟨H, over, (⟨d, .copy sz y s, gd, id, pre⟩ : AOper) :: effsO os⟩ ∧ ThenX prog (aop0 e H (.copy sz y s)) d os kp e (over ++ [(⟨d, .copy sz y s, gd, id, pre⟩ : AOper)]) ls (hs ++ [⟨H, over, (⟨d, .copy sz y s, gd, id, pre⟩ : AOper) :: effsO os⟩]) kk Q) ∧
    (∀ {prog : Nat → Option AFunc} {e : Env} {H : AH} {d : Option Nat} {id : Nat} {pre : List Nat} {os : List AOper} {over : List AOper} {ls : List LR} {hs : List HR} {kp : List Nat} {kk : List Kont} {Q : AExit → Env → AH → Prop} {gd : Option (Nat × Bool)} (sz : Nat) (y s : AOpd), DrawN prog (⟨d, .copy sz y s, gd, id, pre⟩ : AOper) os kp e H over ls hs kk Q ↔ okAll ls ⟨H, over, (⟨d, .copy sz y s, gd, id, pre⟩ : AOper) :: effsO os⟩ ∧ DrawK prog os kp (putDst e d (.tuple [])) H (over ++ [(⟨d, .copy sz y s, gd, id, pre⟩ : AOper)]) ls (hs ++ [⟨H, over, (⟨d, .copy sz y s, gd, id, pre⟩ : AOper) :: effsO os⟩]) kk Q) ∧
    (∀ {prog : Nat → Option AFunc} {e : Env} {H : AH} {d : Option Nat} {id : Nat} {pre : List Nat} {os : List AOper} {over : List AOper} {ls : List LR} {hs : List HR} {kp : List Nat} {kk : List Kont} {Q : AExit → Env → AH → Prop} {gd : Option (Nat × Bool)} (x : AOpd) (xs : List AOpd), DrawG prog (⟨d, .maxInt x xs, gd, id, pre⟩ : AOper) os kp e H over ls hs kk Q ↔ ThenX prog (aop0 e H (.maxInt x xs)) d os kp e over ls hs kk Q) ∧
    (∀ {prog : Nat → Option AFunc} {e : Env} {H : AH} {d : Option Nat} {id : Nat} {pre : List Nat} {os : List AOper} {over : List AOper} {ls : List LR} {hs : List HR} {kp : List Nat} {kk : List Kont} {Q : AExit → Env → AH → Prop} {gd : Option (Nat × Bool)} (x : AOpd) (xs : List AOpd), DrawN prog (⟨d, .maxInt x xs, gd, id, pre⟩ : AOper) os kp e H over ls hs kk Q ↔ DrawK prog os kp (putDst e d (.tuple [])) H over ls hs kk Q) ∧
    (∀ {prog : Nat → Option AFunc} {e : Env} {H : AH} {d : Option Nat} {id : Nat} {pre : List Nat} {os : List AOper} {over : List AOper} {ls : List LR} {hs : List HR} {kp : List Nat} {kk : List Kont} {Q : AExit → Env → AH → Prop} {gd : Option (Nat × Bool)} (x : AOpd) (xs : List AOpd), DrawG prog (⟨d, .minInt x xs, gd, id, pre⟩ : AOper) os kp e H over ls hs kk Q ↔ ThenX prog (aop0 e H (.minInt x xs)) d os kp e over ls hs kk Q) ∧
    (∀ {prog : Nat → Option AFunc} {e : Env} {H : AH} {d : Option Nat} {id : Nat} {pre : List Nat} {os : List AOper} {over : List AOper} {ls : List LR} {hs : List HR} {kp : List Nat} {kk : List Kont} {Q : AExit → Env → AH → Prop} {gd : Option (Nat × Bool)} (x : AOpd) (xs : List AOpd), DrawN prog (⟨d, .minInt x xs, gd, id, pre⟩ : AOper) os kp e H over ls hs kk Q ↔ DrawK prog os kp (putDst e d (.tuple [])) H over ls hs kk Q) ∧
    (∀ {prog : Nat → Option AFunc} {e : Env} {H : AH} {d : Option Nat} {id : Nat} {pre : List Nat} {os : List AOper} {over : List AOper} {ls : List LR} {hs : List HR} {kp : List Nat} {kk : List Kont} {Q : AExit → Env → AH → Prop} {gd : Option (Nat × Bool)} (f : AOpd) (xs : List AOpd), DrawN prog (⟨d, .call f xs, gd, id, pre⟩ : AOper) os kp e H over ls hs kk Q ↔ okAll ls ⟨H, over, (⟨d, .call f xs, gd, id, pre⟩ : AOper) :: effsO os⟩ ∧ DrawK prog os kp (putDst e d (.tuple [])) H (over ++ [(⟨d, .call f xs, gd, id, pre⟩ : AOper)]) ls (hs ++ [⟨H, over, (⟨d, .call f xs, gd, id, pre⟩ : AOper) :: effsO os⟩]) kk Q) ∧
    (∀ {prog : Nat → Option AFunc} {e : Env} {H : AH} {over : List AOper} {ls : List LR} {hs : List HR} {kp : List Nat} {kk : List Kont} {Q : AExit → Env → AH → Prop}, DrawK prog [] kp e H over ls hs kk Q ↔ okAll ls ⟨H, over, []⟩ ∧ EndK prog .normal (e.keep kp) H kk Q) ∧
    (∀ {prog : Nat → Option AFunc} {v : AV} {H : AH} {d : Option Nat} {os : List AOper} {e : Env} {over : List AOper} {ls : List LR} {hs : List HR} {kp : List Nat} {kk : List Kont} {Q : AExit → Env → AH → Prop}, ThenX prog (some (v, H)) d os kp e over ls hs kk Q ↔ DrawK prog os kp (putDst e d v) H over ls hs kk Q) ∧
    (∀ {prog : Nat → Option AFunc} {v : AV} {H : AH} {o : AOper} {f : AH → ORes} {os : List AOper} {e : Env} {over : List AOper} {ls : List LR} {hs : List HR} {kp : List Nat} {kk : List Kont} {Q : AExit → Env → AH → Prop}, ThenY prog (some (v, H)) o f os kp e over ls hs kk Q ↔ okOne ⟨o, f, v⟩ hs ∧ DrawK prog os kp (putDst e o.dst v) H over (ls ++ [⟨o, f, v⟩]) hs kk Q) ∧
    (∀ {prog : Nat → Option AFunc} {e : Env} {H : AH} {d : Option Nat} {id : Nat} {pre : List Nat} {os : List AOper} {over : List AOper} {ls : List LR} {hs : List HR} {kp : List Nat} {kk : List Kont} {Q : AExit → Env → AH → Prop} {op : AOp}, DrawK prog (⟨d, op, none, id, pre⟩ :: os) kp e H over ls hs kk Q ↔ DrawG prog ⟨d, op, none, id, pre⟩ os kp e H over ls hs kk Q) ∧
    (∀ {prog : Nat → Option AFunc} {e : Env} {H : AH} {d : Option Nat} {id : Nat} {pre : List Nat} {os : List AOper} {over : List AOper} {ls : List LR} {hs : List HR} {kp : List Nat} {kk : List Kont} {Q : AExit → Env → AH → Prop} {op : AOp} {t : Nat} {b : Bool}, DrawK prog (⟨d, op, some (t, b), id, pre⟩ :: os) kp e H over ls hs kk Q ↔ GuardX prog (e.get t) b ⟨d, op, some (t, b), id, pre⟩ os kp e H over ls hs kk Q) ∧
    (∀ {prog : Nat → Option AFunc} {e : Env} {H : AH} {os : List AOper} {over : List AOper} {ls : List LR} {hs : List HR} {kp : List Nat} {kk : List Kont} {Q : AExit → Env → AH → Prop} {o : AOper}, GuardX prog (some (.bool true)) true o os kp e H over ls hs kk Q ↔ DrawG prog o os kp e H over ls hs kk Q) ∧
    (∀ {prog : Nat → Option AFunc} {e : Env} {H : AH} {os : List AOper} {over : List AOper} {ls : List LR} {hs : List HR} {kp : List Nat} {kk : List Kont} {Q : AExit → Env → AH → Prop} {o : AOper}, GuardX prog (some (.bool false)) false o os kp e H over ls hs kk Q ↔ DrawG prog o os kp e H over ls hs kk Q) ∧
    (∀ {prog : Nat → Option AFunc} {e : Env} {H : AH} {os : List AOper} {over : List AOper} {ls : List LR} {hs : List HR} {kp : List Nat} {kk : List Kont} {Q : AExit → Env → AH → Prop} {o : AOper}, GuardX prog (some (.bool true)) false o os kp e H over ls hs kk Q ↔ DrawN prog o os kp e H over ls hs kk Q) ∧
    (∀ {prog : Nat → Option AFunc} {e : Env} {H : AH} {os : List AOper} {over : List AOper} {ls : List LR} {hs : List HR} {kp : List Nat} {kk : List Kont} {Q : AExit → Env → AH → Prop} {o : AOper}, GuardX prog (some (.bool false)) true o os kp e H over ls hs kk Q ↔ DrawN prog o os kp e H over ls hs kk Q) ∧
    (∀ {prog : Nat → Option AFunc} {e : Env} {H : AH} {os : List AOper} {over : List AOper} {ls : List LR} {hs : List HR} {kp : List Nat} {kk : List Kont} {Q : AExit → Env → AH → Prop} {o : AOper} {b : Bool}, GuardX prog (some (.tuple [])) b o os kp e H over ls hs kk Q ↔ DrawN prog o os kp e H over ls hs kk Q) :=
  ⟨by intros; exact Iff.rfl,
   by intros; exact Iff.rfl,
   by intros; exact Iff.rfl,
   by intros; exact Iff.rfl,
   by intros; exact Iff.rfl,
   by intros; exact Iff.rfl,
   by intros; exact Iff.rfl,
   by intros; exact Iff.rfl,
   by intros; exact Iff.rfl,
   by intros; exact Iff.rfl,
   by intros; exact Iff.rfl,
   by intros; exact Iff.rfl,
   by intros; exact Iff.rfl,
   by intros; exact Iff.rfl,
   by intros; exact Iff.rfl,
   by intros; exact Iff.rfl,
   by intros; exact Iff.rfl,
   by intros; exact Iff.rfl,
   by intros; exact Iff.rfl,
   by intros; exact Iff.rfl,
   by intros; exact Iff.rfl,
   by intros; exact Iff.rfl,
   by intros; exact Iff.rfl,
   by intros; exact Iff.rfl,
   by intros; exact Iff.rfl,
   by intros; exact Iff.rfl,
   by intros; exact Iff.rfl,
   by intros; exact Iff.rfl,
   by intros; exact Iff.rfl,
   by intros; exact Iff.rfl,
   by intros; exact Iff.rfl,
   by intros; exact Iff.rfl,
   by intros; exact Iff.rfl,
   by intros; exact Iff.rfl,
   by intros; exact Iff.rfl,
   by intros; exact Iff.rfl,
   by intros; exact Iff.rfl,
   by intros; exact Iff.rfl,
   by intros; exact Iff.rfl,
   by intros; exact Iff.rfl,
   by intros; exact Iff.rfl,
   by intros; exact Iff.rfl,
   by intros; exact Iff.rfl,
   by intros; exact Iff.rfl,
   by intros; exact Iff.rfl,
   by intros; exact Iff.rfl,
   by intros; exact Iff.rfl,
   by intros; exact Iff.rfl,
   by intros; exact Iff.rfl,
   by intros; exact Iff.rfl,
   by intros; exact Iff.rfl,
   by intros; exact Iff.rfl,
   by intros; exact Iff.rfl,
   by intros; exact Iff.rfl,
   by intros; exact Iff.rfl,
   by intros; exact Iff.rfl,
   by intros; exact Iff.rfl,
   by intros; exact Iff.rfl,
   by intros; exact Iff.rfl,
   by intros; exact Iff.rfl,
   by intros; exact Iff.rfl,
   by intros; exact Iff.rfl,
   by intros; exact Iff.rfl,
   by intros; exact Iff.rfl,
   by intros; exact Iff.rfl,
   by intros; exact Iff.rfl,
   by intros; exact Iff.rfl,
   by intros; exact Iff.rfl,
   by intros; exact Iff.rfl,
   by intros; exact Iff.rfl,
   by intros; exact Iff.rfl,
   by intros; exact Iff.rfl,
   by intros; exact Iff.rfl,
   by intros; exact Iff.rfl,
   by intros; exact Iff.rfl,
   by intros; exact Iff.rfl,
   by intros; exact Iff.rfl,
   by intros; exact Iff.rfl,
   by intros; exact Iff.rfl,
   by intros; exact Iff.rfl,
   by intros; exact Iff.rfl,
   Iff.rfl,
   Iff.rfl,
   Iff.rfl,
   WpD_yes rfl,
   D_guard,
   by intros; exact Iff.rfl,
   by intros; exact Iff.rfl,
   by intros; exact Iff.rfl,
   by intros; exact Iff.rfl,
   by intros; exact Iff.rfl⟩
def okV (x : ORes) (v : AV) : Prop := match x with
  | some (u, _) => u = v
  | none => False
theorem okAt_iff {o : AOper} {f : AH → ORes} {v : AV} {S : AH} {over todo : List AOper} : okAt ⟨o, f, v⟩ ⟨S, over, todo⟩ ↔ (admits o over todo = true → okV (f S) v) := by
  unfold okAt okV
  refine imp_congr Iff.rfl ?_
  simp only
  cases f S with
  | none => simp
  | some x => obtain ⟨u, H'⟩ := x; simp
theorem K6 :
    (∀ {o : AOper} {f : AH → ORes} {v : AV} {S : AH} {over todo : List AOper}, okAt ⟨o, f, v⟩ ⟨S, over, todo⟩ ↔ (admits o over todo = true → okV (f S) v)) ∧
    (∀ {v : AV} {H : AH}, okV (some (v, H)) v ↔ True) ∧
    (∀ {o : AOper} {over todo : List AOper}, admits o over todo = ((todo.all fun e => !hasNat o.pre e.id) && (over.all fun e => !hasNat e.pre o.id))) ∧
    (∀ {p : AOper → Bool}, [].all p = true) ∧
    (∀ {p : AOper → Bool} {v : AOper} {vs : List AOper}, (v :: vs).all p = (p v && vs.all p)) ∧
    (∀ {p : Prop}, (False → p) ↔ True) ∧ (∀ {p : Prop}, (p → True) ↔ True) ∧ (∀ {p : Prop}, (True → p) ↔ p) ∧
    (∀ {p : AOper → Bool}, List.filter p [] = []) ∧
    (∀ {p : AOper → Bool} {v : AOper} {vs : List AOper}, List.filter p (v :: vs) = if p v = true then v :: List.filter p vs else List.filter p vs) := by
  refine ⟨okAt_iff, ?_, rfl, rfl, rfl, ?_, ?_, ?_, rfl, List.filter_cons⟩
  · intro v H; exact iff_true_intro rfl
  · intro p; exact iff_true_intro (fun h => h.elim)
  · intro p; exact iff_true_intro (fun _ => trivial)
  · intro p; exact ⟨fun h => h trivial, fun h _ => h⟩
def CallK (prog : Nat → Option AFunc) (f : Option AV) (vs : Option (List AV)) (d : Option Nat) (os : List AOper) (kp : List Nat) (e : Env) (H : AH) (ks : List Kont) (Q : AExit → Env → AH → Prop) : Prop :=
  match f, vs with
  | some fv, some vs => CallQ prog fv vs H fun v H' => RegK prog os kp (putDst e d v) H' ks Q
  | _, _ => False
def CallD (prog : Nat → Option AFunc) (f : Option AV) (vs : Option (List AV)) (o : AOper) (os : List AOper) (kp : List Nat) (e : Env) (H : AH) (over : List AOper) (ls : List LR) (hs : List HR) (ks : List Kont) (Q : AExit → Env → AH → Prop) : Prop :=
  match f, vs with
  | some fv, some vs => CallQ prog fv vs H fun v H' => DrawK prog os kp (putDst e o.dst v) H' (over ++ [o]) ls (hs ++ [⟨H, over, o :: effsO os⟩]) ks Q
  | _, _ => False
theorem C_call {prog : Nat → Option AFunc} {fv : AV} {vs : List AV} {d : Option Nat} {os : List AOper} {kp : List Nat} {e : Env} {H : AH} {ks : List Kont} {Q : AExit → Env → AH → Prop}
    (h : CallQ prog fv vs H fun v H' => RegK prog os kp (putDst e d v) H' ks Q) : CallK prog (some fv) (some vs) d os kp e H ks Q := h
theorem C_calld {prog : Nat → Option AFunc} {fv : AV} {vs : List AV} {o : AOper} {os : List AOper} {kp : List Nat} {e : Env} {H : AH} {over : List AOper} {ls : List LR} {hs : List HR} {ks : List Kont} {Q : AExit → Env → AH → Prop}
    (h : CallQ prog fv vs H fun v H' => Goal (DrawK prog os kp (putDst e o.dst v) H' (over ++ [o]) ls (hs ++ [⟨H, over, o :: effsO os⟩]) ks Q)) : CallD prog (some fv) (some vs) o os kp e H over ls hs ks Q := CallQ.mono h fun _ _ h => h.out
theorem K5 :
    (∀ {prog : Nat → Option AFunc} {e : Env} {H : AH} {d : Option Nat} {id : Nat} {pre : List Nat} {os : List AOper} {kp : List Nat} {ks : List Kont} {Q : AExit → Env → AH → Prop} {f : AOpd} {xs : List AOpd},
      RegK prog (⟨d, .call f xs, none, id, pre⟩ :: os) kp e H ks Q ↔ CallK prog (f.val e) (vals e xs) d os kp e H ks Q) ∧
    (∀ {prog : Nat → Option AFunc} {e : Env} {H : AH} {d : Option Nat} {id : Nat} {pre : List Nat} {os : List AOper} {kp : List Nat} {ks : List Kont} {Q : AExit → Env → AH → Prop} {f : AOpd} {xs : List AOpd} {over : List AOper} {ls : List LR} {hs : List HR} {gd : Option (Nat × Bool)},
      DrawG prog ⟨d, .call f xs, gd, id, pre⟩ os kp e H over ls hs ks Q ↔ okAll ls ⟨H, over, (⟨d, .call f xs, gd, id, pre⟩ : AOper) :: effsO os⟩ ∧ CallD prog (f.val e) (vals e xs) ⟨d, .call f xs, gd, id, pre⟩ os kp e H over ls hs ks Q) := by
  refine ⟨?_, ?_⟩
  · intro prog e H d id pre os kp ks Q f xs
    constructor
    · rintro ⟨n, e', H', h, hq⟩
      simp only [aops, AOper.wanted, aop] at h
      unfold CallK
      cases hf : f.val e with
      | none => rw [hf] at h; simp [with1] at h
      | some fv =>
        cases hv : vals e xs with
        | none => rw [hf, hv] at h; simp [with1, withL] at h
        | some vs =>
          rw [hf, hv] at h
          simp only [with1, withL] at h
          split at h
          · rename_i v H1 h1
            exact ⟨n, v, H1, h1, n, e', H', h, hq⟩
          · cases h
    · intro h
      unfold CallK at h
      split at h
      · rename_i hf hv
        exact WpOps_call rfl hf hv h
      · exact h.elim
  · intro prog e H d id pre os kp ks Q f xs over ls hs gd
    show (okAll _ _ ∧ EffQ _ _ _ _ _) ↔ _
    unfold EffQ CallD
    refine and_congr Iff.rfl ?_
    simp only
    cases f.val e <;> cases vals e xs <;> exact Iff.rfl
def byteR (H : AH) : Option UInt8 → ORes
  | some b => some (.int .u8 b.toNat, H)
  | none => none
theorem E6 :
    (∀ {n : Nat}, natOf (.int .i64 (OfNat.ofNat n)) = some n) ∧
    (natOf (.int .i64 0) = some 0) ∧ (natOf (.int .i64 1) = some 1) ∧
    (∀ {s : ByteArray} {v : AV} {H : AH}, opByteAt (.str s) v H = byteR H ((natOf v).bind fun k => s.toList[k]?)) ∧
    (∀ {H : AH} {b : UInt8}, byteR H (some b) = some (.int .u8 b.toNat, H)) ∧
    (∀ {k : Nat} {f : Nat → Option UInt8}, (some k).bind f = f k) := by
  refine ⟨?_, rfl, rfl, ?_, rfl, rfl⟩
  · intro n
    have : (OfNat.ofNat n : Int) = ((n : Nat) : Int) := rfl
    rw [this]; simp [natOf]
  · intro s v H
    unfold opByteAt byteR
    cases natOf v with
    | none => rfl
    | some k => simp only [Option.bind_some]; cases s.toList[k]? <;> rfl
theorem E5 :
    (∀ {e : Env} {t k : Nat} {v : AV}, (e.put t v).get k = if t = k then some v else e.get k) ∧
    (∀ {e : Env} {l : List Nat} {k : Nat}, (e.keep l).get k = if hasNat l k then e.get k else none) := ⟨Env.get_put _ _ _ _, Env.get_keep' _ _ _⟩
end Go.AM
namespace Go.AM
def freeOf (l : List Nat) (e : AOper) : Bool := !hasNat l e.id
def overOf (n : Nat) (e : AOper) : Bool := !hasNat e.pre n
def effOf (e : AOper) : Bool := e.isEff
theorem K6n :
    (∀ {o : AOper} {f : AH → ORes} {v : AV} {S : AH} {over todo : List AOper}, okAt ⟨o, f, v⟩ ⟨S, over, todo⟩ ↔ (admits o over todo = true → okV (f S) v)) ∧
    (∀ {v : AV} {H : AH}, okV (some (v, H)) v ↔ True) ∧
    (∀ {d : Option Nat} {op : AOp} {g : Option (Nat × Bool)} {id : Nat} {pre : List Nat} {over todo : List AOper}, admits ⟨d, op, g, id, pre⟩ over todo = (todo.all (freeOf pre) && over.all (overOf id))) ∧
    (∀ {p : AOper → Bool}, [].all p = true) ∧
    (∀ {l : List Nat} {d : Option Nat} {op : AOp} {g : Option (Nat × Bool)} {id : Nat} {pre : List Nat} {vs : List AOper}, ((⟨d, op, g, id, pre⟩ : AOper) :: vs).all (freeOf l) = (!hasNat l id && vs.all (freeOf l))) ∧
    (∀ {n : Nat} {d : Option Nat} {op : AOp} {g : Option (Nat × Bool)} {id : Nat} {pre : List Nat} {vs : List AOper}, ((⟨d, op, g, id, pre⟩ : AOper) :: vs).all (overOf n) = (!hasNat pre n && vs.all (overOf n))) ∧
    (∀ {p : Prop}, (False → p) ↔ True) ∧ (∀ {p : Prop}, (p → True) ↔ True) ∧ (∀ {p : Prop}, (True → p) ↔ p) ∧
    (∀ {os : List AOper}, effsO os = List.filter effOf os) ∧
    (List.filter effOf [] = []) ∧
    (∀ {v : AOper} {vs : List AOper}, List.filter effOf (v :: vs) = if v.isEff = true then v :: List.filter effOf vs else List.filter effOf vs) := by
  refine ⟨okAt_iff, ?_, rfl, rfl, rfl, rfl, ?_, ?_, ?_, rfl, rfl, List.filter_cons⟩
  · intro v H; exact iff_true_intro rfl
  · intro p; exact iff_true_intro (fun h => h.elim)
  · intro p; exact iff_true_intro (fun _ => trivial)
  · intro p; exact ⟨fun h => h trivial, fun h _ => h⟩
end Go.AM
namespace Go.AM
set_option linter.defProp false
def KP := And.intro @K1 (And.intro @K2 (And.intro @K3 @K5))
theorem boolE : (∀ {p : Prop}, (p ∧ p) ↔ p) ∧ (∀ {p : Prop}, (p ∧ True) ↔ p) ∧ (∀ {p : Prop}, (True ∧ p) ↔ p) ∧ (decide True = true) ∧ (decide False = false) ∧ ((!true) = false) ∧ ((!false) = true) ∧ ((false = true) ↔ False) ∧
    (∀ {b : Bool}, (b && b) = b) ∧ (∀ {b : Bool}, (true && b) = b) ∧ (∀ {b : Bool}, (b && true) = b) ∧ (∀ {b : Bool}, (b != false) = b) ∧ (∀ {b : Bool}, (b != true) = !b) ∧
    (∀ {n : Nat}, 0 + n = n) ∧ (∀ {n : Nat}, n + 0 = n) ∧ (∀ {n : Nat}, 1 * n = n) ∧ (∀ {n : Nat}, n * 1 = n) ∧ (∀ {α : Type} {l : List α}, [] ++ l = l) ∧ (∀ {α : Type} {a : α} {l m : List α}, (a :: l) ++ m = a :: (l ++ m)) ∧ (∀ {α β : Type} {f : α → β} {a : α}, Option.map f (some a) = some (f a)) := by
  refine ⟨and_self_iff, Iff.of_eq (and_true _), Iff.of_eq (true_and _), rfl, rfl, rfl, rfl, by simp, ?_, ?_, ?_, ?_, ?_, Nat.zero_add _, Nat.add_zero _, Nat.one_mul _, Nat.mul_one _, rfl, rfl, rfl⟩ <;> intro b <;> cases b <;> rfl
def EP := And.intro @E1 (And.intro @E2 (And.intro @E3 (And.intro @E4 (And.intro @E5 (And.intro @E6 (And.intro @goal_iff @boolE))))))
theorem clsE :
    (∀ {a}, AOp.cls (.move a) = .pure) ∧
    (∀ {a b c}, AOp.cls (.pick a b c) = .pure) ∧
    (∀ {a}, AOp.cls (.alloc a) = .alloc) ∧
    (∀ {a}, AOp.cls (.box a) = .alloc) ∧
    (∀ {a b}, AOp.cls (.build a b) = .pure) ∧
    (∀ {a b c d}, AOp.cls (.mkslice a b c d) = .alloc) ∧
    (∀ {a}, AOp.cls (.load a) = .load) ∧
    (∀ {a b}, AOp.cls (.loadN a b) = .load) ∧
    (∀ {a b c}, AOp.cls (.store a b c) = .eff) ∧
    (∀ {a}, AOp.cls (.nilCheck a) = .pure) ∧
    (∀ {a b c}, AOp.cls (.bin a b c) = .pure) ∧
    (∀ {a b c d e}, AOp.cls (.eqFlat a b c d e) = .pure) ∧
    (∀ {a b c d}, AOp.cls (.eqNil a b c d) = .pure) ∧
    (∀ {a b}, AOp.cls (.un a b) = .pure) ∧
    (∀ {a b}, AOp.cls (.toInt a b) = .pure) ∧
    (∀ {a}, AOp.cls (.strId a) = .pure) ∧
    (∀ {a b c}, AOp.cls (.func a b c) = .pure) ∧
    (AOp.cls (.makeMap) = .alloc) ∧
    (∀ {a b c d e}, AOp.cls (.makeSlice a b c d e) = .alloc) ∧
    (∀ {a b c}, AOp.cls (.sliceStr a b c) = .pure) ∧
    (∀ {a b c d}, AOp.cls (.sliceSl a b c d) = .pure) ∧
    (∀ {a b c d e}, AOp.cls (.sliceArr a b c d e) = .load) ∧
    (∀ {a b}, AOp.cls (.off a b) = .pure) ∧
    (∀ {a b c}, AOp.cls (.idxSl a b c) = .pure) ∧
    (∀ {a b c d}, AOp.cls (.idxArr a b c d) = .pure) ∧
    (∀ {a b}, AOp.cls (.part a b) = .pure) ∧
    (∀ {a b c}, AOp.cls (.partN a b c) = .pure) ∧
    (∀ {a b c d e}, AOp.cls (.at a b c d e) = .pure) ∧
    (∀ {a b}, AOp.cls (.byteAt a b) = .pure) ∧
    (∀ {a b c d e f}, AOp.cls (.lookup a b c d e f) = .load) ∧
    (∀ {a b c d e}, AOp.cls (.update a b c d e) = .eff) ∧
    (∀ {a}, AOp.cls (.rangeStr a) = .eff) ∧
    (∀ {a}, AOp.cls (.nextStr a) = .eff) ∧
    (∀ {a b}, AOp.cls (.extract a b) = .pure) ∧
    (∀ {a b}, AOp.cls (.call a b) = .eff) ∧
    (∀ {a b}, AOp.cls (.len a b) = .pure) ∧
    (∀ {a}, AOp.cls (.lenMap a) = .load) ∧
    (∀ {a b c d}, AOp.cls (.append a b c d) = .eff) ∧
    (∀ {a b c}, AOp.cls (.copy a b c) = .eff) ∧
    (∀ {a b}, AOp.cls (.maxInt a b) = .pure) ∧
    (∀ {a b}, AOp.cls (.minInt a b) = .pure) := by
  refine ⟨rfl, rfl, rfl, rfl, rfl, rfl, rfl, rfl, rfl, rfl, rfl, rfl, rfl, rfl, rfl, rfl, rfl, rfl, rfl, rfl, rfl, rfl, rfl, rfl, rfl, rfl, rfl, rfl, rfl, rfl, rfl, rfl, rfl, rfl, rfl, rfl, rfl, rfl, rfl, rfl, rfl⟩
theorem okE : (∀ {h : HR}, okAll [] h ↔ True) ∧ (∀ {l : LR} {ls : List LR} {h : HR}, okAll (l :: ls) h ↔ okAt l h ∧ okAll ls h) ∧ (∀ {l : LR}, okOne l [] ↔ True) ∧ (∀ {l : LR} {h : HR} {hs : List HR}, okOne l (h :: hs) ↔ okAt l h ∧ okOne l hs) ∧
    (∀ {d : Option Nat} {op : AOp} {g : Option (Nat × Bool)} {id : Nat} {pre : List Nat}, AOper.isEff ⟨d, op, g, id, pre⟩ = decide (op.cls = .eff)) :=
  ⟨Iff.rfl, Iff.rfl, Iff.rfl, Iff.rfl, rfl⟩
theorem effE : ∀ {os : List AOper}, effsO os = os.filter (·.isEff) := rfl
def EK := And.intro @clsE (And.intro @okE (And.intro @EP (And.intro @effE @K6)))
def EN := And.intro @clsE (And.intro @okE (And.intro @EP @K6n))
def AN := And.intro @AH.next_alloc @AH.next_set
theorem GW {H H' : AH} (h : Grew H H' := by repeat (first | (with_reducible exact Grew.refl _) | (with_reducible assumption) | (with_reducible apply Grew.alloc) | (with_reducible refine Grew.set ?_ _ (by first | omega | (simp only [AH.next_alloc, AH.next_set]; omega))) | (with_reducible refine Grew.trans ?_ (by assumption)))) : Grew H H' := h
end Go.AM
