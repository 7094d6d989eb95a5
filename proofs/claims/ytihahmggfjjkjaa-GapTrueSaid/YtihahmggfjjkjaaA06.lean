/- If what was filled is such as any truth makes it nothing is denied -/
import Derived.ProofKit
import Derived.HandedShaped
import Derived.OpenShut
import Derived.Test.YtihahmggfjjkjaaProg
import Derived.KernelRfl
import Derived.Test.YtihahmggfjjkjaaA01
import Derived.Test.YtihahmggfjjkjaaA03
import Derived.Test.YtihahmggfjjkjaaA05
set_option linter.unusedVariables false
set_option linter.unusedSimpArgs false
namespace Go.AM
section
variable {P : Program} {base : Array Obj} {m : CM} {H H' : AH} {w : World} {nt : Nat} {e : Env} {a : Act} {v : AV} {F : Fence} {n : Nat}
theorem stepR_scope {b : Frame} {k : List Item} {cs : List Frame} {c : Code} : step P (lone (b.atR a (.code (.scope c) :: k)) cs w) = .next (lone (b.atR a (.code c :: .inScope c :: k)) cs w) :=
  step_lone_go (by simp [stepG, stepG.exec, Frame.atR])
theorem stepR_inScope {b : Frame} {k : List Item} {cs : List Frame} {c : Code} : step P (lone (b.atR a (.inScope c :: k)) cs w) = .next (lone (b.atR a k) cs w) :=
  step_lone_go (by simp [stepG, stepG.exec, Frame.atR])
theorem wpIn_scope {c : Code} {Q : Exit → Act → World → Prop} (h : c.wpIn F n P (fun e a w => (∀ l, e ≠ .goto l) ∧ Q e a w) a w) : (Code.scope c).wpIn F n P Q a w := by
  intro b k cs hro hb hr
  have h0 : (lone (b.atR a (.code (.scope c) :: k)) cs w).fenced P F := fenced_calm hb hr rfl
  obtain ⟨e, a₁, w₁, ⟨hng, hq⟩, harr⟩ := h b (.inScope c :: k) cs hro hb hr
  cases e with
  | normal => exact ⟨.normal, a₁, w₁, hq, .head h0 stepR_scope (StepsIn.trans harr (.one (fenced_calm hb hr rfl) stepR_inScope))⟩
  | exit id =>
    have hx : exitTo id (.inScope c :: k) = exitTo id k := by simp [exitTo]
    exact ⟨.exit id, a₁, w₁, hq, fun k' hk => .head h0 stepR_scope (harr.1 k' (by rw [hx]; exact hk)), fun hr' hk => let ⟨k₁, h1, h2⟩ := harr.2 hr' (by rw [hx]; exact hk); ⟨k₁, h1, .head h0 stepR_scope h2⟩⟩
  | goto l => exact absurd rfl (hng l)
  | ret => exact ⟨_, a₁, w₁, hq, .of_steps (.one h0 stepR_scope) harr⟩
  | panic ch => exact ⟨_, a₁, w₁, hq, .of_steps (.one h0 stepR_scope) harr⟩
  | outgrown => exact ⟨_, a₁, w₁, hq, .of_steps (b := b) (k := k) (cs := cs) (e := .outgrown) (.one h0 stepR_scope) harr⟩
def ExitR : AExit → Exit → Prop
  | .normal, .normal => True
  | .ret, .ret => True
  | .exit id, .exit id' => id = id'
  | _, _ => False
def markOf (r : Nat) : Deferred := { target := .collected r, args := #[] }
def MarksR (N : Nat) (m : CM) (w : World) (rs : List Nat) : Prop := rs.Nodup ∧ ∀ r ∈ rs, N ≤ r ∧ r < w.heap.size ∧ Free m r ∧ w.heap[r]? = some (.deferred (some []))
theorem MarksR.ext {N : Nat} {m' : CM} {w' : World} {rs : List Nat} (h : MarksR N m w rs) (hx : Ext m H w m' H' w') : MarksR N m' w' rs :=
  ⟨h.1, fun r hr => by
    obtain ⟨h1, h2, h3, h4⟩ := h.2 r hr
    obtain ⟨h5, h6⟩ := hx.free r h2 h3
    exact ⟨h1, Nat.lt_of_lt_of_le h2 hx.heap, h5, h6.trans h4⟩⟩
structure Left (P : Program) (base : Array Obj) (m : CM) (H : AH) (w : World) (nt : Nat) (ds : List Deferred) (x : AExit) (e' : Env) (H' : AH) (ex : Exit) (a' : Act) (w' : World) : Prop where
  exit : ExitR x ex
  rest : ∃ m', Rel P base m' H' w' ∧ Ext m H w m' H' w' ∧ EnvR m' e' a'.tmps ∧ a'.tmps.size = nt ∧ ∃ rs, a'.defers = rs.map markOf ++ ds ∧ MarksR w.heap.size m' w' rs
theorem Left.mono {m1 : CM} {H1 : AH} {w1 : World} {ds : List Deferred} {rs : List Nat} {x : AExit} {e' : Env} {ex : Exit} {a' : Act} {w' : World} (hx : Ext m H w m1 H1 w1) (hm : MarksR w.heap.size m1 w1 rs) (h : Left P base m1 H1 w1 nt (rs.map markOf ++ ds) x e' H' ex a' w') : Left P base m H w nt ds x e' H' ex a' w' := by
  obtain ⟨h1, m', h2, h3, h4, h5, rs', h6, h7⟩ := h
  refine ⟨h1, m', h2, hx.trans h3, h4, h5, rs' ++ rs, by rw [h6]; simp, ?_, fun r hr => ?_⟩
  · rw [List.nodup_append]
    refine ⟨h7.1, hm.1, fun r1 hr1 r2 hr2 he => ?_⟩
    have := (h7.2 r1 hr1).1
    have := (hm.2 r2 hr2).2.1
    omega
  · rw [List.mem_append] at hr
    rcases hr with hr | hr
    · obtain ⟨q1, q2⟩ := h7.2 r hr
      exact ⟨Nat.le_trans hx.heap q1, q2⟩
    · exact (hm.ext h3).2 r hr
theorem Left.here {ds : List Deferred} {x : AExit} {ex : Exit} {a' : Act} {w' : World} {m' : CM} {e' : Env} (hx : ExitR x ex) (hr : Rel P base m' H' w') (hxt : Ext m H w m' H' w') (he : EnvR m' e' a'.tmps) (hs : a'.tmps.size = nt) (hd : a'.defers = ds) : Left P base m H w nt ds x e' H' ex a' w' :=
  ⟨hx, m', hr, hxt, he, hs, [], by simpa using hd, List.nodup_nil, fun r hr => by simp at hr⟩
def RoundOk (F : Fence) (m : CM) (H : AH) : Prop := ∀ l, F.round = some l → ∃ b n, b < H.next ∧ m b = some (l, 0, n) ∧ ∃ L, H.get b = some (.loop L)
theorem RoundOk.ext {m' : CM} {w' : World} (h : RoundOk F m H) (hx : Ext m H w m' H' w') : RoundOk F m' H' := fun l hl => by
  obtain ⟨b, k, h0, h1, h2⟩ := h l hl
  exact ⟨b, k, Nat.lt_of_lt_of_le h0 hx.next, hx.le _ _ h1, hx.loops b h2 h0⟩
def SimCode (P : Program) (F : Fence) (n nt : Nat) (g : Code) (run : Env → AH → CRes) : Prop :=
  ∀ (base : Array Obj) (m : CM) (H : AH) (w : World) (e : Env) (a : Act) (x : AExit) (e' : Env) (H' : AH), run e H = some (x, e', H') → Rel P base m H w → EnvR m e a.tmps → RoundOk F m H → a.tmps.size = nt →
    g.wpIn F n P (Left P base m H w nt a.defers x e' H') a w
theorem Left.normal {ds : List Deferred} {e' : Env} {ex : Exit} {a' : Act} {w' : World} (h : Left P base m H w nt ds .normal e' H' ex a' w') : ex = .normal := by
  obtain ⟨h, _⟩ := h
  cases ex <;> first | rfl | exact h.elim
theorem sim_then {g2 : Code} {r2 : Env → AH → CRes} (h2 : SimCode P F n nt g2 r2) {ds : List Deferred} {x : AExit} {e1 : Env} {H1 : AH} (hro : RoundOk F m H) {Q : Exit → Act → World → Prop}
    (hx : x = .normal → ∀ x2 e2 H2, r2 e1 H1 = some (x2, e2, H2) → ∀ ex a w', Left P base m H w nt ds x2 e2 H2 ex a w' → Q ex a w') (hsome : x = .normal → ∃ r, r2 e1 H1 = some r)
    (hnx : x ≠ .normal → ∀ ex a w', Left P base m H w nt ds x e1 H1 ex a w' → Q ex a w') {ex : Exit} {a1 : Act} {w1 : World} (hl : Left P base m H w nt ds x e1 H1 ex a1 w1) :
    Exit.then (fun a' w' => g2.wpIn F n P Q a' w') Q ex a1 w1 := by
  cases x with
  | normal =>
    obtain rfl := hl.normal
    obtain ⟨⟨x2, e2, H2⟩, hr2⟩ := hsome rfl
    obtain ⟨_, m1, q1, q2, q3, q4, rs, q5, q6⟩ := hl
    have := h2 base m1 H1 w1 e1 a1 x2 e2 H2 hr2 q1 q3 (hro.ext q2) q4
    refine wpIn_mono this fun ex' a' w' hl' => hx rfl x2 e2 H2 hr2 ex' a' w' ?_
    rw [q5] at hl'
    exact hl'.mono q2 q6
  | exit i =>
    have hq := hnx (by simp) ex a1 w1 hl
    obtain ⟨hxr, _⟩ := hl
    cases ex <;> first | exact hq | exact hxr.elim
  | ret =>
    have hq := hnx (by simp) ex a1 w1 hl
    obtain ⟨hxr, _⟩ := hl
    cases ex <;> first | exact hq | exact hxr.elim
theorem sim_loop {g : Code} {r : Env → AH → CRes} (hg : SimCode P F n nt g r) : ∀ (k : Nat), SimCode P F n nt (.loop g) (aloop k r) := by
  intro k base m H w e a x e' H' h hr he hro hnt
  intro b kk cs hb1 hb2 hb3
  have key : ∀ (k : Nat) (m : CM) (H : AH) (w : World) (e : Env) (a : Act), aloop k r e H = some (x, e', H') → Rel P base m H w → EnvR m e a.tmps → RoundOk F m H → a.tmps.size = nt →
      ∃ ex a' w', Left P base m H w nt a.defers x e' H' ex a' w' ∧ ArrivesIn (Machine.fenced P F) P (lone (b.atR a (.code g :: .inLoop g :: kk)) cs w) b kk cs ex a' w' := by
    intro k
    induction k with
    | zero => intro m H w e a h; simp [aloop] at h
    | succ k ih =>
      intro m H w e a h hr he hro hnt
      simp only [aloop] at h
      cases hre : r e H with
      | none => simp [hre] at h
      | some res =>
        obtain ⟨x1, e1, H1⟩ := res
        obtain ⟨ex, a1, w1, hl, harr⟩ := hg base m H w e a x1 e1 H1 hre hr he hro hnt b (.inLoop g :: kk) cs hb1 hb2 hb3
        cases x1 with
        | normal =>
          simp only [hre] at h
          obtain rfl := hl.normal
          obtain ⟨_, m1, q1, q2, q3, q4, rs, q5, q6⟩ := hl
          obtain ⟨ex2, a2, w2, hl2, harr2⟩ := ih m1 H1 w1 e1 a1 h q1 q3 (hro.ext q2) q4
          rw [q5] at hl2
          exact ⟨ex2, a2, w2, hl2.mono q2 q6, .of_steps (StepsIn.trans harr (.one (fenced_calm hb2 hb3 rfl) stepR_inLoop)) harr2⟩
        | exit i =>
          simp only [hre, Option.some.injEq, Prod.mk.injEq] at h
          obtain ⟨rfl, rfl, rfl⟩ := h
          obtain ⟨hxr, hrest⟩ := hl
          cases ex <;> first | exact hxr.elim | exact ⟨_, a1, w1, ⟨hxr, hrest⟩, .pass (x := .inLoop g) rfl (fun _ _ => .inl (by simp)) harr⟩
        | ret =>
          simp only [hre, Option.some.injEq, Prod.mk.injEq] at h
          obtain ⟨rfl, rfl, rfl⟩ := h
          obtain ⟨hxr, hrest⟩ := hl
          cases ex <;> first | exact hxr.elim | exact ⟨_, a1, w1, ⟨hxr, hrest⟩, .pass (x := .inLoop g) rfl (fun _ _ => .inl (by simp)) harr⟩
  obtain ⟨ex, a', w', hl, harr⟩ := key k m H w e a h hr he hro hnt
  exact ⟨ex, a', w', hl, .of_steps (.one (fenced_calm hb2 hb3 rfl) stepR_loop) harr⟩
theorem Rel.allocFree (h : Rel P base m H w) (o : Obj) : Rel P base m H (w.alloc o) ∧ Ext m H w m H (w.alloc o) := by
  refine ⟨⟨fun c hc => ?_, ?_, h.top, fun b c o' n hb => ?_, h.inj⟩, ⟨leR m, Nat.le_refl _, by simp, fun c hc hf => ⟨hf, alloc_get_ne _ _ (by omega)⟩, fun _ _ h => ⟨h, rfl⟩, fun _ h _ => h, rfl, rfl⟩⟩
  · rw [alloc_get_ne _ _ (by have := h.size; omega), h.old c hc]
  · have := h.size; simp; omega
  · obtain ⟨h1, h2⟩ := h.blk b c o' n hb
    exact ⟨by simp; omega, h2.mono (leR m) (alloc_get_ne _ _ (by omega))⟩
theorem Rel.putFree (h : Rel P base m H w) {r : Nat} (o : Obj) (hf : Free m r) (hN : base.size ≤ r) : Rel P base m H (w.putObj r o) := by
  refine ⟨fun c hc => ?_, by simpa using h.size, h.top, fun b c o' n hb => ?_, h.inj⟩
  · rw [World.putObj_heap_other (by omega), h.old c hc]
  · obtain ⟨h1, h2⟩ := h.blk b c o' n hb
    exact ⟨by simpa using h1, h2.mono (leR m) (World.putObj_heap_other (fun e => by subst e; exact hf b o' n hb))⟩
theorem run_enterLoop_inner {l : Nat} {r : Loop} (h : w.heap[l]? = some (.loop r)) (fn : FuncId) (tmps : Array Value) (ps : Array Tmp) (assign body : Code) :
    (Instr.enterLoop fn tmps ps assign body (some l)).run P w = .ok (w.heap.size, []) (w.alloc (.loop { state := .ready, pending := none, fn, tmps, params := ps, assign, body, defers := r.defers })) := by
  unfold Instr.enterLoop
  simp only [Sem.run_bind, run_getLoop h, Result.andThen_ok, Sem.run_pure, run_newObj, World.alloc_eq]
theorem sim_range {call : ACall} (hS : SimCall P call) {k : Nat} {g : Operand} {ps : Array Tmp} {ga gb : Code} {f : AOpd} {ca cb : ACode} {kp : List Nat} (hF : WideF F) (hg : cOpd nt g = some f) (ha : cCode P nt kp ga = some ca) (hb : cCode P nt kp gb = some cb) (hps : ps.all (· < nt) = true) :
    SimCode P F n nt (.rangeFunc g ps ga gb) (code call k (.range f ps.toList ca cb)) := by
  intro base m H w e a x e' H' h hr he hro hnt
  simp only [code] at h
  split at h
  · rename_i fg first captured hfv
    split at h
    · rename_i v2 H2 hcall
      split at h
      · rename_i L hL
        split at h
        · simp at h
        · rename_i hnb
          simp only [Option.some.injEq, Prod.mk.injEq] at h
          obtain ⟨rfl, rfl, rfl⟩ := h
          have hgv := opd_vr he hg hfv
          refine wpIn_rangeFunc fun fn _ => ?_
          have lay : ∀ (w0 : World) (rs : List Nat) (dfr : Nat), Rel P base m H w0 → Ext m H w m H w0 → MarksR w.heap.size m w0 rs →
              (Instr.enterLoop fn a.tmps ps ga gb F.round).run P w = .ok (w0.heap.size, rs.map markOf) (w0.alloc (.loop { state := .ready, pending := none, fn, tmps := a.tmps, params := ps, assign := ga, body := gb, defers := dfr })) →
              ∃ (l : Nat) (mark : List Deferred) (w₁ : World) (d : Deferred) (w₁' : World) (f : FuncId) (args : Array Value) (w₂ : World),
                (Instr.enterLoop fn a.tmps ps ga gb F.round).run P w = .ok (l, mark) w₁ ∧ (resolve a.eval (rangeCall g l) 0).run P w₁ = .ok d w₁' ∧ (∀ f', Target.leads P w₁' d.target d.args = some f' → F.fn f') ∧
                (invoke d.target d.args).run P w₁' = .ok (.enter f args) w₂ ∧ (F.depth.isSome = true → 1 ≤ n) ∧
                CallsIn F (n - 1) P f args w₂ (rangePost F n P l (Left P base m H w nt a.defers L.pending e (H2.set H.next (.loop { L with state := .over }))) { a with defers := mark ++ a.defers }) := by
            intro w0 rs dfr hr0 hx0 hmk henter
            have hlo : ∀ m', CM.le m m' → ObjR P base.size m' (some (.loop { state := .ready, pending := .normal, env := e, params := ps.toList, assign := ca, body := cb })) w0.heap.size 0 0 (w0.heap.push (.loop { state := .ready, pending := none, fn, tmps := a.tmps, params := ps, assign := ga, body := gb, defers := dfr })) := fun m' hm' => by
              refine ⟨hr0.size, rfl, { state := .ready, pending := none, fn, tmps := a.tmps, params := ps, assign := ga, body := gb, defers := dfr }, by simp, ⟨trivial, trivial, he.mono hm', rfl, fun t ht => ?_, ⟨kp, ?_⟩, ⟨kp, ?_⟩⟩⟩
              · have hlt : t < nt := by simpa using Array.all_eq_true_iff_forall_mem.1 hps t (by simpa using ht)
                show t < a.tmps.size
                rw [hnt]; exact hlt
              · show cCode P a.tmps.size kp ga = some ca
                rw [hnt]; exact ha
              · show cCode P a.tmps.size kp gb = some cb
                rw [hnt]; exact hb
            obtain ⟨r1, x1⟩ := hr0.alloc hlo
            have hty : VR (CM.add m H.next (w0.heap.size, 0, 0)) (.yield H.next) (.func (.yield w0.heap.size) #[] #[]) := .yield (CM.add_same _ _ _)
            have hcv := hS base _ _ _ _ _ _ [.func (.yield w0.heap.size) #[] #[]] v2 H2 F.plain (n - 1) hF.plain rfl hcall r1 (hgv.mono (leT hx0.le x1.le)) (.cons hty .nil)
            have hgf : ∃ us vs, a.eval g = .func (.func fg) us vs := by
              cases hq : a.eval g <;> rw [hq] at hgv <;> cases hgv
              exact ⟨_, _, rfl⟩
            obtain ⟨us, vs, hgf⟩ := hgf
            rw [hgf] at hcv
            obtain ⟨⟨fn2, f1, f2, f3⟩, hcalls⟩ := hcv
            have hbn : fn2.body.isNone = false := by
              cases hbd : fn2.body with
              | none => rw [hbd] at f2; simp at f2
              | some _ => rfl
            have hev : a.eval (Operand.const (.func (.yield w0.heap.size) #[] #[])) = .func (.yield w0.heap.size) #[] #[] := rfl
            refine ⟨w0.heap.size, rs.map markOf, w0.alloc (.loop { state := .ready, pending := none, fn, tmps := a.tmps, params := ps, assign := ga, body := gb, defers := dfr }), { target := .fn (.func fg) vs, args := us ++ #[.func (.yield w0.heap.size) #[] #[]] }, w0.alloc (.loop { state := .ready, pending := none, fn, tmps := a.tmps, params := ps, assign := ga, body := gb, defers := dfr }), fg, us ++ #[.func (.yield w0.heap.size) #[] #[]] ++ vs, w0.alloc (.loop { state := .ready, pending := none, fn, tmps := a.tmps, params := ps, assign := ga, body := gb, defers := dfr }), henter, ?_, fun g' _ => hF.fn g', ?_, fun hd => by rw [hF.depth] at hd; simp at hd, ?_⟩
            · simp only [resolve, rangeCall, List.map_toArray, List.map_cons, List.map_nil, hev, hgf, Deferred.ofValue, Sem.run_pure]
            · simp only [invoke, callFunc, Sem.run_bind, run_program, Result.andThen_ok, f1, f3, hbn, Bool.false_eq_true, if_false, Sem.run_pure]
            · refine CallsIn.mono hcalls ?_
              rintro e3 w3 ⟨u3, m3, rfl, hv3, hr3, hx3⟩
              have hm3 : m3 H.next = some (w0.heap.size, 0, 0) := hx3.le _ _ (CM.add_same _ _ _)
              obtain ⟨hc3, ho3⟩ := hr3.blk _ _ _ _ hm3
              rw [hL] at ho3
              obtain ⟨hN, _, L', hL', hLR⟩ := ho3
              have hstate : L'.state ≠ .busy := fun hq => by
                have := hLR.state
                rw [hq] at this
                cases hls : L.state <;> rw [hls] at this <;> first | exact this.elim | exact hnb hls
              obtain ⟨r4, x4⟩ := hr3.turn (w' := w3.putObj w0.heap.size (.loop { L' with state := .exhausted })) hm3 ⟨_, hL, rfl⟩ hN (fun k hk => World.putObj_heap_other hk) (by simp) (oA := .loop { L with state := .over })
                ⟨hN, rfl, { L' with state := .exhausted }, World.putObj_heap_same hc3, ⟨trivial, hLR.pending, hLR.env, hLR.params, hLR.below, hLR.assign, hLR.body⟩⟩ (fun _ _ => ⟨_, rfl⟩)
              have hxall : Ext m H w m3 (H2.set H.next (.loop { L with state := .over })) (w3.putObj w0.heap.size (.loop { L' with state := .exhausted })) := ((hx0.trans x1).trans hx3).trans x4
              have hmk4 : MarksR w.heap.size m3 (w3.putObj w0.heap.size (.loop { L' with state := .exhausted })) rs := hmk.ext ((x1.trans hx3).trans x4)
              have hleft : ∀ ex, ExitR L.pending ex → Left P base m H w nt a.defers L.pending e (H2.set H.next (.loop { L with state := .over })) ex { a with defers := rs.map markOf ++ a.defers } (w3.putObj w0.heap.size (.loop { L' with state := .exhausted })) := fun ex hex =>
                ⟨hex, m3, r4, hxall, he.mono hxall.le, hnt, rs, rfl, hmk4⟩
              refine ⟨L'.pending, _, run_endLoop hL' hstate, ?_⟩
              have hpd := hLR.pending
              clear r4 x4 hxall hmk4
              generalize w3.putObj w0.heap.size (.loop { L' with state := .exhausted }) = W4 at hleft ⊢
              generalize H2.set H.next (.loop { L with state := .over }) = H4 at hleft ⊢
              generalize L'.pending = pd' at hpd ⊢
              generalize L.pending = pd at hpd hleft ⊢
              cases pd with
              | normal =>
                cases pd' with
                | none => exact hleft .normal trivial
                | some c => exact hpd.elim
              | ret =>
                cases pd' with
                | none => exact hpd.elim
                | some c => cases c <;> first | exact hpd.elim | exact wpIn_ret (hleft .ret trivial)
              | exit i =>
                cases pd' with
                | none => exact hpd.elim
                | some c => cases c <;> first | exact hpd.elim | exact wpIn_exit (hleft (.exit _) hpd)
          cases hrd : F.round with
          | none =>
            obtain ⟨r0, x0⟩ := hr.allocFree (.deferred (some []))
            have := lay (w.alloc (.deferred (some []))) [w.heap.size] w.heap.size r0 x0 ⟨by simp, fun r hrr => by
              simp only [List.mem_singleton] at hrr
              subst hrr
              refine ⟨Nat.le_refl _, by simp, fun b o' n' hb' => ?_, World.alloc_heap_new _ _⟩
              have := (hr.blk _ _ _ _ hb').1
              omega⟩ (by rw [hrd]; simpa [markOf] using run_enterLoop_outer (P := P) (w := w) fn a.tmps ps ga gb)
            rw [hrd] at this
            exact this
          | some l0 =>
            obtain ⟨b0, n0, _, hb0, L0, hL0⟩ := hro l0 hrd
            obtain ⟨_, ho0⟩ := hr.blk _ _ _ _ hb0
            rw [hL0] at ho0
            obtain ⟨_, _, L0', hL0', _⟩ := ho0
            have := lay w [] L0'.defers hr (Ext.refl _ _ _) ⟨List.nodup_nil, fun r hrr => by simp at hrr⟩ (by rw [hrd]; exact run_enterLoop_inner hL0' fn a.tmps ps ga gb)
            rw [hrd] at this
            exact this
      · simp at h
    · simp at h
  · simp at h
theorem sim_code {call : ACall} (hS : SimCall P call) (hmix : P.follows .mixedOrders = true) (k : Nat) (kp : List Nat) (nt : Nat) : ∀ (g : Code) (c : ACode), cCode P nt kp g = some c → ∀ (F : Fence) (n : Nat), WideF F → SimCode P F n nt g (code call k c)
  | .skip, c, hc, F, n, hF => by
    simp only [cCode, Option.some.injEq] at hc; subst hc
    intro base m H w e a x e' H' h hr he hro hnt
    simp only [code, Option.some.injEq, Prod.mk.injEq] at h
    obtain ⟨rfl, rfl, rfl⟩ := h
    exact wpIn_skip (Left.here trivial hr (Ext.refl _ _ _) he hnt rfl)
  | .label l, c, hc, F, n, hF => by
    simp only [cCode, Option.some.injEq] at hc; subst hc
    intro base m H w e a x e' H' h hr he hro hnt
    simp only [code, Option.some.injEq, Prod.mk.injEq] at h
    obtain ⟨rfl, rfl, rfl⟩ := h
    exact wpIn_label (Left.here trivial hr (Ext.refl _ _ _) he hnt rfl)
  | .region id ops false, c, hc, F, n, hF => by
    simp only [cCode, Option.map_eq_some_iff] at hc
    obtain ⟨os, hos, rfl⟩ := hc
    intro base m H w e a x e' H' h hr he hro hnt
    simp only [code] at h
    split at h
    · rename_i e1 H1 hops
      simp only [Option.some.injEq, Prod.mk.injEq] at h
      obtain ⟨rfl, rfl, rfl⟩ := h
      refine wpIn_region ?_
      rw [List.range_eq_range']
      have := sim_ops (n := n) hS hF (Q := Left P base m H w nt a.defers .normal (e1.keep kp) H1) os 0 e H m a w e1 H1 (by rw [hnt]; simpa using hos) hops hr he (fun m' a' w' q1 q2 q3 q4 q5 => Left.here trivial q1 q2 (q3.keep kp) (by rw [q4, hnt]) q5)
      simpa using this
    · simp at h
  | .region id ops true, c, hc, F, n, hF => by
    simp only [cCode] at hc
    split at hc
    · rename_i os hos
      split at hc
      · rename_i hok
        simp only [Option.some.injEq] at hc; subst hc
        intro base m H w e a x e' H' h hr he hro hnt
        simp only [code] at h
        split at h
        · rename_i e1 H1 hops
          simp only [Option.some.injEq, Prod.mk.injEq] at h
          obtain ⟨rfl, rfl, rfl⟩ := h
          exact sim_draw hS hF hmix hok (by rw [hnt]; exact cDraw_mem hos) hops hr he (fun m' a' w' q1 q2 q3 q4 q5 => Left.here trivial q1 q2 (q3.keep kp) (by rw [q4, hnt]) q5)
        · simp at h
      · simp at hc
    · simp at hc
  | .seq g1 g2, c, hc, F, n, hF => by
    simp only [cCode] at hc
    split at hc
    · rename_i c1 c2 h1 h2
      simp only [Option.some.injEq] at hc; subst hc
      intro base m H w e a x e' H' h hr he hro hnt
      simp only [code] at h
      have s1 := sim_code hS hmix k kp nt g1 c1 h1 F n hF
      have s2 := sim_code hS hmix k kp nt g2 c2 h2 F n hF
      refine wpIn_seq ?_
      cases hr1 : code call k c1 e H with
      | none => simp [hr1] at h
      | some r1 =>
        obtain ⟨x1, e1, H1⟩ := r1
        refine wpIn_mono (s1 base m H w e a x1 e1 H1 hr1 hr he hro hnt) fun ex a1 w1 hl => ?_
        refine sim_then s2 hro ?_ ?_ ?_ hl
        · intro hx x2 e2 H2 hr2 ex' a' w' hl'
          subst hx
          simp only [hr1] at h
          rw [hr2] at h
          simp only [Option.some.injEq, Prod.mk.injEq] at h
          obtain ⟨rfl, rfl, rfl⟩ := h
          exact hl'
        · intro hx
          subst hx
          simp only [hr1] at h
          exact ⟨_, h⟩
        · intro hx ex' a' w' hl'
          cases x1 with
          | normal => exact absurd rfl hx
          | exit i =>
            simp only [hr1, Option.some.injEq, Prod.mk.injEq] at h
            obtain ⟨rfl, rfl, rfl⟩ := h
            exact hl'
          | ret =>
            simp only [hr1, Option.some.injEq, Prod.mk.injEq] at h
            obtain ⟨rfl, rfl, rfl⟩ := h
            exact hl'
    · simp at hc
  | .cond o g1 g2, c, hc, F, n, hF => by
    simp only [cCode] at hc
    split at hc
    · rename_i p c1 c2 hp h1 h2
      simp only [Option.some.injEq] at hc; subst hc
      intro base m H w e a x e' H' h hr he hro hnt
      simp only [code] at h
      split at h
      · rename_i t ht
        have hv := opd_vr he hp ht
        have hval : a.eval o = .bool t := by
          cases hq : a.eval o <;> rw [hq] at hv <;> cases hv
          rfl
        refine wpIn_cond hval ?_
        cases t with
        | true => exact sim_code hS hmix k kp nt g1 c1 h1 F n hF base m H w e a x e' H' (by simpa using h) hr he hro hnt
        | false => exact sim_code hS hmix k kp nt g2 c2 h2 F n hF base m H w e a x e' H' (by simpa using h) hr he hro hnt
      · simp at h
    · simp at hc
  | .block id g1, c, hc, F, n, hF => by
    simp only [cCode, Option.map_eq_some_iff] at hc
    obtain ⟨c1, h1, rfl⟩ := hc
    intro base m H w e a x e' H' h hr he hro hnt
    simp only [code] at h
    refine wpIn_block ?_
    cases hr1 : code call k c1 e H with
    | none => simp [hr1] at h
    | some r1 =>
      obtain ⟨x1, e1, H1⟩ := r1
      refine wpIn_mono (sim_code hS hmix k kp nt g1 c1 h1 F n hF base m H w e a x1 e1 H1 hr1 hr he hro hnt) fun ex a1 w1 hl => ?_
      obtain ⟨hxr, hrest⟩ := hl
      cases x1 with
      | normal =>
        simp only [hr1, Option.some.injEq, Prod.mk.injEq] at h
        obtain ⟨rfl, rfl, rfl⟩ := h
        cases ex <;> first | exact hxr.elim | exact ⟨hxr, hrest⟩
      | ret =>
        simp only [hr1, Option.some.injEq, Prod.mk.injEq] at h
        obtain ⟨rfl, rfl, rfl⟩ := h
        cases ex <;> first | exact hxr.elim | exact ⟨hxr, hrest⟩
      | exit i =>
        simp only [hr1] at h
        cases ex <;> try exact hxr.elim
        rename_i j
        obtain rfl : i = j := hxr
        simp only [Exit.inBlock]
        split at h
        · rename_i hid
          simp only [Option.some.injEq, Prod.mk.injEq] at h
          obtain ⟨rfl, rfl, rfl⟩ := h
          rw [if_pos hid]
          exact ⟨trivial, hrest⟩
        · rename_i hid
          simp only [Option.some.injEq, Prod.mk.injEq] at h
          obtain ⟨rfl, rfl, rfl⟩ := h
          rw [if_neg hid]
          exact ⟨rfl, hrest⟩
  | .loop g1, c, hc, F, n, hF => by
    simp only [cCode, Option.map_eq_some_iff] at hc
    obtain ⟨c1, h1, rfl⟩ := hc
    exact sim_loop (sim_code hS hmix k kp nt g1 c1 h1 F n hF) k
  | .scope g1, c, hc, F, n, hF => by
    simp only [cCode] at hc
    intro base m H w e a x e' H' h hr he hro hnt
    refine wpIn_scope (wpIn_mono (sim_code hS hmix k kp nt g1 c hc F n hF base m H w e a x e' H' h hr he hro hnt) fun ex a' w' hl => ⟨fun l hl' => ?_, hl⟩)
    subst hl'
    obtain ⟨hxr, _⟩ := hl
    cases x <;> exact hxr
  | .rangeFunc g ps ga gb, c, hc, F, n, hF => by
    simp only [cCode] at hc
    split at hc
    · rename_i f ca cb hg ha hb
      split at hc
      · rename_i hps
        simp only [Option.some.injEq] at hc; subst hc
        exact sim_range hS hF hg ha hb hps
      · simp at hc
    · simp at hc
  | .exit id, c, hc, F, n, hF => by
    simp only [cCode, Option.some.injEq] at hc; subst hc
    intro base m H w e a x e' H' h hr he hro hnt
    simp only [code, Option.some.injEq, Prod.mk.injEq] at h
    obtain ⟨rfl, rfl, rfl⟩ := h
    exact wpIn_exit (Left.here rfl hr (Ext.refl _ _ _) he hnt rfl)
  | .ret, c, hc, F, n, hF => by
    simp only [cCode, Option.some.injEq] at hc; subst hc
    intro base m H w e a x e' H' h hr he hro hnt
    simp only [code, Option.some.injEq, Prod.mk.injEq] at h
    obtain ⟨rfl, rfl, rfl⟩ := h
    exact wpIn_ret (Left.here trivial hr (Ext.refl _ _ _) he hnt rfl)
  | .goto l, c, hc, F, n, hF => by simp [cCode] at hc
  | .refuse s, c, hc, F, n, hF => by simp [cCode] at hc
end
end Go.AM
namespace Go.AM
section
variable {P : Program} {base : Array Obj} {m : CM} {H H' : AH} {w : World} {nt : Nat} {e : Env} {a : Act} {v : AV} {F : Fence} {n : Nat}
theorem envFrom_get : ∀ (i : Nat) (vs : List AV) (k : Nat), (envFrom i vs).get k = if i ≤ k then vs[k - i]? else none
  | i, [], k => by simp [envFrom, Env.get]
  | i, v :: vs, k => by
    simp only [envFrom, Env.get, envFrom_get (i + 1) vs k]
    by_cases h : i = k
    · subst h; simp
    · rw [if_neg h]
      by_cases h2 : i ≤ k
      · rw [if_pos (by omega), if_pos h2, show k - i = (k - (i + 1)) + 1 from by omega, List.getElem?_cons_succ]
      · rw [if_neg (by omega), if_neg h2]
theorem env_enter {vs : List AV} {us : List Value} (h : VRs m vs us) : EnvR m (envFrom 0 vs) (us.toArray ++ Array.replicate (nt - us.toArray.size) undef) := fun t v hv => by
  rw [envFrom_get, if_pos (Nat.zero_le _), Nat.sub_zero] at hv
  obtain ⟨u, h1, h2⟩ := VRs.get h t v hv
  have hlt : t < us.length := by
    rcases Nat.lt_or_ge t us.length with h | h
    · exact h
    · rw [List.getElem?_eq_none h] at h1; simp at h1
  refine ⟨by simp; omega, ?_⟩
  have : (us.toArray ++ Array.replicate (nt - us.toArray.size) undef).getD t undef = u := by
    have h3 : (us.toArray ++ Array.replicate (nt - us.toArray.size) undef)[t]? = some u := by
      rw [Array.getElem?_append_left (by simpa using hlt)]; simpa using h1
    rw [Array.getD_eq_getD_getElem?, h3]; rfl
  rw [this]; exact h2
theorem bindAll_env : ∀ (ts : List Nat) (vs : List AV) (us : List Value) (e : Env) (tmps : Array Value), VRs m vs us → EnvR m e tmps → (∀ t ∈ ts, t < tmps.size) → vs.length = ts.length →
    EnvR m (bindAll e ts vs) ((ts.zip us).foldl (fun tmps (p : Nat × Value) => tmps.setIfInBounds p.1 p.2) tmps) ∧ ((ts.zip us).foldl (fun tmps (p : Nat × Value) => tmps.setIfInBounds p.1 p.2) tmps).size = tmps.size
  | [], vs, us, e, tmps, hv, he, hb, hl => by
    cases vs with
    | nil => exact ⟨he, rfl⟩
    | cons => simp at hl
  | t :: ts, vs, us, e, tmps, hv, he, hb, hl => by
    cases hv with
    | nil => simp at hl
    | cons h1 h2 =>
      simp only [bindAll, List.zip_cons_cons, List.foldl_cons]
      obtain ⟨q1, q2⟩ := bindAll_env ts _ _ _ _ h2 (he.put (hb t (by simp)) h1) (fun t' ht' => by simpa using hb t' (by simp [ht'])) (by simpa using hl)
      exact ⟨q1, by rw [q2]; simp⟩
theorem results_list (hr : Rel P base m H w) (he : EnvR m e a.tmps) : ∀ (rs : List ResultVar) (ars : List ARes) (vs : List AV), cRes P a.tmps.size rs = some ars → resVals e H ars = some vs →
    ∃ us, VRs m vs us ∧ (rs.mapM fun r => (match r with
      | .tmp t => pure (a.tmps.getD t undef)
      | .cell b t => do loadVar t (← asAddr (a.tmps.getD b undef)) : Sem Value)).run P w = .ok us w
  | [], ars, vs, hc, h => by
    simp only [cRes, Option.some.injEq] at hc; subst hc
    simp only [resVals, Option.some.injEq] at h; subst h
    exact ⟨[], .nil, by simp⟩
  | .tmp t :: rs, ars, vs, hc, h => by
    simp only [cRes] at hc
    split at hc
    · simp only [Option.map_eq_some_iff] at hc
      obtain ⟨ars', hc', rfl⟩ := hc
      simp only [resVals] at h
      split at h
      · rename_i v hv
        split at h
        · rename_i vs' hvs
          simp only [Option.some.injEq] at h; subst h
          obtain ⟨us, h1, h2⟩ := results_list hr he rs ars' vs' hc' hvs
          refine ⟨_, .cons (he t v hv).2 h1, ?_⟩
          rw [List.mapM_cons]
          simp only [Sem.run_bind, Sem.run_pure, Result.andThen_ok, h2]
        · simp at h
      · simp at h
    · simp at hc
  | .cell b t :: rs, ars, vs, hc, h => by
    simp only [cRes] at hc
    split at hc
    · split at hc
      · rename_i k hg hk
        simp only [Option.map_eq_some_iff] at hc
        obtain ⟨ars', hc', rfl⟩ := hc
        simp only [resVals] at h
        split at h
        · rename_i v hv
          split at h
          · rename_i vs' hvs
            simp only [Option.some.injEq] at h; subst h
            obtain ⟨us, h1, h2⟩ := results_list hr he rs ars' vs' hc' hvs
            split at hv
            · rename_i bb ii hgb
              split at hv
              · rename_i cs hread
                simp only [Option.some.injEq] at hv; subst hv
                obtain ⟨_, hpv⟩ := he b _ hgb
                cases hq : a.tmps.getD b undef <;> rw [hq] at hpv <;> cases hpv
                rename_i c o k' hmb
                obtain ⟨ls, h3, h4⟩ := hr.loadCells hmb hread
                refine ⟨_, .cons (.agg h3) h1, ?_⟩
                have hone : (do loadVar t (← asAddr (a.tmps.getD b undef)) : Sem Value).run P w = .ok (.agg ⟨ls⟩) w := by
                  simp only [Sem.run_bind, hq, asAddr, Sem.run_pure, Result.andThen_ok, loadVar, run_isAgg' hg, if_true, run_sizeOf' hk, h4]
                rw [List.mapM_cons, Sem.run_bind]
                erw [hone]
                simp only [Result.andThen_ok, Sem.run_bind, h2, Sem.run_pure]
              · simp at hv
            · simp at hv
          · simp at h
        · simp at h
      · rename_i hg _
        simp only [Option.map_eq_some_iff] at hc
        obtain ⟨ars', hc', rfl⟩ := hc
        simp only [resVals] at h
        split at h
        · rename_i v hv
          split at h
          · rename_i vs' hvs
            simp only [Option.some.injEq] at h; subst h
            obtain ⟨us, h1, h2⟩ := results_list hr he rs ars' vs' hc' hvs
            split at hv
            · rename_i bb ii hgb
              unfold AH.read1 at hv
              split at hv
              · rename_i ro cs hgc
                obtain ⟨_, hpv⟩ := he b _ hgb
                cases hq : a.tmps.getD b undef <;> rw [hq] at hpv <;> cases hpv
                rename_i c o k' hmb
                obtain ⟨u', hu1, hu2⟩ := hr.cell hmb hgc hv
                refine ⟨_, .cons hu2 h1, ?_⟩
                have hone : (do loadVar t (← asAddr (a.tmps.getD b undef)) : Sem Value).run P w = .ok u' w := by
                  simp only [Sem.run_bind, hq, asAddr, Sem.run_pure, Result.andThen_ok, loadVar, run_isAgg' ‹aggT P t = some false›, Bool.false_eq_true, if_false, run_load_cell hu1]
                rw [List.mapM_cons, Sem.run_bind]
                erw [hone]
                simp only [Result.andThen_ok, Sem.run_bind, h2, Sem.run_pure]
              · simp at hv
            · simp at hv
          · simp at h
        · simp at h
      · simp at hc
    · simp at hc
theorem results_run (hr : Rel P base m H w) (he : EnvR m e a.tmps) {fn : Func} {ars : List ARes} {vs : List AV} (hc : cRes P a.tmps.size fn.results.toList = some ars) (h : resVals e H ars = some vs) : ∃ u, VR m (oneOf vs) u ∧ (results fn a.tmps).run P w = .ok u w := by
  obtain ⟨us, h1, h2⟩ := results_list hr he _ _ _ hc h
  unfold results
  rw [Array.mapM_eq_mapM_toList]
  cases h1 with
  | nil => exact ⟨.tuple #[], .tuple .nil, by simp only [Sem.run_bind, Sem.run_map]; erw [h2]; rfl⟩
  | cons hv t =>
    cases t with
    | nil => exact ⟨_, hv, by simp only [Sem.run_bind, Sem.run_map]; erw [h2]; rfl⟩
    | cons hv2 t2 => exact ⟨_, .tuple (.cons hv (.cons hv2 t2)), by simp only [Sem.run_bind, Sem.run_map]; erw [h2]; rfl⟩
theorem leaves_marks {fn : Func} {R : Ending → World → Prop} {N : Nat} (hN : base.size ≤ N)
    (hres : ∀ w', Rel P base m H w' → (∀ c, c < N → w'.heap[c]? = w.heap[c]?) → w'.heap.size = w.heap.size → (w'.os = w.os ∧ w'.output = w.output) → ∃ u, (results fn a.tmps).run P w' = .ok u w' ∧ R (.returned u) w') :
    ∀ (rs : List Nat) (w' : World), Rel P base m H w' → (∀ c, c < N → w'.heap[c]? = w.heap[c]?) → w'.heap.size = w.heap.size → (w'.os = w.os ∧ w'.output = w.output) → rs.Nodup → (∀ r ∈ rs, N ≤ r ∧ r < w'.heap.size ∧ Free m r ∧ w'.heap[r]? = some (.deferred (some []))) →
      LeavesInM F n P fn a.tmps R (rs.map markOf) .returning w'
  | [], w', hr, hsame, hsz, hos, _, _ => hres w' hr hsame hsz hos
  | r :: rs, w', hr, hsame, hsz, hos, hnd, hm => by
    obtain ⟨h1, h2, h3, h4⟩ := hm r (by simp)
    refine ⟨by simp, .inl ⟨r, _, rfl, run_takeDeferred h4, ?_⟩⟩
    refine leaves_marks hN hres rs _ (hr.putFree _ h3 (by omega)) (fun c hc => ?_) (by simpa using hsz) hos (List.nodup_cons.1 hnd).2 fun r' hr' => ?_
    · rw [World.putObj_heap_other (by omega)]; exact hsame c hc
    · obtain ⟨q1, q2, q3, q4⟩ := hm r' (by simp [hr'])
      refine ⟨q1, by simpa using q2, q3, ?_⟩
      rw [World.putObj_heap_other (fun e => (List.nodup_cons.1 hnd).1 (by rw [← e]; exact hr'))]; exact q4
structure ProgOk (P : Program) (prog : Nat → Option AFunc) : Prop where
  mixed : P.follows .mixedOrders = true
  funcs : ∀ f af, prog f = some af → ∃ fn, P.funcs[f]? = some fn ∧ cFunc P fn = some af ∧ (fn.name == "runtime.NumGoroutine") = false
theorem cFunc_eq {fn : Func} {af : AFunc} (h : cFunc P fn = some af) : ∃ c, fn.body = some c ∧ af.nt = fn.ntmps ∧ (∃ kp, cCode P fn.ntmps kp c = some af.body) ∧ cRes P fn.ntmps fn.results.toList = some af.res := by
  unfold cFunc at h
  split at h
  · rename_i c hc
    split at h
    · rename_i b r hb hr
      simp only [Option.some.injEq] at h; subst h
      exact ⟨c, hc, rfl, ⟨_, hb⟩, hr⟩
    · simp at h
  · simp at h
theorem sim_acallv {prog : Nat → Option AFunc} (hP : ProgOk P prog) : ∀ k, SimCall P (acallv prog k) := by
  intro k
  induction k with
  | zero => intro base m H w fv uf args us v H' F n hF hro h; simp [acallv] at h
  | succ k ih =>
    intro base m H w fv uf args us v H' F n hF hro h hr hfv hargs
    cases hfv with
    | func f hv1 hv2 =>
      rename_i first captured us1 us2
      simp only [acallv] at h
      split at h
      · rename_i af haf
        split at h
        · rename_i hlen
          obtain ⟨fn, f1, f2, f3⟩ := hP.funcs f af haf
          obtain ⟨c, g1, g2, ⟨kp, g3⟩, g4⟩ := cFunc_eq f2
          refine ⟨⟨fn, f1, by rw [g1]; rfl, f3⟩, ?_⟩
          have hall : VRs m (first ++ args ++ captured) (us1 ++ us ++ us2) := (hv1.append hargs).append hv2
          have hul := VRs.length hall
          have harr : (⟨us1⟩ ++ us.toArray ++ ⟨us2⟩ : Array Value) = (us1 ++ us ++ us2).toArray := by simp
          rw [harr]
          refine callsIn_of_wp_marks f1 g1 (hF.fn f) ?_ hro
          let a0 : Act := { tmps := (us1 ++ us ++ us2).toArray ++ Array.replicate (fn.ntmps - (us1 ++ us ++ us2).toArray.size) undef, defers := [] }
          have hsz : a0.tmps.size = fn.ntmps := by
            show ((us1 ++ us ++ us2).toArray ++ Array.replicate (fn.ntmps - (us1 ++ us ++ us2).toArray.size) undef).size = fn.ntmps
            rw [g2] at hlen
            simp only [Array.size_append, Array.size_replicate, List.size_toArray]
            omega
          have henv : EnvR m (envFrom 0 (first ++ args ++ captured)) a0.tmps := env_enter hall
          have hround : RoundOk F m H := fun l hl => by rw [hro] at hl; simp at hl
          have fin : ∀ x e2 H2, (x = .normal ∨ x = .ret) → code (acallv prog k) k af.body (envFrom 0 (first ++ args ++ captured)) H = some (x, e2, H2) → ∀ vs, resVals e2 H2 af.res = some vs → v = oneOf vs → H' = H2 →
              c.wpIn F n P (bodyPostM F n P fn (After P base m H w v H')) a0 w := by
            intro x e2 H2 hx hrun vs hvs hv hH
            subst hv; subst hH
            refine wpIn_mono (sim_code ih hP.mixed k kp fn.ntmps c af.body g3 F n hF base m H w _ a0 x e2 H' hrun hr henv hround hsz) fun ex a1 w1 hl => ?_
            obtain ⟨hxr, m1, q1, q2, q3, q4, rs, q5, q6⟩ := hl
            have hl' : LeavesInM F n P fn a1.tmps (After P base m H w (oneOf vs) H') a1.defers .returning w1 := by
              have hd : a1.defers = rs.map markOf := by rw [q5]; simp [a0]
              rw [hd]
              refine leaves_marks (m := m1) (H := H') (w := w1) (N := w.heap.size) hr.size (fun w' hr' hsame hsz' hos' => ?_) rs w1 q1 (fun _ _ => rfl) rfl ⟨rfl, rfl⟩ q6.1 q6.2
              obtain ⟨u, hu1, hu2⟩ := results_run (a := a1) hr' q3 (by rw [q4]; exact g4) hvs
              refine ⟨u, hu2, u, m1, rfl, hu1, hr', ?_⟩
              exact ⟨q2.le, q2.next, by rw [hsz']; exact q2.heap, fun cc hcc hfc => ⟨(q2.free cc hcc hfc).1, by rw [hsame cc hcc]; exact (q2.free cc hcc hfc).2⟩, q2.unreal, q2.loops, hos'.1.trans q2.os.1, hos'.2.trans q2.os.2⟩
            rcases hx with rfl | rfl
            · cases ex <;> first | exact hxr.elim | exact hl'
            · cases ex <;> first | exact hxr.elim | exact hl'
          split at h
          · rename_i e2 H2 hrun
            split at h
            · rename_i vs hvs
              simp only [Option.some.injEq, Prod.mk.injEq] at h
              obtain ⟨rfl, rfl⟩ := h
              exact fin .normal e2 H2 (.inl rfl) hrun vs hvs rfl rfl
            · simp at h
          · rename_i e2 H2 hrun
            split at h
            · rename_i vs hvs
              simp only [Option.some.injEq, Prod.mk.injEq] at h
              obtain ⟨rfl, rfl⟩ := h
              exact fin .ret e2 H2 (.inr rfl) hrun vs hvs rfl rfl
            · simp at h
          · simp at h
        · simp at h
      · simp at h
    | yield hml =>
      rename_i l c nn
      simp only [acallv] at h
      split at h
      · rename_i L hL
        split at h
        · rename_i hlen
          obtain ⟨hc0, ho⟩ := hr.blk _ _ _ _ hml
          rw [hL] at ho
          obtain ⟨hN, _, L', hL', hLR⟩ := ho
          have hpl : L'.params.size = L.params.length := by rw [← hLR.params]; simp
          have hul := VRs.length hargs
          refine ⟨rfl, L', hL', by rw [List.size_toArray, hul, hlen, hpl], ?_⟩
          obtain ⟨kpa, hca⟩ := hLR.assign
          obtain ⟨kpb, hcb⟩ := hLR.body
          refine roundIn_of_wpIn (hF.fn _) ?_
          have hlb : l < H.next := by
            rcases Nat.lt_or_ge l H.next with hh | hh
            · exact hh
            · rw [hr.top l hh] at hml; simp at hml
          have hround : RoundOk (F.inRound c) m H := fun l0 hl0 => by
            obtain rfl : c = l0 := by simpa using hl0
            exact ⟨l, nn, hlb, hml, L, hL⟩
          obtain ⟨hbe, hbs⟩ := bindAll_env L.params args us L.env L'.tmps hargs hLR.env hLR.below hlen
          have hfold : (L'.params.zip us.toArray).foldl (fun tmps (x : Nat × Value) => tmps.setIfInBounds x.1 x.2) L'.tmps = (L.params.zip us).foldl (fun tmps (p : Nat × Value) => tmps.setIfInBounds p.1 p.2) L'.tmps := by
            rw [← hLR.params, ← Array.foldl_toList, Array.toList_zip]
          show L'.assign.wpIn (F.inRound c) n P _ { tmps := (L'.params.zip us.toArray).foldl (fun tmps (x : Nat × Value) => tmps.setIfInBounds x.1 x.2) L'.tmps, defers := [] } w
          rw [hfold]
          split at h
          · rename_i e1 H1 hrun1
            refine wpIn_mono (sim_code ih hP.mixed k kpa L'.tmps.size L'.assign L.assign hca (F.inRound c) n (hF.inRound c) base m H w _ _ .normal e1 H1 hrun1 hr hbe hround hbs) fun ex a1 w1 hl => ?_
            obtain rfl := hl.normal
            obtain ⟨_, m1, q1, q2, q3, q4, rs, q5, q6⟩ := hl
            have hml1 := q2.le _ _ hml
            split at h
            · rename_i L1 hL1
              split at h
              · rename_i hready
                obtain ⟨hc1, ho1⟩ := q1.blk _ _ _ _ hml1
                rw [hL1] at ho1
                obtain ⟨_, _, L1', hL1', hLR1⟩ := ho1
                have hst : L1'.state = .ready := by
                  have := hLR1.state
                  rw [hready] at this
                  cases hq : L1'.state <;> rw [hq] at this <;> first | rfl | exact this.elim
                obtain ⟨r2, x2⟩ := q1.turn (w' := w1.putObj c (.loop { L1' with state := .busy })) hml1 ⟨_, hL1, rfl⟩ hN (fun k hk => World.putObj_heap_other hk) (by simp) (oA := .loop { L1 with state := .busy })
                  ⟨hN, rfl, { L1' with state := .busy }, World.putObj_heap_same hc1, ⟨trivial, hLR1.pending, hLR1.env, hLR1.params, hLR1.below, hLR1.assign, hLR1.body⟩⟩ (fun _ _ => ⟨_, rfl⟩)
                refine ⟨_, run_beginRound hL1' hst, ?_⟩
                have hround2 : RoundOk (F.inRound c) m1 (H1.set l (.loop { L1 with state := .busy })) := hround.ext (q2.trans x2)
                have fin : ∀ x e2 H2 (jump : Option Code) (st : LState) (b : Bool), PendR x jump → st = (if jump.isNone then .ready else .done) → b = jump.isNone → (∀ ex, ExitR x ex → ∀ (R : Ending → World → Prop) a w, (∃ v w', (Instr.endRound c jump).run P w = .ok v w' ∧ R (.returned v) w') → roundPost P c R ex a w) →
                    code (acallv prog k) k L.body e1 (H1.set l (.loop { L1 with state := .busy })) = some (x, e2, H2) → ∀ L2, H2.get l = some (.loop L2) → v = .bool b → H' = H2.set l (.loop { L2 with state := st, pending := x }) →
                    L'.body.wpIn (F.inRound c) n P (roundPost P c (After P base m H w v H')) a1 (w1.putObj c (.loop { L1' with state := .busy })) := by
                  intro x e2 H2 jump st b hpend hst2 hb2 hpost hrun2 L2 hL2 hv hH
                  refine wpIn_mono (sim_code ih hP.mixed k kpb L'.tmps.size L'.body L.body hcb (F.inRound c) n (hF.inRound c) base m1 _ _ e1 a1 x e2 H2 hrun2 r2 (q3.mono (leR m1)) hround2 q4) fun ex a2 w2 hl2 => ?_
                  obtain ⟨hxr, m2, p1, p2, p3, p4, rs2, p5, p6⟩ := hl2
                  refine hpost ex hxr _ _ _ ?_
                  have hml2 := p2.le _ _ hml1
                  obtain ⟨hc2, ho2⟩ := p1.blk _ _ _ _ hml2
                  rw [hL2] at ho2
                  obtain ⟨_, _, L2', hL2', hLR2⟩ := ho2
                  obtain ⟨r3, x3⟩ := p1.turn (w' := w2.putObj c (.loop { L2' with state := if jump.isNone then .ready else .done, pending := jump })) hml2 ⟨_, hL2, rfl⟩ hN (fun k hk => World.putObj_heap_other hk) (by simp) (oA := .loop { L2 with state := st, pending := x })
                    ⟨hN, rfl, { L2' with state := if jump.isNone then .ready else .done, pending := jump }, World.putObj_heap_same hc2, ⟨by rw [hst2]; cases jump <;> trivial, hpend, hLR2.env, hLR2.params, hLR2.below, hLR2.assign, hLR2.body⟩⟩ (fun _ _ => ⟨_, rfl⟩)
                  refine ⟨_, _, run_endRound jump hL2', .bool jump.isNone, m2, rfl, ?_, ?_, ?_⟩
                  · rw [hv, hb2]; exact .bool _
                  · rw [hH]; exact r3
                  · rw [hH]; exact ((q2.trans x2).trans p2).trans x3
                split at h
                · rename_i e2 H2 hrun2
                  split at h
                  · rename_i L2 hL2
                    simp only [Option.some.injEq, Prod.mk.injEq] at h
                    obtain ⟨rfl, rfl⟩ := h
                    exact fin .normal e2 H2 none .ready true trivial rfl rfl (fun ex hex R a w hh => by cases ex <;> first | exact hex.elim | exact hh) hrun2 L2 hL2 rfl rfl
                  · simp at h
                · rename_i x e2 H2 hnn hrun2
                  split at h
                  · rename_i L2 hL2
                    simp only [Option.some.injEq, Prod.mk.injEq] at h
                    obtain ⟨rfl, rfl⟩ := h
                    cases x with
                    | normal => exact (hnn rfl).elim
                    | ret => exact fin .ret e2 H2 (some .ret) .done false trivial rfl rfl (fun ex hex R a w hh => by cases ex <;> first | exact hex.elim | exact hh) hrun2 L2 hL2 rfl rfl
                    | exit i => exact fin (.exit i) e2 H2 (some (.exit i)) .done false rfl rfl rfl (fun ex hex R a w hh => by cases ex <;> first | exact hex.elim | (obtain rfl := hex; exact hh)) hrun2 L2 hL2 rfl rfl
                  · simp at h
                · simp at h
              · simp at h
            · simp at h
          · simp at h
        · simp at h
      · simp at h
    | _ => simp [acallv] at h
end
end Go.AM
namespace Go.AM
inductive Sh where
  | bool
  | int (k : IntKind)
  | str
  | slice (sz : Nat) (e : Sh)
  | agg (fs : List Sh)
  deriving Inhabited
inductive Dat where
  | b (x : Bool)
  | i (n : Int)
  | s (x : ByteArray)
  | nil
  | sl (es : List Dat)
  | ag (es : List Dat)
  deriving Inhabited
def shapeFs (P : Program) (f : TypeId → Option Sh) : Nat → List Field → Option (List Sh × Nat)
  | k, [] => some ([], k)
  | k, x :: xs => if x.offset = k then match f x.type, shapeFs P f (k + P.cellsOf x.type) xs with
      | some s, some (l, n) => some (s :: l, n)
      | _, _ => none
    else none
def shapeOf (P : Program) : Nat → TypeId → Option Sh
  | 0, _ => none
  | n + 1, t => match P.underlying t with
    | some .bool => some .bool
    | some (.int k) => some (.int k)
    | some .string => some .str
    | some (.slice e) => if P.cellsOf e = 0 then none else (shapeOf P n e).map (.slice (P.cellsOf e))
    | some (.struct fs) => match shapeFs P (shapeOf P n) 0 fs.toList with
      | some (l, k) => if k = P.cellsOf t then some (.agg l) else none
      | none => none
    | some (.array k e) => if k * P.cellsOf e = P.cellsOf t then (shapeOf P n e).map fun s => .agg (List.replicate k s) else none
    | _ => none
mutual
def Fits : Sh → Dat → Prop
  | .bool, .b _ => True
  | .int k, .i n => k.min ≤ n ∧ n ≤ k.max
  | .str, .s x => x.size ≤ maxLen
  | .slice _ _, .nil => True
  | .slice _ e, .sl ds => ds.length ≤ maxLen ∧ FitsE e ds
  | .agg fs, .ag ds => FitsF fs ds
  | _, _ => False
def FitsE : Sh → List Dat → Prop
  | _, [] => True
  | e, d :: ds => Fits e d ∧ FitsE e ds
def FitsF : List Sh → List Dat → Prop
  | [], [] => True
  | f :: fs, d :: ds => Fits f d ∧ FitsF fs ds
  | _, _ => False
end
mutual
def inj : Sh → Dat → AH → List AV × AH
  | .bool, .b x, H => ([.bool x], H)
  | .int k, .i n, H => ([.int k n], H)
  | .str, .s x, H => ([.str x], H)
  | .slice _ _, .nil, H => ([.nilslice], H)
  | .slice sz e, .sl ds, H => ([.slice (injE e ds H).2.next 0 ds.length sz], (injE e ds H).2.alloc (.cells true (injE e ds H).1))
  | .agg fs, .ag ds, H => injF fs ds H
  | _, _, H => ([], H)
def injE : Sh → List Dat → AH → List AV × AH
  | _, [], H => ([], H)
  | e, d :: ds, H => ((inj e d H).1 ++ (injE e ds (inj e d H).2).1, (injE e ds (inj e d H).2).2)
def injF : List Sh → List Dat → AH → List AV × AH
  | f :: fs, d :: ds, H => ((inj f d H).1 ++ (injF fs ds (inj f d H).2).1, (injF fs ds (inj f d H).2).2)
  | _, _, H => ([], H)
end
def isAgg : Sh → Bool
  | .agg _ => true
  | _ => false
def injV (s : Sh) (d : Dat) (H : AH) : AV × AH :=
  match s with
  | .agg fs => (.agg (inj (.agg fs) d H).1, (inj (.agg fs) d H).2)
  | s => match inj s d H with
    | (v :: _, H') => (v, H')
    | (_, H') => (.tuple [], H')
def injAll : List Sh → List Dat → AH → List AV × AH
  | s :: ss, d :: ds, H => ((injV s d H).1 :: (injAll ss ds (injV s d H).2).1, (injAll ss ds (injV s d H).2).2)
  | _, _, H => ([], H)
section
variable {K : Type} {enc : TypeId × Value → K} {P : Program} {w : World} {m : CM} {H : AH}
theorem Rel.addRO (h : Rel P w.heap m H w) {c o n : Nat} {cs : List AV} (hc : c < w.heap.size) (hob : ∃ arr e fz, w.heap[c]? = some (.cells arr e fz) ∧ CellsR m cs o arr) :
    Rel P w.heap (CM.add m H.next (c, o, n)) (H.alloc (.cells true cs)) w ∧ m.le (CM.add m H.next (c, o, n)) := by
  have hm : m H.next = none := h.top _ (Nat.le_refl _)
  have hle := CM.add_le (x := (c, o, n)) hm
  refine ⟨⟨h.old, h.size, fun b hb => ?_, fun b c' o' n' hb => ?_, fun b b' c' o1 o2 n1 n2 h1 h2 l1 l2 => ?_⟩, hle⟩
  · simp at hb
    rw [CM.add_ne _ _ (by omega)]; exact h.top b (by omega)
  · by_cases hbn : b = H.next
    · subst hbn
      rw [CM.add_same] at hb
      simp only [Option.some.injEq, Prod.mk.injEq] at hb
      obtain ⟨rfl, rfl, rfl⟩ := hb
      refine ⟨hc, ?_⟩
      rw [AH.get_alloc, if_pos rfl]
      obtain ⟨arr, e, fz, k1, k2⟩ := hob
      exact ⟨hc, arr, e, fz, k1, k2.mono hle⟩
    · rw [CM.add_ne _ _ hbn] at hb
      obtain ⟨k1, k2⟩ := h.blk b c' o' n' hb
      refine ⟨k1, ?_⟩
      rw [AH.get_alloc, if_neg hbn]
      exact k2.mono hle rfl
  · have key : ∀ b, Live (H.alloc (.cells true cs)) b → b ≠ H.next ∧ Live H b := fun b ⟨x, hx, hl⟩ => by
      rw [AH.get_alloc] at hx
      by_cases hbn : b = H.next
      · rw [if_pos hbn] at hx
        simp only [Option.some.injEq] at hx
        subst hx
        simp [AObj.live] at hl
      · rw [if_neg hbn] at hx; exact ⟨hbn, x, hx, hl⟩
    obtain ⟨q1, q2⟩ := key b l1
    obtain ⟨q3, q4⟩ := key b' l2
    rw [CM.add_ne _ _ q1] at h1
    rw [CM.add_ne _ _ q3] at h2
    exact h.inj b b' c' o1 o2 n1 n2 h1 h2 q2 q4
def Opens (P : Program) (w : World) (sh : Sh) (cs : List Value) (D : Dat) : Prop :=
  Fits sh D ∧ ∀ m H, Rel P w.heap m H w → m 0 = some (0, 0, 0) → ∃ m', m.le m' ∧ VRs m' (inj sh D H).1 cs ∧ Rel P w.heap m' (inj sh D H).2 w
theorem VRs.join {m : CM} {xs ys : List AV} {us vs : List Value} (h1 : VRs m xs us) (h2 : VRs m ys vs) : VRs m (xs ++ ys) (us ++ vs) := h1.append h2
theorem opens_many {sh : Sh} {z : Nat} : ∀ (n : Nat) (f : Nat → List Value), (∀ i, i < n → (f i).length = z ∧ ∃ D, Opens P w sh (f i) D) →
    ∃ Ds, Ds.length = n ∧ FitsE sh Ds ∧ ∀ m H, Rel P w.heap m H w → m 0 = some (0, 0, 0) → ∃ m', m.le m' ∧ Rel P w.heap m' (injE sh Ds H).2 w ∧ VRs m' (injE sh Ds H).1 ((List.range n).flatMap f)
  | 0, f, _ => ⟨[], rfl, trivial, fun m H hr _ => ⟨m, leR m, hr, .nil⟩⟩
  | n + 1, f, h => by
    obtain ⟨_, D, hD, hO⟩ := h 0 (by omega)
    obtain ⟨Ds, h1, h2, h3⟩ := opens_many n (fun i => f (i + 1)) (fun i hi => h (i + 1) (by omega))
    refine ⟨D :: Ds, by simp [h1], ⟨hD, h2⟩, fun m H hr h0 => ?_⟩
    obtain ⟨m1, k1, k2, k3⟩ := hO m H hr h0
    obtain ⟨m2, q1, q2, q3⟩ := h3 m1 _ k3 (k1 _ _ h0)
    refine ⟨m2, leT k1 q1, q2, ?_⟩
    simp only [injE, List.range_succ_eq_map, List.flatMap_cons, List.flatMap_map]
    exact (VRs.mono q1 k2).append q3
theorem int_wf {k : IntKind} {n : Int} (h : (Lit.int k n).wf = true) : k.min ≤ n ∧ n ≤ k.max := by
  simpa [Lit.wf] using h
theorem trod_flat {t : TypeId} {n : Nat} {cs : List Value} {x : DataW K × List MemPlace} (h : DataW.trod enc P w 0 (fun _ => true) true n t cs = some x) :
    (P.underlying t = some .bool → ∃ b, cs = [.bool b]) ∧ (∀ k, P.underlying t = some (.int k) → ∃ i, cs = [.int k i] ∧ k.min ≤ i ∧ i ≤ k.max) ∧ (P.underlying t = some .string → ∃ s, cs = [.string s] ∧ s.size ≤ maxLen) := by
  cases n with
  | zero => simp [DataW.trod] at h
  | succ n =>
    unfold DataW.trod at h
    refine ⟨fun ht => ?_, fun k ht => ?_, fun ht => ?_⟩
    all_goals
      rw [ht] at h
      split at h <;> simp_all
    · exact int_wf h.1.2
theorem range_flatMap_get {α : Type} (z : Nat) : ∀ (n : Nat) (f : Nat → List α), (∀ i, i < n → (f i).length = z) → ∀ i j, i < n → j < z → ((List.range n).flatMap f)[i * z + j]? = (f i)[j]?
  | 0, _, _, i, j, hi, _ => by omega
  | n + 1, f, h, i, j, hi, hj => by
    simp only [List.range_succ_eq_map, List.flatMap_cons, List.flatMap_map]
    have h0 := h 0 (by omega)
    cases i with
    | zero => rw [List.getElem?_append_left (by omega)]; simp
    | succ i =>
      rw [List.getElem?_append_right (by rw [h0, Nat.add_mul]; omega)]
      have := range_flatMap_get z n (fun i => f (i + 1)) (fun i hi => h (i + 1) (by omega)) i j (by omega) hj
      rw [show (i + 1) * z + j - (f 0).length = i * z + j from by rw [h0, Nat.add_mul]; omega]
      exact this
theorem opens_fields {f : TypeId → Option Sh} {n : Nat} (ih : ∀ t sh cs x, f t = some sh → DataW.trod enc P w 0 (fun _ => true) true n t cs = some x → ∃ D, Opens P w sh cs D) (cs : List Value) :
    ∀ (fs : List Field) (k : Nat) (l : List Sh) (e : Nat) , shapeFs P f k fs = some (l, e) → (∀ x ∈ fs, ∃ y, DataW.trod enc P w 0 (fun _ => true) true n x.type ((cs.drop x.offset).take (P.cellsOf x.type)) = some y) → e ≤ cs.length →
      k ≤ e ∧ ∃ Ds, FitsF l Ds ∧ ∀ m H, Rel P w.heap m H w → m 0 = some (0, 0, 0) → ∃ m', m.le m' ∧ VRs m' (injF l Ds H).1 ((cs.drop k).take (e - k)) ∧ Rel P w.heap m' (injF l Ds H).2 w
  | [], k, l, e, h, _, _ => by
    simp only [shapeFs, Option.some.injEq, Prod.mk.injEq] at h
    obtain ⟨rfl, rfl⟩ := h
    exact ⟨Nat.le_refl _, [], trivial, fun m H hr _ => ⟨m, leR m, by simpa [injF] using VRs.nil, by simpa [injF] using hr⟩⟩
  | x :: xs, k, l, e, h, hall, he => by
    simp only [shapeFs] at h
    split at h
    · rename_i hk
      split at h
      · rename_i s l' n' hs hl
        simp only [Option.some.injEq, Prod.mk.injEq] at h
        obtain ⟨rfl, rfl⟩ := h
        obtain ⟨y, hy⟩ := hall x (by simp)
        obtain ⟨D, hD1, hD2⟩ := ih _ _ _ _ hs hy
        obtain ⟨hle, Ds, h1, h2⟩ := opens_fields ih cs xs _ _ _ hl (fun z hz => hall z (by simp [hz])) he
        refine ⟨by omega, D :: Ds, ⟨hD1, h1⟩, fun m H hr h0 => ?_⟩
        obtain ⟨m1, k1, k2, k3⟩ := hD2 m H hr h0
        obtain ⟨m2, q1, q2, q3⟩ := h2 m1 _ k3 (k1 _ _ h0)
        refine ⟨m2, leT k1 q1, ?_, q3⟩
        simp only [injF]
        have hcut : (cs.drop k).take (n' - k) = (cs.drop k).take (P.cellsOf x.type) ++ (cs.drop (k + P.cellsOf x.type)).take (n' - (k + P.cellsOf x.type)) := by
          rw [show n' - k = P.cellsOf x.type + (n' - (k + P.cellsOf x.type)) from by omega, List.take_add, List.drop_drop]
        rw [hcut]
        rw [hk] at k2
        exact (VRs.mono q1 k2).append q2
      · simp at h
    · simp at h
theorem cut_join {α : Type} (z : Nat) : ∀ (n : Nat) (l : List α), l.length = n * z → (List.range n).flatMap (fun i => (l.drop (i * z)).take z) = l
  | 0, l, h => by simp at h; subst h; rfl
  | n + 1, l, h => by
    simp only [List.range_succ_eq_map, List.flatMap_cons, List.flatMap_map]
    have := cut_join z n (l.drop z) (by rw [List.length_drop, h, Nat.add_mul]; omega)
    have e : ∀ i, ((l.drop z).drop (i * z)).take z = (l.drop ((i + 1) * z)).take z := fun i => by
      rw [List.drop_drop, Nat.add_mul, Nat.one_mul, Nat.add_comm]
    simp only [e] at this
    simp only [Nat.succ_eq_add_one, this]
    simp
theorem fitsF_rep {s : Sh} : ∀ {n : Nat} {Ds : List Dat}, Ds.length = n → FitsE s Ds → FitsF (List.replicate n s) Ds
  | 0, [], _, _ => trivial
  | n + 1, d :: ds, h, hf => ⟨hf.1, fitsF_rep (by simpa using h) hf.2⟩
theorem injF_rep {s : Sh} : ∀ {n : Nat} {Ds : List Dat}, Ds.length = n → ∀ H, injF (List.replicate n s) Ds H = injE s Ds H
  | 0, [], _, H => rfl
  | n + 1, d :: ds, h, H => by
    simp only [List.replicate_succ, injF, injE]
    rw [injF_rep (by simpa using h)]
theorem opens (hz : ∃ arr e fz, w.heap[0]? = some (.cells arr e fz)) : ∀ (k : Nat) (n : Nat) (t : TypeId) (sh : Sh) (cs : List Value) (x : DataW K × List MemPlace), shapeOf P k t = some sh → DataW.trod enc P w 0 (fun _ => true) true n t cs = some x → ∃ D, Opens P w sh cs D
  | 0, _, _, _, _, _, h, _ => by simp [shapeOf] at h
  | k + 1, n, t, sh, cs, x, h, ht => by
    simp only [shapeOf] at h
    obtain ⟨f1, f2, f3⟩ := trod_flat ht
    split at h
    · rename_i hu
      simp only [Option.some.injEq] at h; subst h
      obtain ⟨b, rfl⟩ := f1 hu
      exact ⟨.b b, trivial, fun m H hr _ => ⟨m, leR m, .cons (.bool b) .nil, hr⟩⟩
    · rename_i kd hu
      simp only [Option.some.injEq] at h; subst h
      obtain ⟨i, rfl, hi⟩ := f2 kd hu
      exact ⟨.i i, hi, fun m H hr _ => ⟨m, leR m, .cons (.int kd i) .nil, hr⟩⟩
    · rename_i hu
      simp only [Option.some.injEq] at h; subst h
      obtain ⟨s, rfl, hs⟩ := f3 hu
      exact ⟨.s s, hs, fun m H hr _ => ⟨m, leR m, .cons (.str s) .nil, hr⟩⟩
    · rename_i e hu
      split at h
      · simp at h
      · rename_i hne
        simp only [Option.map_eq_some_iff] at h
        obtain ⟨es, hes, rfl⟩ := h
        rcases DataW.trod_slice hu ht with ⟨rfl, _⟩ | ⟨a, len, cap, elems, rest, n', rfl, rfl, rfl, hb, hlc, hcm, hel, hget, hrest, _⟩
        · exact ⟨.nil, trivial, fun m H hr _ => ⟨m, leR m, .cons .nilslice .nil, hr⟩⟩
        · have hcells : ∀ i, i < len → ∃ cs', w.cells? 0 (a.add (i * P.cellsOf e)) (P.cellsOf e) = some cs' ∧ ∃ y, DataW.trod enc P w 0 (fun _ => true) true n' e cs' = some y := fun i hi => by
            have := hget i hi
            obtain ⟨y, hy⟩ : ∃ y, elems[i]? = some y := ⟨_, List.getElem?_eq_getElem (by omega)⟩
            rw [hy, Option.bind_eq_some_iff] at this
            obtain ⟨cs', h1, h2⟩ := this
            exact ⟨cs', h1, y, h2⟩
          let f : Nat → List Value := fun i => (w.cells? 0 (a.add (i * P.cellsOf e)) (P.cellsOf e)).getD []
          have hf : ∀ i, i < len → (f i).length = P.cellsOf e ∧ ∃ D, Opens P w es (f i) D := fun i hi => by
            obtain ⟨cs', h1, y, h2⟩ := hcells i hi
            obtain ⟨_, hl, _⟩ := World.cells?_some h1
            have hfi : f i = cs' := by simp only [f, h1, Option.getD_some]
            rw [hfi]
            exact ⟨hl, opens hz k n' e es cs' y hes h2⟩
          obtain ⟨Ds, hD1, hD2, hD3⟩ := opens_many len f hf
          have hplace : (cap = 0) ∨ (a.spot = none ∧ ∃ arr e' fz, w.heap[a.block]? = some (.cells arr e' fz) ∧ ∀ i j, i < len → j < P.cellsOf e → arr[a.off + (i * P.cellsOf e + j)]? = (f i)[j]?) := by
            by_cases hc0 : cap = 0
            · exact .inl hc0
            · right
              have hone : ∃ cs', w.cells? 0 (a.add 0) (P.cellsOf e) = some cs' := by
                by_cases hl0 : len = 0
                · have h1 := (hrest rfl).1
                  have h2 := (hrest rfl).2 0 (by omega)
                  obtain ⟨y, hy⟩ : ∃ y, rest[0]? = some y := ⟨_, List.getElem?_eq_getElem (by omega)⟩
                  rw [hy, Option.bind_eq_some_iff] at h2
                  obtain ⟨cs', h3, _⟩ := h2
                  refine ⟨cs', ?_⟩
                  simpa [hl0] using h3
                · obtain ⟨cs', h1, _⟩ := hcells 0 (by omega)
                  exact ⟨cs', by simpa using h1⟩
              obtain ⟨cs0, hcs0⟩ := hone
              obtain ⟨_, hl0, hg0⟩ := World.cells?_some hcs0
              have h0 := hg0 0 (by omega)
              obtain ⟨c0, hc0'⟩ : ∃ c, cs0[0]? = some c := ⟨_, List.getElem?_eq_getElem (by omega)⟩
              rw [hc0'] at h0
              have hadd0 : (a.add 0).add 0 = a := rfl
              rw [hadd0] at h0
              unfold World.cell? at h0
              split at h0
              · rename_i arr e' fz harr
                split at h0
                · simp at h0
                · rename_i hsp
                  have hspot : a.spot = none := by simpa using hsp
                  refine ⟨hspot, arr, e', fz, harr, fun i j hi hj => ?_⟩
                  obtain ⟨cs', h1, y, h2⟩ := hcells i hi
                  obtain ⟨_, _, hg⟩ := World.cells?_some h1
                  have hfi : f i = cs' := by simp only [f, h1, Option.getD_some]
                  rw [hfi, ← hg j hj]
                  have hoff : ((a.add (i * P.cellsOf e)).add j).off = a.off + (i * P.cellsOf e + j) ∧ ((a.add (i * P.cellsOf e)).add j).block = a.block ∧ ((a.add (i * P.cellsOf e)).add j).spot = none := by
                    unfold Addr.add
                    by_cases h1 : i * P.cellsOf e = 0
                    · by_cases h2 : j = 0 <;> simp [h1, h2, hspot]
                    · by_cases h2 : j = 0 <;> simp [h1, h2, hspot, Nat.add_assoc]
                  unfold World.cell?
                  rw [hoff.2.1, harr]
                  simp [hoff.1, hoff.2.2]
              · simp at h0
          refine ⟨.sl Ds, ⟨by omega, hD2⟩, fun m H hr h0 => ?_⟩
          obtain ⟨m1, k1, k2, k3⟩ := hD3 m H hr h0
          have hlt : ∀ {c : Nat} {arr : Array Value} {e'} {fz}, w.heap[c]? = some (.cells arr e' fz) → c < w.heap.size := fun h => by
            rcases Nat.lt_or_ge _ w.heap.size with h' | h'
            · exact h'
            · rw [Array.getElem?_eq_none h'] at h; cases h
          simp only [inj]
          rcases hplace with hc0 | ⟨hspot, arr, e', fz, harr, hcell⟩
          · subst hc0
            have hl0 : len = 0 := by omega
            subst hl0
            have hD0 : Ds = [] := List.length_eq_zero_iff.1 hD1
            subst hD0
            obtain ⟨arr, e', fz, harr⟩ := hz
            obtain ⟨r1, r2⟩ := k2.addRO (c := 0) (o := 0) (n := 0) (cs := (injE es [] H).1) (hlt harr) ⟨arr, e', fz, harr, fun i v hv => by simp [injE] at hv⟩
            exact ⟨_, leT k1 r2, .cons (.slice0 a (CM.add_same _ _ _)) .nil, r1⟩
          · have hvl := VRs.length k3
            have hfl : ((List.range len).flatMap f).length = len * P.cellsOf e := by
              rw [List.length_flatMap]
              have : (List.range len).map (fun i => (f i).length) = List.replicate len (P.cellsOf e) := by
                apply List.ext_getElem
                · simp
                · intro i h1 h2
                  simp at h1
                  simp [(hf i h1).1]
              rw [this]; simp
            obtain ⟨r1, r2⟩ := k2.addRO (c := a.block) (o := a.off) (n := a.off + 0 + cap * P.cellsOf e) (cs := (injE es Ds H).1) (hlt harr) ⟨arr, e', fz, harr, fun q v hv => by
              obtain ⟨u, hu1, hu2⟩ := VRs.get k3 q v hv
              have hq : q < len * P.cellsOf e := by
                rw [← hfl]
                rcases Nat.lt_or_ge q ((List.range len).flatMap f).length with h | h
                · exact h
                · rw [List.getElem?_eq_none h] at hu1; cases hu1
              have hpos : 0 < P.cellsOf e := by omega
              have hdm := Nat.div_add_mod q (P.cellsOf e)
              have hi : q / P.cellsOf e < len := by
                rw [Nat.div_lt_iff_lt_mul hpos]; exact hq
              have hj : q % P.cellsOf e < P.cellsOf e := Nat.mod_lt _ hpos
              have hqe : q = q / P.cellsOf e * P.cellsOf e + q % P.cellsOf e := by rw [Nat.mul_comm]; exact hdm.symm
              refine ⟨u, ?_, hu2⟩
              rw [hqe, range_flatMap_get (P.cellsOf e) len f (fun i hi => (hf i hi).1) _ _ hi hj, ← hcell _ _ hi hj, ← hqe] at hu1
              exact hu1⟩
            refine ⟨_, leT k1 r2, .cons ?_ .nil, r1⟩
            obtain ⟨ab, ao, asp⟩ := a
            simp only at hspot
            subst hspot
            rw [hD1]
            exact VR.slice (i := 0) (CM.add_same _ _ _) hlc (Nat.le_refl _)
    · rename_i fs hu
      obtain ⟨xs, n', rfl, rfl, hcl, hxl, hf⟩ := DataW.trod_struct hu ht
      split at h
      · rename_i l e hl
        split at h
        · rename_i he
          simp only [Option.some.injEq] at h; subst h
          have hall : ∀ y ∈ fs.toList, ∃ z, DataW.trod enc P w 0 (fun _ => true) true n' y.type ((cs.drop y.offset).take (P.cellsOf y.type)) = some z := fun y hy => by
            obtain ⟨i, hi, rfl⟩ := List.getElem_of_mem hy
            simp at hi
            have := hf i fs[i] (by simp [hi])
            obtain ⟨z, hz'⟩ : ∃ z, xs[i]? = some z := ⟨_, List.getElem?_eq_getElem (by omega)⟩
            refine ⟨z, ?_⟩
            rw [hz'] at this
            simpa using this
          obtain ⟨_, Ds, h1, h2⟩ := opens_fields (n := n') (fun t sh cs x h1 h2 => opens hz k n' t sh cs x h1 h2) cs fs.toList 0 l e hl hall (by omega)
          refine ⟨.ag Ds, h1, fun m H hr h0 => ?_⟩
          obtain ⟨m1, q1, q2, q3⟩ := h2 m H hr h0
          refine ⟨m1, q1, ?_, q3⟩
          have : (cs.drop 0).take (e - 0) = cs := by
            rw [List.drop_zero, Nat.sub_zero, he, ← hcl, List.take_length]
          rw [this] at q2
          exact q2
        · simp at h
      · simp at h
    · rename_i q e hu
      obtain ⟨xs, n', rfl, rfl, hcl, hxl, hf⟩ := DataW.trod_array hu ht
      split at h
      · rename_i hqe
        simp only [Option.map_eq_some_iff] at h
        obtain ⟨es, hes, rfl⟩ := h
        have hf' : ∀ i, i < q → ((cs.drop (i * P.cellsOf e)).take (P.cellsOf e)).length = P.cellsOf e ∧ ∃ D, Opens P w es ((cs.drop (i * P.cellsOf e)).take (P.cellsOf e)) D := fun i hi => by
          have h1 := hf i hi
          obtain ⟨z, hz'⟩ : ∃ z, xs[i]? = some z := ⟨_, List.getElem?_eq_getElem (by omega)⟩
          rw [hz'] at h1
          refine ⟨?_, opens hz k n' e es _ z hes h1⟩
          have h2 : (i + 1) * P.cellsOf e ≤ q * P.cellsOf e := Nat.mul_le_mul_right _ hi
          rw [Nat.add_mul] at h2
          simp only [List.length_take, List.length_drop]
          omega
        obtain ⟨Ds, h1, h2, h3⟩ := opens_many q _ hf'
        have hcs : (List.range q).flatMap (fun i => (cs.drop (i * P.cellsOf e)).take (P.cellsOf e)) = cs := cut_join _ _ _ (by omega)
        rw [hcs] at h3
        refine ⟨.ag Ds, fitsF_rep h1 h2, fun m H hr h0 => ?_⟩
        obtain ⟨m1, q1, q2, q3⟩ := h3 m H hr h0
        have hinj : inj (.agg (List.replicate q es)) (.ag Ds) H = injE es Ds H := by
          simp only [inj]
          exact injF_rep h1 H
        rw [hinj]
        exact ⟨m1, q1, q3, q2⟩
      · simp at h
    · simp at h
end
end Go.AM
namespace Go.AM
open Go.ChangeShapes Go.WideShapes Go.RowKit
def H0 : AH := { next := 1, tr := .node (some .dead) .leaf .leaf }
theorem H0_next : H0.next = 1 := rfl
theorem H0_get (k : Nat) : H0.get k = if k = 0 then some .dead else none := by
  unfold AH.get H0
  simp only [Tr.get]
  by_cases h : k = 0 <;> simp [h]
section
variable {K : Type} {enc : TypeId × Value → K} {P : Program} {w : World}
theorem rel_start (hz : ∃ arr e fz, w.heap[0]? = some (.cells arr e fz)) : Rel P w.heap (fun k => if k = 0 then some (0, 0, 0) else none) H0 w := by
  refine ⟨fun _ _ => rfl, Nat.le_refl _, fun b hb => ?_, fun b c o n hb => ?_, fun b b' c o o' n n' h1 h2 l1 l2 => ?_⟩
  · rw [H0_next] at hb
    rw [if_neg (by omega)]
  · by_cases h : b = 0
    · subst h
      simp only [if_true, Option.some.injEq, Prod.mk.injEq] at hb
      obtain ⟨rfl, rfl, rfl⟩ := hb
      obtain ⟨arr, e, fz, harr⟩ := hz
      refine ⟨?_, ?_⟩
      · rcases Nat.lt_or_ge 0 w.heap.size with h | h
        · exact h
        · rw [Array.getElem?_eq_none h] at harr; cases harr
      · rw [H0_get, if_pos rfl]; trivial
    · rw [if_neg h] at hb; cases hb
  · obtain ⟨x, hx, hl⟩ := l1
    rw [H0_get] at hx
    split at hx
    · simp only [Option.some.injEq] at hx; subst hx; simp [AObj.live] at hl
    · cases hx
theorem opens_arg (hz : ∃ arr e fz, w.heap[0]? = some (.cells arr e fz)) {k : Nat} {t : TypeId} {sh : Sh} {v : Value} {d : DataW K} {p : List MemPlace} {base : Nat} (hsh : shapeOf P k t = some sh) (hv : Value.okWide P w .any base t v) (ht : DataW.Trod enc P w 0 (fun _ => true) true t v d p) :
    ∃ D, Fits sh D ∧ ∀ m H, Rel P w.heap m H w → m 0 = some (0, 0, 0) → ∃ m', m.le m' ∧ VR m' (injV sh D H).1 v ∧ Rel P w.heap m' (injV sh D H).2 w := by
  obtain ⟨n, ht⟩ := ht
  obtain ⟨D, hD, hO⟩ := opens hz k n t sh _ _ hsh ht
  refine ⟨D, hD, fun m H hr h0 => ?_⟩
  obtain ⟨m', k1, k2, k3⟩ := hO m H hr h0
  refine ⟨m', k1, ?_⟩
  cases k with
  | zero => simp [shapeOf] at hsh
  | succ k =>
    simp only [shapeOf] at hsh
    unfold Value.okWide at hv
    have one : ∀ {x : AV} {H' : AH}, (∀ cs, v ≠ .agg cs) → (∀ cs, v ≠ .tuple cs) → VRs m' [x] v.cells.toList → VR m' x v := fun {x} _ hna hnt h => by
      have : v.cells.toList = [v] := by
        cases v <;> first | rfl | exact absurd rfl (hna _)
      rw [this] at h
      cases h with
      | cons h _ => exact h
    split at hsh
    · rename_i hu
      simp only [Option.some.injEq] at hsh; subst hsh
      rw [hu] at hv
      cases D <;> simp only [Fits] at hD
      simp only [inj, injV] at k2 k3 ⊢
      refine ⟨one (H' := H) (fun cs h => ?_) (fun cs h => ?_) k2, k3⟩ <;> (subst h; simp [Cell.okWide, Cell.ok, hu] at hv)
    · rename_i kd hu
      simp only [Option.some.injEq] at hsh; subst hsh
      rw [hu] at hv
      cases D <;> simp only [Fits] at hD
      simp only [inj, injV] at k2 k3 ⊢
      refine ⟨one (H' := H) (fun cs h => ?_) (fun cs h => ?_) k2, k3⟩ <;> (subst h; simp [Cell.okWide, Cell.ok, hu] at hv)
    · rename_i hu
      simp only [Option.some.injEq] at hsh; subst hsh
      rw [hu] at hv
      cases D <;> simp only [Fits] at hD
      simp only [inj, injV] at k2 k3 ⊢
      refine ⟨one (H' := H) (fun cs h => ?_) (fun cs h => ?_) k2, k3⟩ <;> (subst h; simp [Cell.okWide, Cell.ok, hu] at hv)
    · rename_i e hu
      split at hsh
      · simp at hsh
      · simp only [Option.map_eq_some_iff] at hsh
        obtain ⟨es, hes, rfl⟩ := hsh
        rw [hu] at hv
        cases D <;> simp only [Fits] at hD
        all_goals
          simp only [inj, injV] at k2 k3 ⊢
          refine ⟨one (H' := H) (fun cs h => ?_) (fun cs h => ?_) k2, k3⟩ <;> (subst h; simp [Cell.okWide, Cell.ok, hu] at hv)
    · rename_i fs hu
      rw [hu] at hv
      obtain ⟨cs, rfl, _⟩ := hv
      split at hsh
      · split at hsh
        · simp only [Option.some.injEq] at hsh; subst hsh
          exact ⟨.agg k2, k3⟩
        · simp at hsh
      · simp at hsh
    · rename_i q e hu
      rw [hu] at hv
      obtain ⟨cs, rfl, _⟩ := hv
      split at hsh
      · simp only [Option.map_eq_some_iff] at hsh
        obtain ⟨es, hes, rfl⟩ := hsh
        exact ⟨.agg k2, k3⟩
      · simp at hsh
    · simp at hsh
theorem opens_args (hz : ∃ arr e fz, w.heap[0]? = some (.cells arr e fz)) {k base : Nat} : ∀ (ts : List TypeId) (shs : List Sh) (vs : List Value) (ds : List (DataW K)) (ps : List MemPlace), ts.mapM (shapeOf P k) = some shs → (∀ (j : Nat) (t : TypeId) (v : Value), ts[j]? = some t → vs[j]? = some v → Value.okWide P w .any base t v) → DataW.TrodAll enc P w 0 (fun _ => true) true ts vs ds ps →
    ds.length = shs.length ∧ ∃ Ds, FitsF shs Ds ∧ ∀ m H, Rel P w.heap m H w → m 0 = some (0, 0, 0) → ∃ m', m.le m' ∧ VRs m' (injAll shs Ds H).1 vs ∧ Rel P w.heap m' (injAll shs Ds H).2 w
  | [], shs, vs, ds, ps, h, _, ht => by
    obtain ⟨rfl, rfl, rfl⟩ := trodAll_nil ht
    simp at h; subst h
    exact ⟨rfl, [], trivial, fun m H hr _ => ⟨m, leR m, by simpa [injAll] using VRs.nil, by simpa [injAll] using hr⟩⟩
  | t :: ts, shs, vs, ds, ps, h, hv, ht => by
    obtain ⟨v, vs1, d, ds1, a, b, rfl, rfl, rfl, h1, h2⟩ := trodAll_cons ht
    simp only [List.mapM_cons, Option.bind_eq_bind, Option.bind_eq_some_iff, Option.pure_def, Option.some.injEq] at h
    obtain ⟨sh, hsh, shs1, hshs, rfl⟩ := h
    obtain ⟨D, hD1, hD2⟩ := opens_arg hz hsh (hv 0 t v rfl rfl) h1
    obtain ⟨hl, Ds, h3, h4⟩ := opens_args hz ts shs1 vs1 ds1 b hshs (fun j t v h1 h2 => hv (j + 1) t v (by simpa using h1) (by simpa using h2)) h2
    refine ⟨by simp [hl], D :: Ds, ⟨hD1, h3⟩, fun m H hr h0 => ?_⟩
    obtain ⟨m1, k1, k2, k3⟩ := hD2 m H hr h0
    obtain ⟨m2, q1, q2, q3⟩ := h4 m1 _ k3 (k1 _ _ h0)
    exact ⟨m2, leT k1 q1, .cons (k2.mono q1) q2, q3⟩
theorem kept_of {W W' : World} (hos : W'.os = W.os ∧ W'.output = W.output) (hold : ∀ c, c < W.heap.size → W'.heap[c]? = W.heap[c]?) (may : MemPlace → Prop) : W.keptBut W' may := by
  refine ⟨hos.1, hos.2, fun i hi => ?_⟩
  rw [hold i hi]
  cases hg : W.heap[i]? with
  | none => trivial
  | some o => cases o <;> first | trivial | rfl | exact ⟨rfl, rfl, rfl, fun _ _ => rfl⟩ | exact .inr ⟨rfl, rfl⟩
theorem sameAt_of {W W' : World} {p : MemPlace} (h : W'.heap[p.block]? = W.heap[p.block]?) : W.sameAt W' p := by
  cases p <;> simp_all [World.sameAt, MemPlace.block, World.cell?]
theorem trodAll_stays {W W' : World} (hl : laidOutB P = true) {sp' : Nat → Bool} : ∀ {ts : List TypeId} {vs : List Value} {ds : List (DataW K)} {ps : List MemPlace}, (ts.all fun t => P.readableRec t && decide (t < P.types.size)) = true → DataW.TrodAll enc P W 0 (fun _ => true) true ts vs ds ps →
    (∀ p ∈ ps, W'.heap[p.block]? = W.heap[p.block]?) → (∀ p ∈ ps, sp' p.block = true) → DataW.TrodAll enc P W' 0 sp' true ts vs ds ps
  | [], vs, ds, ps, _, h, _, _ => by
    obtain ⟨rfl, rfl, rfl⟩ := trodAll_nil h
    exact rfl
  | t :: ts, vs, ds, ps, hr, h, hs, hsp => by
    obtain ⟨v, vs1, d, ds1, a, b, rfl, rfl, rfl, h1, h2⟩ := trodAll_cons h
    simp only [List.all_cons, Bool.and_eq_true, decide_eq_true_eq] at hr
    refine ⟨a, b, ?_, ?_, rfl⟩
    · exact WideElems.Trod_stays hl hr.1.1 hr.1.2 h1 (fun p hp => sameAt_of (hs p (by simp [hp]))) (fun p hp => hsp p (by simp [hp]))
    · exact trodAll_stays hl (by simpa using hr.2) h2 (fun p hp => hs p (by simp [hp])) (fun p hp => hsp p (by simp [hp]))
end
def isCells : Option Obj → Bool
  | some (.cells _ _ _) => true
  | _ => false
def zeroRow (P : Program) : Bool := (decide (0 < P.globals.size) || (!World.looseAt 0 && isCells (begin P (fun _ _ => 0) default).world.heap[0]?)) && (((begin P (fun _ _ => 0) default).world.heap[0]?).bind Obj.row?).isSome
theorem zero_cells {P : Program} {w : World} (h : zeroRow P = true) (hw : w.ShapedOpen P) : ∃ arr e fz, w.heap[0]? = some (.cells arr e fz) := by
  simp only [zeroRow, Bool.and_eq_true, Bool.or_eq_true, decide_eq_true_eq] at h
  obtain ⟨h1, h2⟩ := h
  obtain ⟨⟨zero, t⟩, hz⟩ := Option.isSome_iff_exists.1 h2
  by_cases hg : 0 < P.globals.size
  · obtain ⟨cs, h3, _⟩ := hw.1 0 zero t hg hz
    exact ⟨cs, t, _, h3⟩
  · have hlc : World.looseAt 0 = false ∧ isCells (begin P (fun _ _ => 0) default).world.heap[0]? = true := by
      rcases h1 with h1 | h1
      · exact absurd h1 hg
      · simpa using h1
    have hl := hlc.1
    have hcc := hlc.2
    obtain ⟨o₀, ho, hr⟩ := Option.bind_eq_some_iff.1 hz
    have hlt : 0 < (begin P (fun _ _ => 0) default).world.heap.size := by
      rcases Nat.eq_zero_or_pos (begin P (fun _ _ => 0) default).world.heap.size with h0 | h0
      · rw [Array.getElem?_eq_none (by omega)] at ho; cases ho
      · exact h0
    obtain ⟨o, o₀', q1, q2, q3⟩ := hw.2 0 (by omega) hlt
    rw [ho] at q2
    obtain rfl := Option.some.inj q2
    have he : 0 - P.globals.size = 0 := by omega
    rw [he, hl] at q3
    simp only [Bool.false_eq_true, if_false] at q3
    subst q3
    cases o with
    | cells arr e fz => exact ⟨arr, e, fz, q1⟩
    | _ => rw [ho] at hcc; cases hcc
theorem frozen_same {W W' : World} {a : Addr} (h : W'.heap[a.block]? = W.heap[a.block]?) : W'.frozen? a = W.frozen? a := by
  unfold World.frozen?
  rw [h]
theorem row_lifted {K : Type} {enc : TypeId × Value → K} {C : Checked} {os : Os} {f : FuncId} {fn : Func} {s : ChangeSpec} {conds : List PathCond} {apart fresh handsOn again : Bool} {prog : Nat → Option AFunc} (hP : ProgOk C.prog prog)
    (own : ownKnob C.prog.godebug = none) (started : os.Started) (noInit : C.prog.inits.idxOf? f = none) (hfn : C.prog.funcs[f]? = some fn)
    (witness : ∃ (w : World) (tape : Tape) (i : Input), w.os = os ∧ (w.forCall tape i).Shaped C.prog ∧ i.vars = [] ∧ Input.okWide C.prog (w.forCall tape i) .any w.heap.size f i ∧
      s.pre6 enc C.prog fn conds apart (w.forCall tape i).memory i.args ∧ ({} : Assume).holds C.prog (lone (Frame.enter C.prog f i.args .normal) [] (w.forCall tape i)))
    (laid : laidOutB C.prog = true) (hread : (fn.params.toList.all fun t => C.prog.readableRec t && decide (t < C.prog.types.size)) = true) (hzero : zeroRow C.prog = true) (hvars : s.vars = [])
    {tb : TypeId} (hres : fn.resultTypes = #[tb]) (htb : C.prog.underlying tb = some .bool) {k : Nat} {shs : List Sh} (hshs : fn.params.toList.mapM (shapeOf C.prog k) = some shs)
    (hspec : ∀ ds : List (DataW K), ds.length = shs.length → s.fn K ds = { results := [.lit (.bool true)], args := ds })
    (law : ∀ Ds, FitsF shs Ds → ∃ n H', acallv prog n (.func f [] []) (injAll shs Ds H0).1 (injAll shs Ds H0).2 = some (.bool true, H')) :
    ReturnsInHanded {} C os f .any (s.pre6 enc C.prog fn conds apart) (s.post enc C.prog fn apart fresh handsOn again) := by
  refine returnsInHanded_of_change_shaped own started noInit hfn witness ?_
  intro W base args ds gs before hval hW _ _ hshape _
  have hW' := hW
  obtain ⟨p, q, hA, hV, rfl, hfz, hnd⟩ := hW
  rw [hvars] at hV
  obtain ⟨rfl, rfl⟩ : gs = [] ∧ q = [] := by
    cases gs with
    | nil => exact ⟨rfl, hV⟩
    | cons _ _ => exact hV.elim
  have hz := zero_cells hzero hshape
  obtain ⟨hdl, Ds, hD, hO⟩ := opens_args hz (base := base) fn.params.toList shs args.toList ds p hshs (fun j t v h1 h2 => hval j t v (by simpa using h1) (by simpa using h2)) hA
  obtain ⟨m', _, hvs, hrel⟩ := hO _ H0 (rel_start hz) rfl
  obtain ⟨n, H', hrun⟩ := law Ds hD
  have hsim := sim_acallv hP n W.heap m' _ W (.func f [] []) (.func (.func f) #[] #[]) _ args.toList _ H' Fence.wide 0 ⟨fun _ => trivial, rfl⟩ rfl hrun hrel (.func f .nil .nil) hvs
  obtain ⟨_, hcalls⟩ := hsim
  have hargs : (#[] ++ args.toList.toArray ++ #[] : Array Value) = args := by simp
  rw [hargs] at hcalls
  refine (hcalls.calls (fun _ _ h => by cases h)).mono fun e W' hafter => ?_
  obtain ⟨u, m'', rfl, hu, hrel', hext⟩ := hafter
  cases hu
  refine ⟨_, rfl, ?_⟩
  have hold : ∀ c, c < W.heap.size → W'.heap[c]? = W.heap[c]? := hrel'.old
  have hlt : ∀ x ∈ p ++ [], x.block < W.heap.size := fun x hx => hW'.lt x hx
  have hsp := hspec ds hdl
  have hds : ds ++ [] = ds := List.append_nil _
  have hresT : ∀ (b : Nat) (sp : Nat → Bool) (hd : Bool), DataW.TrodAll enc C.prog W' b sp hd [tb] [.bool true] [(DataW.lit (.bool true) : DataW K)] [] := fun b sp hd =>
    ⟨[], [], ⟨1, by simp [DataW.trod, htb, Value.cells]⟩, rfl, rfl⟩
  have hargsT : ∀ sp : Nat → Bool, (∀ x ∈ p, sp x.block = true) → DataW.TrodAll enc C.prog W' 0 sp true fn.params.toList args.toList ds p := fun sp h =>
    trodAll_stays laid hread hA (fun x hx => hold _ (hlt x (by simp [hx]))) h
  have hvarsT : ∀ sp : Nat → Bool, DataW.TrodVars enc C.prog W' sp s.vars ((s.fn K (ds ++ [])).vars) [] := fun sp => by
    rw [hvars, hds, hsp]; rfl
  have hbool : (Value.bool true).resultList 1 = [.bool true] := rfl
  refine ⟨ds, [], p ++ [], [], p, [], hW', ?_, ?_, hvarsT _, kept_of hext.os hold _, fun _ => ⟨?_, [.lit (.bool true)] ++ ds, [], [] ++ p ++ [], ⟨[] ++ p, [], ?_, by rw [hvars]; rfl, rfl, ?_, ?_⟩, ?_⟩⟩
  · rw [hds, hsp, hres]
    exact hresT _ _ _
  · rw [hds, hsp]
    exact hargsT _ fun x hx => by simpa using hlt x (by simp [hx])
  · refine ok_one hres hbool ?_
    simp [Value.okWide, htb, Cell.okWide, Cell.ok]
  · rw [hres]
    exact trodAll_append (hargsT _ (fun _ _ => rfl)) (hresT _ _ _)
  · intro b off hp
    have hp' : MemPlace.cell b off ∈ p ++ [] := by simpa using hp
    rw [frozen_same (hold b (hlt _ hp'))]
    exact hfz b off hp'
  · intro ha
    simpa using hnd ha
  · intro x hx _
    simpa using hx
end Go.AM
namespace Go.AM
mutual
theorem inj_grew : ∀ (s : Sh) (d : Dat) (H : AH), Grew H (inj s d H).2
  | .bool, d, H => by cases d <;> simp only [inj] <;> exact Grew.refl _
  | .int k, d, H => by cases d <;> simp only [inj] <;> exact Grew.refl _
  | .str, d, H => by cases d <;> simp only [inj] <;> exact Grew.refl _
  | .slice sz e, d, H => by
    cases d <;> simp only [inj] <;> first | exact Grew.refl _ | exact Grew.alloc (injE_grew e _ H) _
  | .agg fs, d, H => by
    cases d <;> simp only [inj] <;> first | exact Grew.refl _ | exact injF_grew fs _ H
theorem injE_grew : ∀ (e : Sh) (ds : List Dat) (H : AH), Grew H (injE e ds H).2
  | e, [], H => by simp only [injE]; exact Grew.refl _
  | e, d :: ds, H => by simp only [injE]; exact (inj_grew e d H).trans (injE_grew e ds _)
theorem injF_grew : ∀ (fs : List Sh) (ds : List Dat) (H : AH), Grew H (injF fs ds H).2
  | [], ds, H => by cases ds <;> simp only [injF] <;> exact Grew.refl _
  | f :: fs, [], H => by simp only [injF]; exact Grew.refl _
  | f :: fs, d :: ds, H => by simp only [injF]; exact (inj_grew f d H).trans (injF_grew fs ds _)
end
def Dat.int : Dat → Int
  | .i n => n
  | _ => 0
def Dat.str : Dat → ByteArray
  | .s x => x
  | _ => ⟨#[]⟩
def Dat.bool : Dat → Bool
  | .b x => x
  | _ => false
def Dat.els : Dat → List Dat
  | .sl es => es
  | .ag es => es
  | _ => []
structure Reads {α : Type} (sz : Nat) (e : Sh) (E : Elem α) (f : Dat → α) : Prop where
  stays : Stays E
  len : ∀ d H, Fits e d → (inj e d H).1.length = sz
  el : ∀ d H, Fits e d → E (Old (inj e d H).2) (inj e d H).2 (inj e d H).1 (f d)
theorem injE_rows {α : Type} {sz : Nat} {e : Sh} {E : Elem α} {f : Dat → α} (hr : Reads sz e E f) : ∀ {ds : List Dat} (H : AH), FitsE e ds → Rows sz (E (Old (injE e ds H).2) (injE e ds H).2) (injE e ds H).1 (ds.map f)
  | [], H, _ => by simp only [injE]; exact .nil
  | d :: ds, H, h => by
    simp only [FitsE] at h
    simp only [injE, List.map_cons]
    exact .cons (hr.len d H h.1) (hr.stays _ _ _ _ _ _ (injE_grew e ds _).keeps (hr.el d H h.1)) (injE_rows hr _ h.2)
theorem inj_sl {α : Type} {sz : Nat} {e : Sh} {E : Elem α} {f : Dat → α} (hr : Reads sz e E f) {d : Dat} (H : AH) (h : Fits (.slice sz e) d) :
    ∃ v, inj (.slice sz e) d H = ([v], (inj (.slice sz e) d H).2) ∧ IsSl sz E (Old (inj (.slice sz e) d H).2) (inj (.slice sz e) d H).2 v (d.els.map f) ∧ (d.els.map f).length ≤ maxLen ∧ (∀ x ∈ d.els, Fits e x) := by
  cases d <;> simp only [Fits] at h
  · exact ⟨.nilslice, by simp only [inj], .inl ⟨rfl, rfl⟩, by simp [Dat.els], by simp [Dat.els]⟩
  · rename_i ds
    simp only [inj]
    refine ⟨_, rfl, .inr ⟨_, _, _, by rw [List.length_map]; rfl, (by show _ < _ + 1; omega), ?_, ((injE_rows hr H h.2).mono fun cs a h => hr.stays _ _ _ _ _ _ (Grew.alloc (Grew.refl _) _).keeps h)⟩, by simpa [Dat.els] using h.1, ?_⟩
    · have := (injE_rows hr H h.2).length
      show AH.read _ _ 0 ((List.map f ds).length * sz) = _
      rw [← this]
      unfold AH.read
      rw [get_alloc_new]
      simp [readN]
    · have : ∀ (ds : List Dat), FitsE e ds → ∀ x ∈ ds, Fits e x := fun ds => by
        induction ds with
        | nil => intro _ x hx; cases hx
        | cons d ds ih =>
          intro h x hx
          simp only [FitsE] at h
          rcases List.mem_cons.1 hx with rfl | hx
          · exact h.1
          · exact ih h.2 x hx
      exact this ds h.2
theorem reads_int : Reads 1 (.int .i64) EInt Dat.int := ⟨EInt.stays,
  fun d H h => by cases d <;> simp only [Fits] at h; simp [inj],
  fun d H h => by cases d <;> simp only [Fits] at h; simp only [inj, EInt, Dat.int]⟩
end Go.AM
namespace Go.Proofs.Ytihahmggfjjkjaa
open Go.AM Go.IntWalk Go.PL
def shPair : Sh := .agg [.int .i64, .int .i64]
def shSer : Sh := .agg [.slice 1 .bool, .agg [.int .i64, .int .i64], .slice 1 (.int .i64), .bool, .slice 2 shPair]
theorem fitsF_cons {f : Sh} {fs : List Sh} {ds : List Dat} (h : FitsF (f :: fs) ds) : ∃ d ds', ds = d :: ds' ∧ Fits f d ∧ FitsF fs ds' := by
  cases ds with
  | nil => exact h.elim
  | cons d ds => exact ⟨d, ds, rfl, h.1, h.2⟩
theorem fitsF_nil {ds : List Dat} (h : FitsF [] ds) : ds = [] := by
  cases ds with
  | nil => rfl
  | cons d ds => exact h.elim
theorem fits_agg {fs : List Sh} {d : Dat} (h : Fits (.agg fs) d) : ∃ ds, d = .ag ds ∧ FitsF fs ds := by
  cases d <;> simp only [Fits] at h
  exact ⟨_, rfl, h⟩
theorem fits_int {k : IntKind} {d : Dat} (h : Fits (.int k) d) : ∃ n, d = .i n ∧ k.min ≤ n ∧ n ≤ k.max := by
  cases d <;> simp only [Fits] at h
  exact ⟨_, rfl, h⟩
theorem fits_bool {d : Dat} (h : Fits .bool d) : ∃ b, d = .b b := by
  cases d <;> simp only [Fits] at h
  exact ⟨_, rfl⟩
theorem fits_pair {d : Dat} (h : Fits shPair d) : ∃ a b, d = .ag [.i a, .i b] ∧ (IntKind.i64.min ≤ a ∧ a ≤ IntKind.i64.max) ∧ IntKind.i64.min ≤ b ∧ b ≤ IntKind.i64.max := by
  obtain ⟨ds, rfl, h⟩ := fits_agg h
  obtain ⟨d1, ds, rfl, h1, h⟩ := fitsF_cons h
  obtain ⟨d2, ds, rfl, h2, h⟩ := fitsF_cons h
  obtain rfl := fitsF_nil h
  obtain ⟨a, rfl, ha⟩ := fits_int h1
  obtain ⟨b, rfl, hb⟩ := fits_int h2
  exact ⟨a, b, rfl, ha, hb⟩
def pairOf (d : Dat) : Int × Int := match d with
  | .ag [a, b] => (a.int, b.int)
  | _ => (0, 0)
theorem reads_pair : Reads 2 shPair EP pairOf := ⟨EP.stays,
  fun d H h => by obtain ⟨a, b, rfl, _⟩ := fits_pair h; simp [shPair, inj, injF],
  fun d H h => by obtain ⟨a, b, rfl, _⟩ := fits_pair h; simp [shPair, inj, injF, EP, pairOf, Dat.int]⟩
theorem reads_bool : Reads 1 .bool EB Dat.bool := ⟨EB.stays,
  fun d H h => by cases d <;> simp only [Fits] at h; simp [inj],
  fun d H h => by cases d <;> simp only [Fits] at h; simp only [inj, EB, Dat.bool]⟩
theorem ser_in {d : Dat} (H : AH) (h : Fits shSer d) : ∃ vl vg vf s, injV shSer d H = (serArg vl vg vf s, (injV shSer d H).2) ∧ IsSer (Old (injV shSer d H).2) (injV shSer d H).2 vl vg vf s ∧ Sized s := by
  obtain ⟨ds, rfl, h⟩ := fits_agg h
  obtain ⟨d1, ds, rfl, h1, h⟩ := fitsF_cons h
  obtain ⟨d2, ds, rfl, h2, h⟩ := fitsF_cons h
  obtain ⟨d3, ds, rfl, h3, h⟩ := fitsF_cons h
  obtain ⟨d4, ds, rfl, h4, h⟩ := fitsF_cons h
  obtain ⟨d5, ds, rfl, h5, h⟩ := fitsF_cons h
  obtain rfl := fitsF_nil h
  obtain ⟨a, b, rfl, ha, hb⟩ := fits_pair h2
  obtain ⟨u, rfl⟩ := fits_bool h4
  obtain ⟨v1, e1, s1, l1, m1⟩ := inj_sl reads_bool H h1
  obtain ⟨v2, e2, s2, l2, m2⟩ := inj_sl reads_int (inj (.slice 1 .bool) d1 H).2 h3
  obtain ⟨v3, e3, s3, l3, m3⟩ := inj_sl reads_pair (inj (.slice 1 (.int .i64)) d3 (inj (.slice 1 .bool) d1 H).2).2 h5
  have g2 := inj_grew (.slice 1 (.int .i64)) d3 (inj (.slice 1 .bool) d1 H).2
  have g3 := inj_grew (.slice 2 shPair) d5 (inj (.slice 1 (.int .i64)) d3 (inj (.slice 1 .bool) d1 H).2).2
  have hV : injV shSer (.ag [d1, .ag [.i a, .i b], d3, .b u, d5]) H = (.agg [v1, I a, I b, v2, .bool u, v3], (inj (.slice 2 shPair) d5 (inj (.slice 1 (.int .i64)) d3 (inj (.slice 1 .bool) d1 H).2).2).2) := by
    simp only [shSer, injV, inj, injF, List.append_nil]
    rw [e1]
    simp only
    rw [e2]
    simp only
    rw [e3]
    rfl
  refine ⟨v1, v2, v3, ⟨d1.els.map Dat.bool, a, b, d3.els.map Dat.int, u, d5.els.map pairOf⟩, ?_, ?_, ⟨Nat.le_trans l1 (by decide), Nat.le_trans l2 (by decide), Nat.le_trans l3 (by decide), ha, hb⟩⟩
  · rw [hV]
  · rw [hV]
    exact ⟨s1.grow EB.stays (g2.trans g3), s2.grow EInt.stays g3, s3⟩
theorem ser_int {kd : IntKind} {Ds : List Dat} (h : FitsF [shSer, .int kd] Ds) : ∃ H vl vg vf s n, injAll [shSer, .int kd] Ds H0 = ([serArg vl vg vf s, .int kd n], H) ∧ IsSer (Old H) H vl vg vf s ∧ Sized s ∧ kd.min ≤ n ∧ n ≤ kd.max := by
  obtain ⟨d1, ds, rfl, h1, h⟩ := fitsF_cons h
  obtain ⟨d2, ds, rfl, h2, h⟩ := fitsF_cons h
  obtain rfl := fitsF_nil h
  obtain ⟨vl, vg, vf, s, e1, i1, z1⟩ := ser_in H0 h1
  obtain ⟨n, rfl, hn⟩ := fits_int h2
  refine ⟨(injV shSer d1 H0).2, vl, vg, vf, s, n, ?_, i1, z1, hn⟩
  simp only [injAll, Prod.mk.injEq, List.cons.injEq]
  exact ⟨⟨congrArg Prod.fst e1, rfl, trivial⟩, rfl⟩
end Go.Proofs.Ytihahmggfjjkjaa
namespace Go.Proofs.Ytihahmggfjjkjaa
open Go.AM
set_option maxRecDepth 100000 in
theorem c7_ok : cFunc Try.prog Try.f7 = some c7 := by kernel_rfl
set_option maxRecDepth 100000 in
theorem c16_ok : cFunc Try.prog Try.f16 = some c16 := by kernel_rfl
set_option maxRecDepth 100000 in
theorem c17_ok : cFunc Try.prog Try.f17 = some c17 := by kernel_rfl
set_option maxRecDepth 100000 in
theorem c18_ok : cFunc Try.prog Try.f18 = some c18 := by kernel_rfl
set_option maxRecDepth 100000 in
theorem c20_ok : cFunc Try.prog Try.f20 = some c20 := by kernel_rfl
set_option maxRecDepth 100000 in
theorem c22_ok : cFunc Try.prog Try.f22 = some c22 := by kernel_rfl
set_option maxRecDepth 100000 in
theorem c23_ok : cFunc Try.prog Try.f23 = some c23 := by kernel_rfl
set_option maxRecDepth 100000 in
theorem c25_ok : cFunc Try.prog Try.f25 = some c25 := by kernel_rfl
set_option maxRecDepth 100000 in
theorem c27_ok : cFunc Try.prog Try.f27 = some c27 := by kernel_rfl
set_option maxRecDepth 100000 in
theorem c29_ok : cFunc Try.prog Try.f29 = some c29 := by kernel_rfl
set_option maxRecDepth 100000 in
theorem c30_ok : cFunc Try.prog Try.f30 = some c30 := by kernel_rfl
set_option maxRecDepth 100000 in
theorem c32_ok : cFunc Try.prog Try.f32 = some c32 := by kernel_rfl
set_option maxRecDepth 100000 in
theorem c34_ok : cFunc Try.prog Try.f34 = some c34 := by kernel_rfl
set_option maxRecDepth 100000 in
theorem c35_ok : cFunc Try.prog Try.f35 = some c35 := by kernel_rfl
set_option maxRecDepth 100000 in
theorem c36_ok : cFunc Try.prog Try.f36 = some c36 := by kernel_rfl
set_option maxRecDepth 100000 in
theorem c37_ok : cFunc Try.prog Try.f37 = some c37 := by kernel_rfl
set_option maxRecDepth 100000 in
theorem c38_ok : cFunc Try.prog Try.f38 = some c38 := by kernel_rfl
set_option maxRecDepth 100000 in
theorem c39_ok : cFunc Try.prog Try.f39 = some c39 := by kernel_rfl
set_option maxRecDepth 100000 in
theorem c40_ok : cFunc Try.prog Try.f40 = some c40 := by kernel_rfl
set_option maxRecDepth 100000 in
theorem c41_ok : cFunc Try.prog Try.f41 = some c41 := by kernel_rfl
set_option maxRecDepth 100000 in
theorem c43_ok : cFunc Try.prog Try.f43 = some c43 := by kernel_rfl
set_option maxRecDepth 100000 in
theorem c45_ok : cFunc Try.prog Try.f45 = some c45 := by kernel_rfl
set_option maxRecDepth 100000 in
theorem c49_ok : cFunc Try.prog Try.f49 = some c49 := by kernel_rfl
set_option maxRecDepth 100000 in
theorem c51_ok : cFunc Try.prog Try.f51 = some c51 := by kernel_rfl
set_option maxRecDepth 100000 in
theorem c52_ok : cFunc Try.prog Try.f52 = some c52 := by kernel_rfl
set_option maxRecDepth 100000 in
theorem c53_ok : cFunc Try.prog Try.f53 = some c53 := by kernel_rfl
set_option maxRecDepth 100000 in
theorem c54_ok : cFunc Try.prog Try.f54 = some c54 := by kernel_rfl
set_option maxRecDepth 100000 in
theorem c55_ok : cFunc Try.prog Try.f55 = some c55 := by kernel_rfl
set_option maxRecDepth 100000 in
theorem c56_ok : cFunc Try.prog Try.f56 = some c56 := by kernel_rfl
set_option maxRecDepth 100000 in
theorem c57_ok : cFunc Try.prog Try.f57 = some c57 := by kernel_rfl
set_option maxRecDepth 100000 in
theorem c58_ok : cFunc Try.prog Try.f58 = some c58 := by kernel_rfl
set_option maxRecDepth 100000 in
theorem c59_ok : cFunc Try.prog Try.f59 = some c59 := by kernel_rfl
set_option maxRecDepth 100000 in
theorem c60_ok : cFunc Try.prog Try.f60 = some c60 := by kernel_rfl
set_option maxRecDepth 100000 in
theorem c61_ok : cFunc Try.prog Try.f61 = some c61 := by kernel_rfl
set_option maxRecDepth 100000 in
theorem c62_ok : cFunc Try.prog Try.f62 = some c62 := by kernel_rfl
set_option maxRecDepth 100000 in
theorem c63_ok : cFunc Try.prog Try.f63 = some c63 := by kernel_rfl
set_option maxRecDepth 100000 in
theorem c67_ok : cFunc Try.prog Try.f67 = some c67 := by kernel_rfl
set_option maxRecDepth 100000 in
theorem c68_ok : cFunc Try.prog Try.f68 = some c68 := by kernel_rfl
set_option maxRecDepth 100000 in
theorem c70_ok : cFunc Try.prog Try.f70 = some c70 := by kernel_rfl
set_option maxRecDepth 100000 in
theorem c73_ok : cFunc Try.prog Try.f73 = some c73 := by kernel_rfl
set_option maxRecDepth 100000 in
theorem c74_ok : cFunc Try.prog Try.f74 = some c74 := by kernel_rfl
set_option maxRecDepth 100000 in
theorem c75_ok : cFunc Try.prog Try.f75 = some c75 := by kernel_rfl
set_option maxRecDepth 100000 in
theorem c76_ok : cFunc Try.prog Try.f76 = some c76 := by kernel_rfl
set_option maxRecDepth 100000 in
theorem c77_ok : cFunc Try.prog Try.f77 = some c77 := by kernel_rfl
set_option maxRecDepth 100000 in
theorem c78_ok : cFunc Try.prog Try.f78 = some c78 := by kernel_rfl
set_option maxRecDepth 100000 in
theorem c81_ok : cFunc Try.prog Try.f81 = some c81 := by kernel_rfl
set_option maxRecDepth 100000 in
theorem c84_ok : cFunc Try.prog Try.f84 = some c84 := by kernel_rfl
set_option maxRecDepth 100000 in
theorem c85_ok : cFunc Try.prog Try.f85 = some c85 := by kernel_rfl
set_option maxRecDepth 100000 in
theorem c86_ok : cFunc Try.prog Try.f86 = some c86 := by kernel_rfl
set_option maxRecDepth 100000 in
theorem c87_ok : cFunc Try.prog Try.f87 = some c87 := by kernel_rfl
set_option maxRecDepth 100000 in
theorem c88_ok : cFunc Try.prog Try.f88 = some c88 := by kernel_rfl
set_option maxRecDepth 100000 in
theorem c89_ok : cFunc Try.prog Try.f89 = some c89 := by kernel_rfl
set_option maxRecDepth 100000 in
theorem c90_ok : cFunc Try.prog Try.f90 = some c90 := by kernel_rfl
set_option maxRecDepth 100000 in
theorem c91_ok : cFunc Try.prog Try.f91 = some c91 := by kernel_rfl
set_option maxRecDepth 100000 in
theorem c92_ok : cFunc Try.prog Try.f92 = some c92 := by kernel_rfl
theorem c7_nm : (Try.f7.name == "runtime.NumGoroutine") = false := by kernel_rfl
theorem c16_nm : (Try.f16.name == "runtime.NumGoroutine") = false := by kernel_rfl
theorem c17_nm : (Try.f17.name == "runtime.NumGoroutine") = false := by kernel_rfl
theorem c18_nm : (Try.f18.name == "runtime.NumGoroutine") = false := by kernel_rfl
theorem c20_nm : (Try.f20.name == "runtime.NumGoroutine") = false := by kernel_rfl
theorem c22_nm : (Try.f22.name == "runtime.NumGoroutine") = false := by kernel_rfl
theorem c23_nm : (Try.f23.name == "runtime.NumGoroutine") = false := by kernel_rfl
theorem c25_nm : (Try.f25.name == "runtime.NumGoroutine") = false := by kernel_rfl
theorem c27_nm : (Try.f27.name == "runtime.NumGoroutine") = false := by kernel_rfl
theorem c29_nm : (Try.f29.name == "runtime.NumGoroutine") = false := by kernel_rfl
theorem c30_nm : (Try.f30.name == "runtime.NumGoroutine") = false := by kernel_rfl
theorem c32_nm : (Try.f32.name == "runtime.NumGoroutine") = false := by kernel_rfl
theorem c34_nm : (Try.f34.name == "runtime.NumGoroutine") = false := by kernel_rfl
theorem c35_nm : (Try.f35.name == "runtime.NumGoroutine") = false := by kernel_rfl
theorem c36_nm : (Try.f36.name == "runtime.NumGoroutine") = false := by kernel_rfl
theorem c37_nm : (Try.f37.name == "runtime.NumGoroutine") = false := by kernel_rfl
theorem c38_nm : (Try.f38.name == "runtime.NumGoroutine") = false := by kernel_rfl
theorem c39_nm : (Try.f39.name == "runtime.NumGoroutine") = false := by kernel_rfl
theorem c40_nm : (Try.f40.name == "runtime.NumGoroutine") = false := by kernel_rfl
theorem c41_nm : (Try.f41.name == "runtime.NumGoroutine") = false := by kernel_rfl
theorem c43_nm : (Try.f43.name == "runtime.NumGoroutine") = false := by kernel_rfl
theorem c45_nm : (Try.f45.name == "runtime.NumGoroutine") = false := by kernel_rfl
theorem c49_nm : (Try.f49.name == "runtime.NumGoroutine") = false := by kernel_rfl
theorem c51_nm : (Try.f51.name == "runtime.NumGoroutine") = false := by kernel_rfl
theorem c52_nm : (Try.f52.name == "runtime.NumGoroutine") = false := by kernel_rfl
theorem c53_nm : (Try.f53.name == "runtime.NumGoroutine") = false := by kernel_rfl
theorem c54_nm : (Try.f54.name == "runtime.NumGoroutine") = false := by kernel_rfl
theorem c55_nm : (Try.f55.name == "runtime.NumGoroutine") = false := by kernel_rfl
theorem c56_nm : (Try.f56.name == "runtime.NumGoroutine") = false := by kernel_rfl
theorem c57_nm : (Try.f57.name == "runtime.NumGoroutine") = false := by kernel_rfl
theorem c58_nm : (Try.f58.name == "runtime.NumGoroutine") = false := by kernel_rfl
theorem c59_nm : (Try.f59.name == "runtime.NumGoroutine") = false := by kernel_rfl
theorem c60_nm : (Try.f60.name == "runtime.NumGoroutine") = false := by kernel_rfl
theorem c61_nm : (Try.f61.name == "runtime.NumGoroutine") = false := by kernel_rfl
theorem c62_nm : (Try.f62.name == "runtime.NumGoroutine") = false := by kernel_rfl
theorem c63_nm : (Try.f63.name == "runtime.NumGoroutine") = false := by kernel_rfl
theorem c67_nm : (Try.f67.name == "runtime.NumGoroutine") = false := by kernel_rfl
theorem c68_nm : (Try.f68.name == "runtime.NumGoroutine") = false := by kernel_rfl
theorem c70_nm : (Try.f70.name == "runtime.NumGoroutine") = false := by kernel_rfl
theorem c73_nm : (Try.f73.name == "runtime.NumGoroutine") = false := by kernel_rfl
theorem c74_nm : (Try.f74.name == "runtime.NumGoroutine") = false := by kernel_rfl
theorem c75_nm : (Try.f75.name == "runtime.NumGoroutine") = false := by kernel_rfl
theorem c76_nm : (Try.f76.name == "runtime.NumGoroutine") = false := by kernel_rfl
theorem c77_nm : (Try.f77.name == "runtime.NumGoroutine") = false := by kernel_rfl
theorem c78_nm : (Try.f78.name == "runtime.NumGoroutine") = false := by kernel_rfl
theorem c81_nm : (Try.f81.name == "runtime.NumGoroutine") = false := by kernel_rfl
theorem c84_nm : (Try.f84.name == "runtime.NumGoroutine") = false := by kernel_rfl
theorem c85_nm : (Try.f85.name == "runtime.NumGoroutine") = false := by kernel_rfl
theorem c86_nm : (Try.f86.name == "runtime.NumGoroutine") = false := by kernel_rfl
theorem c87_nm : (Try.f87.name == "runtime.NumGoroutine") = false := by kernel_rfl
theorem c88_nm : (Try.f88.name == "runtime.NumGoroutine") = false := by kernel_rfl
theorem c89_nm : (Try.f89.name == "runtime.NumGoroutine") = false := by kernel_rfl
theorem c90_nm : (Try.f90.name == "runtime.NumGoroutine") = false := by kernel_rfl
theorem c91_nm : (Try.f91.name == "runtime.NumGoroutine") = false := by kernel_rfl
theorem c92_nm : (Try.f92.name == "runtime.NumGoroutine") = false := by kernel_rfl
theorem progOk : ProgOk Try.prog prog := by
  refine ⟨by kernel_rfl, fun f af h => ?_⟩
  unfold prog at h
  split at h
  · simp only [Option.some.injEq] at h; subst h; exact ⟨_, Try.func7, c7_ok, c7_nm⟩
  · simp only [Option.some.injEq] at h; subst h; exact ⟨_, Try.func16, c16_ok, c16_nm⟩
  · simp only [Option.some.injEq] at h; subst h; exact ⟨_, Try.func17, c17_ok, c17_nm⟩
  · simp only [Option.some.injEq] at h; subst h; exact ⟨_, Try.func18, c18_ok, c18_nm⟩
  · simp only [Option.some.injEq] at h; subst h; exact ⟨_, Try.func20, c20_ok, c20_nm⟩
  · simp only [Option.some.injEq] at h; subst h; exact ⟨_, Try.func22, c22_ok, c22_nm⟩
  · simp only [Option.some.injEq] at h; subst h; exact ⟨_, Try.func23, c23_ok, c23_nm⟩
  · simp only [Option.some.injEq] at h; subst h; exact ⟨_, Try.func25, c25_ok, c25_nm⟩
  · simp only [Option.some.injEq] at h; subst h; exact ⟨_, Try.func27, c27_ok, c27_nm⟩
  · simp only [Option.some.injEq] at h; subst h; exact ⟨_, Try.func29, c29_ok, c29_nm⟩
  · simp only [Option.some.injEq] at h; subst h; exact ⟨_, Try.func30, c30_ok, c30_nm⟩
  · simp only [Option.some.injEq] at h; subst h; exact ⟨_, Try.func32, c32_ok, c32_nm⟩
  · simp only [Option.some.injEq] at h; subst h; exact ⟨_, Try.func34, c34_ok, c34_nm⟩
  · simp only [Option.some.injEq] at h; subst h; exact ⟨_, Try.func35, c35_ok, c35_nm⟩
  · simp only [Option.some.injEq] at h; subst h; exact ⟨_, Try.func36, c36_ok, c36_nm⟩
  · simp only [Option.some.injEq] at h; subst h; exact ⟨_, Try.func37, c37_ok, c37_nm⟩
  · simp only [Option.some.injEq] at h; subst h; exact ⟨_, Try.func38, c38_ok, c38_nm⟩
  · simp only [Option.some.injEq] at h; subst h; exact ⟨_, Try.func39, c39_ok, c39_nm⟩
  · simp only [Option.some.injEq] at h; subst h; exact ⟨_, Try.func40, c40_ok, c40_nm⟩
  · simp only [Option.some.injEq] at h; subst h; exact ⟨_, Try.func41, c41_ok, c41_nm⟩
  · simp only [Option.some.injEq] at h; subst h; exact ⟨_, Try.func43, c43_ok, c43_nm⟩
  · simp only [Option.some.injEq] at h; subst h; exact ⟨_, Try.func45, c45_ok, c45_nm⟩
  · simp only [Option.some.injEq] at h; subst h; exact ⟨_, Try.func49, c49_ok, c49_nm⟩
  · simp only [Option.some.injEq] at h; subst h; exact ⟨_, Try.func51, c51_ok, c51_nm⟩
  · simp only [Option.some.injEq] at h; subst h; exact ⟨_, Try.func52, c52_ok, c52_nm⟩
  · simp only [Option.some.injEq] at h; subst h; exact ⟨_, Try.func53, c53_ok, c53_nm⟩
  · simp only [Option.some.injEq] at h; subst h; exact ⟨_, Try.func54, c54_ok, c54_nm⟩
  · simp only [Option.some.injEq] at h; subst h; exact ⟨_, Try.func55, c55_ok, c55_nm⟩
  · simp only [Option.some.injEq] at h; subst h; exact ⟨_, Try.func56, c56_ok, c56_nm⟩
  · simp only [Option.some.injEq] at h; subst h; exact ⟨_, Try.func57, c57_ok, c57_nm⟩
  · simp only [Option.some.injEq] at h; subst h; exact ⟨_, Try.func58, c58_ok, c58_nm⟩
  · simp only [Option.some.injEq] at h; subst h; exact ⟨_, Try.func59, c59_ok, c59_nm⟩
  · simp only [Option.some.injEq] at h; subst h; exact ⟨_, Try.func60, c60_ok, c60_nm⟩
  · simp only [Option.some.injEq] at h; subst h; exact ⟨_, Try.func61, c61_ok, c61_nm⟩
  · simp only [Option.some.injEq] at h; subst h; exact ⟨_, Try.func62, c62_ok, c62_nm⟩
  · simp only [Option.some.injEq] at h; subst h; exact ⟨_, Try.func63, c63_ok, c63_nm⟩
  · simp only [Option.some.injEq] at h; subst h; exact ⟨_, Try.func67, c67_ok, c67_nm⟩
  · simp only [Option.some.injEq] at h; subst h; exact ⟨_, Try.func68, c68_ok, c68_nm⟩
  · simp only [Option.some.injEq] at h; subst h; exact ⟨_, Try.func70, c70_ok, c70_nm⟩
  · simp only [Option.some.injEq] at h; subst h; exact ⟨_, Try.func73, c73_ok, c73_nm⟩
  · simp only [Option.some.injEq] at h; subst h; exact ⟨_, Try.func74, c74_ok, c74_nm⟩
  · simp only [Option.some.injEq] at h; subst h; exact ⟨_, Try.func75, c75_ok, c75_nm⟩
  · simp only [Option.some.injEq] at h; subst h; exact ⟨_, Try.func76, c76_ok, c76_nm⟩
  · simp only [Option.some.injEq] at h; subst h; exact ⟨_, Try.func77, c77_ok, c77_nm⟩
  · simp only [Option.some.injEq] at h; subst h; exact ⟨_, Try.func78, c78_ok, c78_nm⟩
  · simp only [Option.some.injEq] at h; subst h; exact ⟨_, Try.func81, c81_ok, c81_nm⟩
  · simp only [Option.some.injEq] at h; subst h; exact ⟨_, Try.func84, c84_ok, c84_nm⟩
  · simp only [Option.some.injEq] at h; subst h; exact ⟨_, Try.func85, c85_ok, c85_nm⟩
  · simp only [Option.some.injEq] at h; subst h; exact ⟨_, Try.func86, c86_ok, c86_nm⟩
  · simp only [Option.some.injEq] at h; subst h; exact ⟨_, Try.func87, c87_ok, c87_nm⟩
  · simp only [Option.some.injEq] at h; subst h; exact ⟨_, Try.func88, c88_ok, c88_nm⟩
  · simp only [Option.some.injEq] at h; subst h; exact ⟨_, Try.func89, c89_ok, c89_nm⟩
  · simp only [Option.some.injEq] at h; subst h; exact ⟨_, Try.func90, c90_ok, c90_nm⟩
  · simp only [Option.some.injEq] at h; subst h; exact ⟨_, Try.func91, c91_ok, c91_nm⟩
  · simp only [Option.some.injEq] at h; subst h; exact ⟨_, Try.func92, c92_ok, c92_nm⟩
  · cases h
end Go.Proofs.Ytihahmggfjjkjaa
namespace Go.Proofs.Ytihahmggfjjkjaa
open Go.AM Go.ChangeShapes Go.WideShapes Go.ChangeAt Go.RowKit
theorem own : ownKnob Try.prog.godebug = none := by kernel_rfl
theorem laidOut : laidOutB Try.prog = true := by kernel_rfl
theorem zeroR : zeroRow Try.prog = true := by kernel_rfl
end Go.Proofs.Ytihahmggfjjkjaa
