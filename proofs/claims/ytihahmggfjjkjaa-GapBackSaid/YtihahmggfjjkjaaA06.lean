/- If days are told the other way round all is the same of the same days -/
import Derived.Test.YtihahmggfjjkjaaProg
import Derived.KernelRfl
import Derived.ProofKit
import Derived.Test.YtihahmggfjjkjaaA01
import Derived.Test.YtihahmggfjjkjaaA03
import Derived.Test.YtihahmggfjjkjaaA05
set_option linter.unusedVariables false
set_option linter.unusedSimpArgs false
namespace Go.AM
open Go.ChangeShapes Go.WideShapes Go.RowKit
def H0 : AH := { next := 1, tr := .node (some .dead) .leaf .leaf }
theorem H0_next : H0.next = 1 := rfl
theorem H0_get (k : Nat) : H0.get k = if k = 0 then some .dead else none := by
  unfold AH.get H0
  simp only [Tr.get]
  by_cases h : k = 0 <;> simp [h]
section
variable {K : Type} {enc : TypeId × Value → K} {P : Program} {w : World}
theorem rel_start (hz : ∃ arr e fz, w.heap[0]? = some (.cells arr e fz)) : Rel P w.heap (fun k => if k = 0 then some (0, 0, 0) else none) H0 w := by
  refine ⟨fun _ _ => rfl, Nat.le_refl _, fun b hb => ?_, fun b c o n hb => ?_, fun b b' c o o' n n' h1 h2 l1 l2 => ?_⟩
  · rw [H0_next] at hb
    rw [if_neg (by omega)]
  · by_cases h : b = 0
    · subst h
      simp only [if_true, Option.some.injEq, Prod.mk.injEq] at hb
      obtain ⟨rfl, rfl, rfl⟩ := hb
      obtain ⟨arr, e, fz, harr⟩ := hz
      refine ⟨?_, ?_⟩
      · rcases Nat.lt_or_ge 0 w.heap.size with h | h
        · exact h
        · rw [Array.getElem?_eq_none h] at harr; cases harr
      · rw [H0_get, if_pos rfl]; trivial
    · rw [if_neg h] at hb; cases hb
  · obtain ⟨x, hx, hl⟩ := l1
    rw [H0_get] at hx
    split at hx
    · simp only [Option.some.injEq] at hx; subst hx; simp [AObj.live] at hl
    · cases hx
theorem opens_arg (hz : ∃ arr e fz, w.heap[0]? = some (.cells arr e fz)) {k : Nat} {t : TypeId} {sh : Sh} {v : Value} {d : DataW K} {p : List MemPlace} {base : Nat} (hsh : shapeOf P k t = some sh) (hv : Value.okWide P w .any base t v) (ht : DataW.Trod enc P w 0 (fun _ => true) true t v d p) :
    ∃ D, Fits sh D ∧ ∀ m H, Rel P w.heap m H w → m 0 = some (0, 0, 0) → ∃ m', m.le m' ∧ VR m' (injV sh D H).1 v ∧ Rel P w.heap m' (injV sh D H).2 w := by
  obtain ⟨n, ht⟩ := ht
  obtain ⟨D, hD, hO⟩ := opens hz k n t sh _ _ hsh ht
  refine ⟨D, hD, fun m H hr h0 => ?_⟩
  obtain ⟨m', k1, k2, k3⟩ := hO m H hr h0
  refine ⟨m', k1, ?_⟩
  cases k with
  | zero => simp [shapeOf] at hsh
  | succ k =>
    simp only [shapeOf] at hsh
    unfold Value.okWide at hv
    have one : ∀ {x : AV} {H' : AH}, (∀ cs, v ≠ .agg cs) → (∀ cs, v ≠ .tuple cs) → VRs m' [x] v.cells.toList → VR m' x v := fun {x} _ hna hnt h => by
      have : v.cells.toList = [v] := by
        cases v <;> first | rfl | exact absurd rfl (hna _)
      rw [this] at h
      cases h with
      | cons h _ => exact h
    split at hsh
    · rename_i hu
      simp only [Option.some.injEq] at hsh; subst hsh
      rw [hu] at hv
      cases D <;> simp only [Fits] at hD
      simp only [inj, injV] at k2 k3 ⊢
      refine ⟨one (H' := H) (fun cs h => ?_) (fun cs h => ?_) k2, k3⟩ <;> (subst h; simp [Cell.okWide, Cell.ok, hu] at hv)
    · rename_i kd hu
      simp only [Option.some.injEq] at hsh; subst hsh
      rw [hu] at hv
      cases D <;> simp only [Fits] at hD
      simp only [inj, injV] at k2 k3 ⊢
      refine ⟨one (H' := H) (fun cs h => ?_) (fun cs h => ?_) k2, k3⟩ <;> (subst h; simp [Cell.okWide, Cell.ok, hu] at hv)
    · rename_i hu
      simp only [Option.some.injEq] at hsh; subst hsh
      rw [hu] at hv
      cases D <;> simp only [Fits] at hD
      simp only [inj, injV] at k2 k3 ⊢
      refine ⟨one (H' := H) (fun cs h => ?_) (fun cs h => ?_) k2, k3⟩ <;> (subst h; simp [Cell.okWide, Cell.ok, hu] at hv)
    · rename_i e hu
      split at hsh
      · simp at hsh
      · simp only [Option.map_eq_some_iff] at hsh
        obtain ⟨es, hes, rfl⟩ := hsh
        rw [hu] at hv
        cases D <;> simp only [Fits] at hD
        all_goals
          simp only [inj, injV] at k2 k3 ⊢
          refine ⟨one (H' := H) (fun cs h => ?_) (fun cs h => ?_) k2, k3⟩ <;> (subst h; simp [Cell.okWide, Cell.ok, hu] at hv)
    · rename_i fs hu
      rw [hu] at hv
      obtain ⟨cs, rfl, _⟩ := hv
      split at hsh
      · split at hsh
        · simp only [Option.some.injEq] at hsh; subst hsh
          exact ⟨.agg k2, k3⟩
        · simp at hsh
      · simp at hsh
    · rename_i q e hu
      rw [hu] at hv
      obtain ⟨cs, rfl, _⟩ := hv
      split at hsh
      · simp only [Option.map_eq_some_iff] at hsh
        obtain ⟨es, hes, rfl⟩ := hsh
        exact ⟨.agg k2, k3⟩
      · simp at hsh
    · simp at hsh
theorem opens_args (hz : ∃ arr e fz, w.heap[0]? = some (.cells arr e fz)) {k base : Nat} : ∀ (ts : List TypeId) (shs : List Sh) (vs : List Value) (ds : List (DataW K)) (ps : List MemPlace), ts.mapM (shapeOf P k) = some shs → (∀ (j : Nat) (t : TypeId) (v : Value), ts[j]? = some t → vs[j]? = some v → Value.okWide P w .any base t v) → DataW.TrodAll enc P w 0 (fun _ => true) true ts vs ds ps →
    ds.length = shs.length ∧ ∃ Ds, FitsF shs Ds ∧ ∀ m H, Rel P w.heap m H w → m 0 = some (0, 0, 0) → ∃ m', m.le m' ∧ VRs m' (injAll shs Ds H).1 vs ∧ Rel P w.heap m' (injAll shs Ds H).2 w
  | [], shs, vs, ds, ps, h, _, ht => by
    obtain ⟨rfl, rfl, rfl⟩ := trodAll_nil ht
    simp at h; subst h
    exact ⟨rfl, [], trivial, fun m H hr _ => ⟨m, leR m, by simpa [injAll] using VRs.nil, by simpa [injAll] using hr⟩⟩
  | t :: ts, shs, vs, ds, ps, h, hv, ht => by
    obtain ⟨v, vs1, d, ds1, a, b, rfl, rfl, rfl, h1, h2⟩ := trodAll_cons ht
    simp only [List.mapM_cons, Option.bind_eq_bind, Option.bind_eq_some_iff, Option.pure_def, Option.some.injEq] at h
    obtain ⟨sh, hsh, shs1, hshs, rfl⟩ := h
    obtain ⟨D, hD1, hD2⟩ := opens_arg hz hsh (hv 0 t v rfl rfl) h1
    obtain ⟨hl, Ds, h3, h4⟩ := opens_args hz ts shs1 vs1 ds1 b hshs (fun j t v h1 h2 => hv (j + 1) t v (by simpa using h1) (by simpa using h2)) h2
    refine ⟨by simp [hl], D :: Ds, ⟨hD1, h3⟩, fun m H hr h0 => ?_⟩
    obtain ⟨m1, k1, k2, k3⟩ := hD2 m H hr h0
    obtain ⟨m2, q1, q2, q3⟩ := h4 m1 _ k3 (k1 _ _ h0)
    exact ⟨m2, leT k1 q1, .cons (k2.mono q1) q2, q3⟩
theorem kept_of {W W' : World} (hos : W'.os = W.os ∧ W'.output = W.output) (hold : ∀ c, c < W.heap.size → W'.heap[c]? = W.heap[c]?) (may : MemPlace → Prop) : W.keptBut W' may := by
  refine ⟨hos.1, hos.2, fun i hi => ?_⟩
  rw [hold i hi]
  cases hg : W.heap[i]? with
  | none => trivial
  | some o => cases o <;> first | trivial | rfl | exact ⟨rfl, rfl, rfl, fun _ _ => rfl⟩ | exact .inr ⟨rfl, rfl⟩
theorem sameAt_of {W W' : World} {p : MemPlace} (h : W'.heap[p.block]? = W.heap[p.block]?) : W.sameAt W' p := by
  cases p <;> simp_all [World.sameAt, MemPlace.block, World.cell?]
theorem trodAll_stays {W W' : World} (hl : laidOutB P = true) {sp' : Nat → Bool} : ∀ {ts : List TypeId} {vs : List Value} {ds : List (DataW K)} {ps : List MemPlace}, (ts.all fun t => P.readableRec t && decide (t < P.types.size)) = true → DataW.TrodAll enc P W 0 (fun _ => true) true ts vs ds ps →
    (∀ p ∈ ps, W'.heap[p.block]? = W.heap[p.block]?) → (∀ p ∈ ps, sp' p.block = true) → DataW.TrodAll enc P W' 0 sp' true ts vs ds ps
  | [], vs, ds, ps, _, h, _, _ => by
    obtain ⟨rfl, rfl, rfl⟩ := trodAll_nil h
    exact rfl
  | t :: ts, vs, ds, ps, hr, h, hs, hsp => by
    obtain ⟨v, vs1, d, ds1, a, b, rfl, rfl, rfl, h1, h2⟩ := trodAll_cons h
    simp only [List.all_cons, Bool.and_eq_true, decide_eq_true_eq] at hr
    refine ⟨a, b, ?_, ?_, rfl⟩
    · exact WideElems.Trod_stays hl hr.1.1 hr.1.2 h1 (fun p hp => sameAt_of (hs p (by simp [hp]))) (fun p hp => hsp p (by simp [hp]))
    · exact trodAll_stays hl (by simpa using hr.2) h2 (fun p hp => hs p (by simp [hp])) (fun p hp => hsp p (by simp [hp]))
end
def isCells : Option Obj → Bool
  | some (.cells _ _ _) => true
  | _ => false
def zeroRow (P : Program) : Bool := (decide (0 < P.globals.size) || (!World.looseAt 0 && isCells (begin P (fun _ _ => 0) default).world.heap[0]?)) && (((begin P (fun _ _ => 0) default).world.heap[0]?).bind Obj.row?).isSome
theorem zero_cells {P : Program} {w : World} (h : zeroRow P = true) (hw : w.ShapedOpen P) : ∃ arr e fz, w.heap[0]? = some (.cells arr e fz) := by
  simp only [zeroRow, Bool.and_eq_true, Bool.or_eq_true, decide_eq_true_eq] at h
  obtain ⟨h1, h2⟩ := h
  obtain ⟨⟨zero, t⟩, hz⟩ := Option.isSome_iff_exists.1 h2
  by_cases hg : 0 < P.globals.size
  · obtain ⟨cs, h3, _⟩ := hw.1 0 zero t hg hz
    exact ⟨cs, t, _, h3⟩
  · have hlc : World.looseAt 0 = false ∧ isCells (begin P (fun _ _ => 0) default).world.heap[0]? = true := by
      rcases h1 with h1 | h1
      · exact absurd h1 hg
      · simpa using h1
    have hl := hlc.1
    have hcc := hlc.2
    obtain ⟨o₀, ho, hr⟩ := Option.bind_eq_some_iff.1 hz
    have hlt : 0 < (begin P (fun _ _ => 0) default).world.heap.size := by
      rcases Nat.eq_zero_or_pos (begin P (fun _ _ => 0) default).world.heap.size with h0 | h0
      · rw [Array.getElem?_eq_none (by omega)] at ho; cases ho
      · exact h0
    obtain ⟨o, o₀', q1, q2, q3⟩ := hw.2 0 (by omega) hlt
    rw [ho] at q2
    obtain rfl := Option.some.inj q2
    have he : 0 - P.globals.size = 0 := by omega
    rw [he, hl] at q3
    simp only [Bool.false_eq_true, if_false] at q3
    subst q3
    cases o with
    | cells arr e fz => exact ⟨arr, e, fz, q1⟩
    | _ => rw [ho] at hcc; cases hcc
theorem frozen_same {W W' : World} {a : Addr} (h : W'.heap[a.block]? = W.heap[a.block]?) : W'.frozen? a = W.frozen? a := by
  unfold World.frozen?
  rw [h]
theorem row_lifted {K : Type} {enc : TypeId × Value → K} {C : Checked} {os : Os} {f : FuncId} {fn : Func} {s : ChangeSpec} {conds : List PathCond} {apart fresh handsOn again : Bool} {prog : Nat → Option AFunc} (hP : ProgOk C.prog prog)
    (own : ownKnob C.prog.godebug = none) (started : os.Started) (noInit : C.prog.inits.idxOf? f = none) (hfn : C.prog.funcs[f]? = some fn)
    (witness : ∃ (w : World) (tape : Tape) (i : Input), w.os = os ∧ (w.forCall tape i).Shaped C.prog ∧ i.vars = [] ∧ Input.okWide C.prog (w.forCall tape i) .any w.heap.size f i ∧
      s.pre6 enc C.prog fn conds apart (w.forCall tape i).memory i.args ∧ ({} : Assume).holds C.prog (lone (Frame.enter C.prog f i.args .normal) [] (w.forCall tape i)))
    (laid : laidOutB C.prog = true) (hread : (fn.params.toList.all fun t => C.prog.readableRec t && decide (t < C.prog.types.size)) = true) (hzero : zeroRow C.prog = true) (hvars : s.vars = [])
    {tb : TypeId} (hres : fn.resultTypes = #[tb]) (htb : C.prog.underlying tb = some .bool) {k : Nat} {shs : List Sh} (hshs : fn.params.toList.mapM (shapeOf C.prog k) = some shs)
    (hspec : ∀ ds : List (DataW K), ds.length = shs.length → s.fn K ds = { results := [.lit (.bool true)], args := ds })
    (law : ∀ Ds, FitsF shs Ds → ∃ n H', acallv prog n (.func f [] []) (injAll shs Ds H0).1 (injAll shs Ds H0).2 = some (.bool true, H')) :
    ReturnsInHanded {} C os f .any (s.pre6 enc C.prog fn conds apart) (s.post enc C.prog fn apart fresh handsOn again) := by
  refine returnsInHanded_of_change_shaped own started noInit hfn witness ?_
  intro W base args ds gs before hval hW _ _ hshape _
  have hW' := hW
  obtain ⟨p, q, hA, hV, rfl, hfz, hnd⟩ := hW
  rw [hvars] at hV
  obtain ⟨rfl, rfl⟩ : gs = [] ∧ q = [] := by
    cases gs with
    | nil => exact ⟨rfl, hV⟩
    | cons _ _ => exact hV.elim
  have hz := zero_cells hzero hshape
  obtain ⟨hdl, Ds, hD, hO⟩ := opens_args hz (base := base) fn.params.toList shs args.toList ds p hshs (fun j t v h1 h2 => hval j t v (by simpa using h1) (by simpa using h2)) hA
  obtain ⟨m', _, hvs, hrel⟩ := hO _ H0 (rel_start hz) rfl
  obtain ⟨n, H', hrun⟩ := law Ds hD
  have hsim := sim_acallv hP n W.heap m' _ W (.func f [] []) (.func (.func f) #[] #[]) _ args.toList _ H' Fence.wide 0 ⟨fun _ => trivial, rfl⟩ rfl hrun hrel (.func f .nil .nil) hvs
  obtain ⟨_, hcalls⟩ := hsim
  have hargs : (#[] ++ args.toList.toArray ++ #[] : Array Value) = args := by simp
  rw [hargs] at hcalls
  refine (hcalls.calls (fun _ _ h => by cases h)).mono fun e W' hafter => ?_
  obtain ⟨u, m'', rfl, hu, hrel', hext⟩ := hafter
  cases hu
  refine ⟨_, rfl, ?_⟩
  have hold : ∀ c, c < W.heap.size → W'.heap[c]? = W.heap[c]? := hrel'.old
  have hlt : ∀ x ∈ p ++ [], x.block < W.heap.size := fun x hx => hW'.lt x hx
  have hsp := hspec ds hdl
  have hds : ds ++ [] = ds := List.append_nil _
  have hresT : ∀ (b : Nat) (sp : Nat → Bool) (hd : Bool), DataW.TrodAll enc C.prog W' b sp hd [tb] [.bool true] [(DataW.lit (.bool true) : DataW K)] [] := fun b sp hd =>
    ⟨[], [], ⟨1, by simp [DataW.trod, htb, Value.cells]⟩, rfl, rfl⟩
  have hargsT : ∀ sp : Nat → Bool, (∀ x ∈ p, sp x.block = true) → DataW.TrodAll enc C.prog W' 0 sp true fn.params.toList args.toList ds p := fun sp h =>
    trodAll_stays laid hread hA (fun x hx => hold _ (hlt x (by simp [hx]))) h
  have hvarsT : ∀ sp : Nat → Bool, DataW.TrodVars enc C.prog W' sp s.vars ((s.fn K (ds ++ [])).vars) [] := fun sp => by
    rw [hvars, hds, hsp]; rfl
  have hbool : (Value.bool true).resultList 1 = [.bool true] := rfl
  refine ⟨ds, [], p ++ [], [], p, [], hW', ?_, ?_, hvarsT _, kept_of hext.os hold _, fun _ => ⟨?_, [.lit (.bool true)] ++ ds, [], [] ++ p ++ [], ⟨[] ++ p, [], ?_, by rw [hvars]; rfl, rfl, ?_, ?_⟩, ?_⟩⟩
  · rw [hds, hsp, hres]
    exact hresT _ _ _
  · rw [hds, hsp]
    exact hargsT _ fun x hx => by simpa using hlt x (by simp [hx])
  · refine ok_one hres hbool ?_
    simp [Value.okWide, htb, Cell.okWide, Cell.ok]
  · rw [hres]
    exact trodAll_append (hargsT _ (fun _ _ => rfl)) (hresT _ _ _)
  · intro b off hp
    have hp' : MemPlace.cell b off ∈ p ++ [] := by simpa using hp
    rw [frozen_same (hold b (hlt _ hp'))]
    exact hfz b off hp'
  · intro ha
    simpa using hnd ha
  · intro x hx _
    simpa using hx
end Go.AM
namespace Go.AM
mutual
theorem inj_grew : ∀ (s : Sh) (d : Dat) (H : AH), Grew H (inj s d H).2
  | .bool, d, H => by cases d <;> simp only [inj] <;> exact Grew.refl _
  | .int k, d, H => by cases d <;> simp only [inj] <;> exact Grew.refl _
  | .str, d, H => by cases d <;> simp only [inj] <;> exact Grew.refl _
  | .slice sz e, d, H => by
    cases d <;> simp only [inj] <;> first | exact Grew.refl _ | exact Grew.alloc (injE_grew e _ H) _
  | .agg fs, d, H => by
    cases d <;> simp only [inj] <;> first | exact Grew.refl _ | exact injF_grew fs _ H
theorem injE_grew : ∀ (e : Sh) (ds : List Dat) (H : AH), Grew H (injE e ds H).2
  | e, [], H => by simp only [injE]; exact Grew.refl _
  | e, d :: ds, H => by simp only [injE]; exact (inj_grew e d H).trans (injE_grew e ds _)
theorem injF_grew : ∀ (fs : List Sh) (ds : List Dat) (H : AH), Grew H (injF fs ds H).2
  | [], ds, H => by cases ds <;> simp only [injF] <;> exact Grew.refl _
  | f :: fs, [], H => by simp only [injF]; exact Grew.refl _
  | f :: fs, d :: ds, H => by simp only [injF]; exact (inj_grew f d H).trans (injF_grew fs ds _)
end
def Dat.int : Dat → Int
  | .i n => n
  | _ => 0
def Dat.str : Dat → ByteArray
  | .s x => x
  | _ => ⟨#[]⟩
def Dat.bool : Dat → Bool
  | .b x => x
  | _ => false
def Dat.els : Dat → List Dat
  | .sl es => es
  | .ag es => es
  | _ => []
structure Reads {α : Type} (sz : Nat) (e : Sh) (E : Elem α) (f : Dat → α) : Prop where
  stays : Stays E
  len : ∀ d H, Fits e d → (inj e d H).1.length = sz
  el : ∀ d H, Fits e d → E (Old (inj e d H).2) (inj e d H).2 (inj e d H).1 (f d)
theorem injE_rows {α : Type} {sz : Nat} {e : Sh} {E : Elem α} {f : Dat → α} (hr : Reads sz e E f) : ∀ {ds : List Dat} (H : AH), FitsE e ds → Rows sz (E (Old (injE e ds H).2) (injE e ds H).2) (injE e ds H).1 (ds.map f)
  | [], H, _ => by simp only [injE]; exact .nil
  | d :: ds, H, h => by
    simp only [FitsE] at h
    simp only [injE, List.map_cons]
    exact .cons (hr.len d H h.1) (hr.stays _ _ _ _ _ _ (injE_grew e ds _).keeps (hr.el d H h.1)) (injE_rows hr _ h.2)
theorem inj_sl {α : Type} {sz : Nat} {e : Sh} {E : Elem α} {f : Dat → α} (hr : Reads sz e E f) {d : Dat} (H : AH) (h : Fits (.slice sz e) d) :
    ∃ v, inj (.slice sz e) d H = ([v], (inj (.slice sz e) d H).2) ∧ IsSl sz E (Old (inj (.slice sz e) d H).2) (inj (.slice sz e) d H).2 v (d.els.map f) ∧ (d.els.map f).length ≤ maxLen ∧ (∀ x ∈ d.els, Fits e x) := by
  cases d <;> simp only [Fits] at h
  · exact ⟨.nilslice, by simp only [inj], .inl ⟨rfl, rfl⟩, by simp [Dat.els], by simp [Dat.els]⟩
  · rename_i ds
    simp only [inj]
    refine ⟨_, rfl, .inr ⟨_, _, _, by rw [List.length_map]; rfl, (by show _ < _ + 1; omega), ?_, ((injE_rows hr H h.2).mono fun cs a h => hr.stays _ _ _ _ _ _ (Grew.alloc (Grew.refl _) _).keeps h)⟩, by simpa [Dat.els] using h.1, ?_⟩
    · have := (injE_rows hr H h.2).length
      show AH.read _ _ 0 ((List.map f ds).length * sz) = _
      rw [← this]
      unfold AH.read
      rw [get_alloc_new]
      simp [readN]
    · have : ∀ (ds : List Dat), FitsE e ds → ∀ x ∈ ds, Fits e x := fun ds => by
        induction ds with
        | nil => intro _ x hx; cases hx
        | cons d ds ih =>
          intro h x hx
          simp only [FitsE] at h
          rcases List.mem_cons.1 hx with rfl | hx
          · exact h.1
          · exact ih h.2 x hx
      exact this ds h.2
theorem reads_int : Reads 1 (.int .i64) EInt Dat.int := ⟨EInt.stays,
  fun d H h => by cases d <;> simp only [Fits] at h; simp [inj],
  fun d H h => by cases d <;> simp only [Fits] at h; simp only [inj, EInt, Dat.int]⟩
end Go.AM
namespace Go.Proofs.Ytihahmggfjjkjaa
open Go.AM Go.IntWalk Go.PL
def shPair : Sh := .agg [.int .i64, .int .i64]
def shSer : Sh := .agg [.slice 1 .bool, .agg [.int .i64, .int .i64], .slice 1 (.int .i64), .bool, .slice 2 shPair]
theorem fitsF_cons {f : Sh} {fs : List Sh} {ds : List Dat} (h : FitsF (f :: fs) ds) : ∃ d ds', ds = d :: ds' ∧ Fits f d ∧ FitsF fs ds' := by
  cases ds with
  | nil => exact h.elim
  | cons d ds => exact ⟨d, ds, rfl, h.1, h.2⟩
theorem fitsF_nil {ds : List Dat} (h : FitsF [] ds) : ds = [] := by
  cases ds with
  | nil => rfl
  | cons d ds => exact h.elim
theorem fits_agg {fs : List Sh} {d : Dat} (h : Fits (.agg fs) d) : ∃ ds, d = .ag ds ∧ FitsF fs ds := by
  cases d <;> simp only [Fits] at h
  exact ⟨_, rfl, h⟩
theorem fits_int {k : IntKind} {d : Dat} (h : Fits (.int k) d) : ∃ n, d = .i n ∧ k.min ≤ n ∧ n ≤ k.max := by
  cases d <;> simp only [Fits] at h
  exact ⟨_, rfl, h⟩
theorem fits_bool {d : Dat} (h : Fits .bool d) : ∃ b, d = .b b := by
  cases d <;> simp only [Fits] at h
  exact ⟨_, rfl⟩
theorem fits_pair {d : Dat} (h : Fits shPair d) : ∃ a b, d = .ag [.i a, .i b] ∧ (IntKind.i64.min ≤ a ∧ a ≤ IntKind.i64.max) ∧ IntKind.i64.min ≤ b ∧ b ≤ IntKind.i64.max := by
  obtain ⟨ds, rfl, h⟩ := fits_agg h
  obtain ⟨d1, ds, rfl, h1, h⟩ := fitsF_cons h
  obtain ⟨d2, ds, rfl, h2, h⟩ := fitsF_cons h
  obtain rfl := fitsF_nil h
  obtain ⟨a, rfl, ha⟩ := fits_int h1
  obtain ⟨b, rfl, hb⟩ := fits_int h2
  exact ⟨a, b, rfl, ha, hb⟩
def pairOf (d : Dat) : Int × Int := match d with
  | .ag [a, b] => (a.int, b.int)
  | _ => (0, 0)
theorem reads_pair : Reads 2 shPair EP pairOf := ⟨EP.stays,
  fun d H h => by obtain ⟨a, b, rfl, _⟩ := fits_pair h; simp [shPair, inj, injF],
  fun d H h => by obtain ⟨a, b, rfl, _⟩ := fits_pair h; simp [shPair, inj, injF, EP, pairOf, Dat.int]⟩
theorem reads_bool : Reads 1 .bool EB Dat.bool := ⟨EB.stays,
  fun d H h => by cases d <;> simp only [Fits] at h; simp [inj],
  fun d H h => by cases d <;> simp only [Fits] at h; simp only [inj, EB, Dat.bool]⟩
theorem ser_in {d : Dat} (H : AH) (h : Fits shSer d) : ∃ vl vg vf s, injV shSer d H = (serArg vl vg vf s, (injV shSer d H).2) ∧ IsSer (Old (injV shSer d H).2) (injV shSer d H).2 vl vg vf s ∧ Sized s := by
  obtain ⟨ds, rfl, h⟩ := fits_agg h
  obtain ⟨d1, ds, rfl, h1, h⟩ := fitsF_cons h
  obtain ⟨d2, ds, rfl, h2, h⟩ := fitsF_cons h
  obtain ⟨d3, ds, rfl, h3, h⟩ := fitsF_cons h
  obtain ⟨d4, ds, rfl, h4, h⟩ := fitsF_cons h
  obtain ⟨d5, ds, rfl, h5, h⟩ := fitsF_cons h
  obtain rfl := fitsF_nil h
  obtain ⟨a, b, rfl, ha, hb⟩ := fits_pair h2
  obtain ⟨u, rfl⟩ := fits_bool h4
  obtain ⟨v1, e1, s1, l1, m1⟩ := inj_sl reads_bool H h1
  obtain ⟨v2, e2, s2, l2, m2⟩ := inj_sl reads_int (inj (.slice 1 .bool) d1 H).2 h3
  obtain ⟨v3, e3, s3, l3, m3⟩ := inj_sl reads_pair (inj (.slice 1 (.int .i64)) d3 (inj (.slice 1 .bool) d1 H).2).2 h5
  have g2 := inj_grew (.slice 1 (.int .i64)) d3 (inj (.slice 1 .bool) d1 H).2
  have g3 := inj_grew (.slice 2 shPair) d5 (inj (.slice 1 (.int .i64)) d3 (inj (.slice 1 .bool) d1 H).2).2
  have hV : injV shSer (.ag [d1, .ag [.i a, .i b], d3, .b u, d5]) H = (.agg [v1, I a, I b, v2, .bool u, v3], (inj (.slice 2 shPair) d5 (inj (.slice 1 (.int .i64)) d3 (inj (.slice 1 .bool) d1 H).2).2).2) := by
    simp only [shSer, injV, inj, injF, List.append_nil]
    rw [e1]
    simp only
    rw [e2]
    simp only
    rw [e3]
    rfl
  refine ⟨v1, v2, v3, ⟨d1.els.map Dat.bool, a, b, d3.els.map Dat.int, u, d5.els.map pairOf⟩, ?_, ?_, ⟨Nat.le_trans l1 (by decide), Nat.le_trans l2 (by decide), Nat.le_trans l3 (by decide), ha, hb⟩⟩
  · rw [hV]
  · rw [hV]
    exact ⟨s1.grow EB.stays (g2.trans g3), s2.grow EInt.stays g3, s3⟩
theorem ser_only {Ds : List Dat} (h : FitsF [shSer] Ds) : ∃ H vl vg vf s, injAll [shSer] Ds H0 = ([serArg vl vg vf s], H) ∧ IsSer (Old H) H vl vg vf s ∧ Sized s := by
  obtain ⟨d1, ds, rfl, h1, h⟩ := fitsF_cons h
  obtain rfl := fitsF_nil h
  obtain ⟨vl, vg, vf, s, e1, i1, z1⟩ := ser_in H0 h1
  refine ⟨(injV shSer d1 H0).2, vl, vg, vf, s, ?_, i1, z1⟩
  simp only [injAll, Prod.mk.injEq, List.cons.injEq, and_true]
  exact congrArg Prod.fst e1
end Go.Proofs.Ytihahmggfjjkjaa
namespace Go.Proofs.Ytihahmggfjjkjaa
open Go.AM
set_option maxRecDepth 100000 in
theorem c14_ok : cFunc Try.prog Try.f14 = some c14 := by kernel_rfl
set_option maxRecDepth 100000 in
theorem c16_ok : cFunc Try.prog Try.f16 = some c16 := by kernel_rfl
set_option maxRecDepth 100000 in
theorem c17_ok : cFunc Try.prog Try.f17 = some c17 := by kernel_rfl
set_option maxRecDepth 100000 in
theorem c18_ok : cFunc Try.prog Try.f18 = some c18 := by kernel_rfl
set_option maxRecDepth 100000 in
theorem c20_ok : cFunc Try.prog Try.f20 = some c20 := by kernel_rfl
set_option maxRecDepth 100000 in
theorem c22_ok : cFunc Try.prog Try.f22 = some c22 := by kernel_rfl
set_option maxRecDepth 100000 in
theorem c23_ok : cFunc Try.prog Try.f23 = some c23 := by kernel_rfl
set_option maxRecDepth 100000 in
theorem c25_ok : cFunc Try.prog Try.f25 = some c25 := by kernel_rfl
set_option maxRecDepth 100000 in
theorem c27_ok : cFunc Try.prog Try.f27 = some c27 := by kernel_rfl
set_option maxRecDepth 100000 in
theorem c29_ok : cFunc Try.prog Try.f29 = some c29 := by kernel_rfl
set_option maxRecDepth 100000 in
theorem c30_ok : cFunc Try.prog Try.f30 = some c30 := by kernel_rfl
set_option maxRecDepth 100000 in
theorem c32_ok : cFunc Try.prog Try.f32 = some c32 := by kernel_rfl
set_option maxRecDepth 100000 in
theorem c34_ok : cFunc Try.prog Try.f34 = some c34 := by kernel_rfl
set_option maxRecDepth 100000 in
theorem c35_ok : cFunc Try.prog Try.f35 = some c35 := by kernel_rfl
set_option maxRecDepth 100000 in
theorem c36_ok : cFunc Try.prog Try.f36 = some c36 := by kernel_rfl
set_option maxRecDepth 100000 in
theorem c37_ok : cFunc Try.prog Try.f37 = some c37 := by kernel_rfl
set_option maxRecDepth 100000 in
theorem c43_ok : cFunc Try.prog Try.f43 = some c43 := by kernel_rfl
set_option maxRecDepth 100000 in
theorem c49_ok : cFunc Try.prog Try.f49 = some c49 := by kernel_rfl
set_option maxRecDepth 100000 in
theorem c51_ok : cFunc Try.prog Try.f51 = some c51 := by kernel_rfl
set_option maxRecDepth 100000 in
theorem c52_ok : cFunc Try.prog Try.f52 = some c52 := by kernel_rfl
set_option maxRecDepth 100000 in
theorem c53_ok : cFunc Try.prog Try.f53 = some c53 := by kernel_rfl
set_option maxRecDepth 100000 in
theorem c54_ok : cFunc Try.prog Try.f54 = some c54 := by kernel_rfl
set_option maxRecDepth 100000 in
theorem c55_ok : cFunc Try.prog Try.f55 = some c55 := by kernel_rfl
set_option maxRecDepth 100000 in
theorem c56_ok : cFunc Try.prog Try.f56 = some c56 := by kernel_rfl
set_option maxRecDepth 100000 in
theorem c57_ok : cFunc Try.prog Try.f57 = some c57 := by kernel_rfl
set_option maxRecDepth 100000 in
theorem c58_ok : cFunc Try.prog Try.f58 = some c58 := by kernel_rfl
set_option maxRecDepth 100000 in
theorem c59_ok : cFunc Try.prog Try.f59 = some c59 := by kernel_rfl
set_option maxRecDepth 100000 in
theorem c60_ok : cFunc Try.prog Try.f60 = some c60 := by kernel_rfl
set_option maxRecDepth 100000 in
theorem c61_ok : cFunc Try.prog Try.f61 = some c61 := by kernel_rfl
set_option maxRecDepth 100000 in
theorem c62_ok : cFunc Try.prog Try.f62 = some c62 := by kernel_rfl
set_option maxRecDepth 100000 in
theorem c63_ok : cFunc Try.prog Try.f63 = some c63 := by kernel_rfl
set_option maxRecDepth 100000 in
theorem c67_ok : cFunc Try.prog Try.f67 = some c67 := by kernel_rfl
set_option maxRecDepth 100000 in
theorem c68_ok : cFunc Try.prog Try.f68 = some c68 := by kernel_rfl
set_option maxRecDepth 100000 in
theorem c70_ok : cFunc Try.prog Try.f70 = some c70 := by kernel_rfl
set_option maxRecDepth 100000 in
theorem c73_ok : cFunc Try.prog Try.f73 = some c73 := by kernel_rfl
set_option maxRecDepth 100000 in
theorem c74_ok : cFunc Try.prog Try.f74 = some c74 := by kernel_rfl
set_option maxRecDepth 100000 in
theorem c75_ok : cFunc Try.prog Try.f75 = some c75 := by kernel_rfl
set_option maxRecDepth 100000 in
theorem c76_ok : cFunc Try.prog Try.f76 = some c76 := by kernel_rfl
set_option maxRecDepth 100000 in
theorem c77_ok : cFunc Try.prog Try.f77 = some c77 := by kernel_rfl
set_option maxRecDepth 100000 in
theorem c78_ok : cFunc Try.prog Try.f78 = some c78 := by kernel_rfl
set_option maxRecDepth 100000 in
theorem c84_ok : cFunc Try.prog Try.f84 = some c84 := by kernel_rfl
set_option maxRecDepth 100000 in
theorem c85_ok : cFunc Try.prog Try.f85 = some c85 := by kernel_rfl
set_option maxRecDepth 100000 in
theorem c86_ok : cFunc Try.prog Try.f86 = some c86 := by kernel_rfl
set_option maxRecDepth 100000 in
theorem c87_ok : cFunc Try.prog Try.f87 = some c87 := by kernel_rfl
set_option maxRecDepth 100000 in
theorem c88_ok : cFunc Try.prog Try.f88 = some c88 := by kernel_rfl
set_option maxRecDepth 100000 in
theorem c89_ok : cFunc Try.prog Try.f89 = some c89 := by kernel_rfl
set_option maxRecDepth 100000 in
theorem c90_ok : cFunc Try.prog Try.f90 = some c90 := by kernel_rfl
set_option maxRecDepth 100000 in
theorem c91_ok : cFunc Try.prog Try.f91 = some c91 := by kernel_rfl
set_option maxRecDepth 100000 in
theorem c92_ok : cFunc Try.prog Try.f92 = some c92 := by kernel_rfl
theorem c14_nm : (Try.f14.name == "runtime.NumGoroutine") = false := by kernel_rfl
theorem c16_nm : (Try.f16.name == "runtime.NumGoroutine") = false := by kernel_rfl
theorem c17_nm : (Try.f17.name == "runtime.NumGoroutine") = false := by kernel_rfl
theorem c18_nm : (Try.f18.name == "runtime.NumGoroutine") = false := by kernel_rfl
theorem c20_nm : (Try.f20.name == "runtime.NumGoroutine") = false := by kernel_rfl
theorem c22_nm : (Try.f22.name == "runtime.NumGoroutine") = false := by kernel_rfl
theorem c23_nm : (Try.f23.name == "runtime.NumGoroutine") = false := by kernel_rfl
theorem c25_nm : (Try.f25.name == "runtime.NumGoroutine") = false := by kernel_rfl
theorem c27_nm : (Try.f27.name == "runtime.NumGoroutine") = false := by kernel_rfl
theorem c29_nm : (Try.f29.name == "runtime.NumGoroutine") = false := by kernel_rfl
theorem c30_nm : (Try.f30.name == "runtime.NumGoroutine") = false := by kernel_rfl
theorem c32_nm : (Try.f32.name == "runtime.NumGoroutine") = false := by kernel_rfl
theorem c34_nm : (Try.f34.name == "runtime.NumGoroutine") = false := by kernel_rfl
theorem c35_nm : (Try.f35.name == "runtime.NumGoroutine") = false := by kernel_rfl
theorem c36_nm : (Try.f36.name == "runtime.NumGoroutine") = false := by kernel_rfl
theorem c37_nm : (Try.f37.name == "runtime.NumGoroutine") = false := by kernel_rfl
theorem c43_nm : (Try.f43.name == "runtime.NumGoroutine") = false := by kernel_rfl
theorem c49_nm : (Try.f49.name == "runtime.NumGoroutine") = false := by kernel_rfl
theorem c51_nm : (Try.f51.name == "runtime.NumGoroutine") = false := by kernel_rfl
theorem c52_nm : (Try.f52.name == "runtime.NumGoroutine") = false := by kernel_rfl
theorem c53_nm : (Try.f53.name == "runtime.NumGoroutine") = false := by kernel_rfl
theorem c54_nm : (Try.f54.name == "runtime.NumGoroutine") = false := by kernel_rfl
theorem c55_nm : (Try.f55.name == "runtime.NumGoroutine") = false := by kernel_rfl
theorem c56_nm : (Try.f56.name == "runtime.NumGoroutine") = false := by kernel_rfl
theorem c57_nm : (Try.f57.name == "runtime.NumGoroutine") = false := by kernel_rfl
theorem c58_nm : (Try.f58.name == "runtime.NumGoroutine") = false := by kernel_rfl
theorem c59_nm : (Try.f59.name == "runtime.NumGoroutine") = false := by kernel_rfl
theorem c60_nm : (Try.f60.name == "runtime.NumGoroutine") = false := by kernel_rfl
theorem c61_nm : (Try.f61.name == "runtime.NumGoroutine") = false := by kernel_rfl
theorem c62_nm : (Try.f62.name == "runtime.NumGoroutine") = false := by kernel_rfl
theorem c63_nm : (Try.f63.name == "runtime.NumGoroutine") = false := by kernel_rfl
theorem c67_nm : (Try.f67.name == "runtime.NumGoroutine") = false := by kernel_rfl
theorem c68_nm : (Try.f68.name == "runtime.NumGoroutine") = false := by kernel_rfl
theorem c70_nm : (Try.f70.name == "runtime.NumGoroutine") = false := by kernel_rfl
theorem c73_nm : (Try.f73.name == "runtime.NumGoroutine") = false := by kernel_rfl
theorem c74_nm : (Try.f74.name == "runtime.NumGoroutine") = false := by kernel_rfl
theorem c75_nm : (Try.f75.name == "runtime.NumGoroutine") = false := by kernel_rfl
theorem c76_nm : (Try.f76.name == "runtime.NumGoroutine") = false := by kernel_rfl
theorem c77_nm : (Try.f77.name == "runtime.NumGoroutine") = false := by kernel_rfl
theorem c78_nm : (Try.f78.name == "runtime.NumGoroutine") = false := by kernel_rfl
theorem c84_nm : (Try.f84.name == "runtime.NumGoroutine") = false := by kernel_rfl
theorem c85_nm : (Try.f85.name == "runtime.NumGoroutine") = false := by kernel_rfl
theorem c86_nm : (Try.f86.name == "runtime.NumGoroutine") = false := by kernel_rfl
theorem c87_nm : (Try.f87.name == "runtime.NumGoroutine") = false := by kernel_rfl
theorem c88_nm : (Try.f88.name == "runtime.NumGoroutine") = false := by kernel_rfl
theorem c89_nm : (Try.f89.name == "runtime.NumGoroutine") = false := by kernel_rfl
theorem c90_nm : (Try.f90.name == "runtime.NumGoroutine") = false := by kernel_rfl
theorem c91_nm : (Try.f91.name == "runtime.NumGoroutine") = false := by kernel_rfl
theorem c92_nm : (Try.f92.name == "runtime.NumGoroutine") = false := by kernel_rfl
theorem progOk : ProgOk Try.prog prog := by
  refine ⟨by kernel_rfl, fun f af h => ?_⟩
  unfold prog at h
  split at h
  · simp only [Option.some.injEq] at h; subst h; exact ⟨_, Try.func14, c14_ok, c14_nm⟩
  · simp only [Option.some.injEq] at h; subst h; exact ⟨_, Try.func16, c16_ok, c16_nm⟩
  · simp only [Option.some.injEq] at h; subst h; exact ⟨_, Try.func17, c17_ok, c17_nm⟩
  · simp only [Option.some.injEq] at h; subst h; exact ⟨_, Try.func18, c18_ok, c18_nm⟩
  · simp only [Option.some.injEq] at h; subst h; exact ⟨_, Try.func20, c20_ok, c20_nm⟩
  · simp only [Option.some.injEq] at h; subst h; exact ⟨_, Try.func22, c22_ok, c22_nm⟩
  · simp only [Option.some.injEq] at h; subst h; exact ⟨_, Try.func23, c23_ok, c23_nm⟩
  · simp only [Option.some.injEq] at h; subst h; exact ⟨_, Try.func25, c25_ok, c25_nm⟩
  · simp only [Option.some.injEq] at h; subst h; exact ⟨_, Try.func27, c27_ok, c27_nm⟩
  · simp only [Option.some.injEq] at h; subst h; exact ⟨_, Try.func29, c29_ok, c29_nm⟩
  · simp only [Option.some.injEq] at h; subst h; exact ⟨_, Try.func30, c30_ok, c30_nm⟩
  · simp only [Option.some.injEq] at h; subst h; exact ⟨_, Try.func32, c32_ok, c32_nm⟩
  · simp only [Option.some.injEq] at h; subst h; exact ⟨_, Try.func34, c34_ok, c34_nm⟩
  · simp only [Option.some.injEq] at h; subst h; exact ⟨_, Try.func35, c35_ok, c35_nm⟩
  · simp only [Option.some.injEq] at h; subst h; exact ⟨_, Try.func36, c36_ok, c36_nm⟩
  · simp only [Option.some.injEq] at h; subst h; exact ⟨_, Try.func37, c37_ok, c37_nm⟩
  · simp only [Option.some.injEq] at h; subst h; exact ⟨_, Try.func43, c43_ok, c43_nm⟩
  · simp only [Option.some.injEq] at h; subst h; exact ⟨_, Try.func49, c49_ok, c49_nm⟩
  · simp only [Option.some.injEq] at h; subst h; exact ⟨_, Try.func51, c51_ok, c51_nm⟩
  · simp only [Option.some.injEq] at h; subst h; exact ⟨_, Try.func52, c52_ok, c52_nm⟩
  · simp only [Option.some.injEq] at h; subst h; exact ⟨_, Try.func53, c53_ok, c53_nm⟩
  · simp only [Option.some.injEq] at h; subst h; exact ⟨_, Try.func54, c54_ok, c54_nm⟩
  · simp only [Option.some.injEq] at h; subst h; exact ⟨_, Try.func55, c55_ok, c55_nm⟩
  · simp only [Option.some.injEq] at h; subst h; exact ⟨_, Try.func56, c56_ok, c56_nm⟩
  · simp only [Option.some.injEq] at h; subst h; exact ⟨_, Try.func57, c57_ok, c57_nm⟩
  · simp only [Option.some.injEq] at h; subst h; exact ⟨_, Try.func58, c58_ok, c58_nm⟩
  · simp only [Option.some.injEq] at h; subst h; exact ⟨_, Try.func59, c59_ok, c59_nm⟩
  · simp only [Option.some.injEq] at h; subst h; exact ⟨_, Try.func60, c60_ok, c60_nm⟩
  · simp only [Option.some.injEq] at h; subst h; exact ⟨_, Try.func61, c61_ok, c61_nm⟩
  · simp only [Option.some.injEq] at h; subst h; exact ⟨_, Try.func62, c62_ok, c62_nm⟩
  · simp only [Option.some.injEq] at h; subst h; exact ⟨_, Try.func63, c63_ok, c63_nm⟩
  · simp only [Option.some.injEq] at h; subst h; exact ⟨_, Try.func67, c67_ok, c67_nm⟩
  · simp only [Option.some.injEq] at h; subst h; exact ⟨_, Try.func68, c68_ok, c68_nm⟩
  · simp only [Option.some.injEq] at h; subst h; exact ⟨_, Try.func70, c70_ok, c70_nm⟩
  · simp only [Option.some.injEq] at h; subst h; exact ⟨_, Try.func73, c73_ok, c73_nm⟩
  · simp only [Option.some.injEq] at h; subst h; exact ⟨_, Try.func74, c74_ok, c74_nm⟩
  · simp only [Option.some.injEq] at h; subst h; exact ⟨_, Try.func75, c75_ok, c75_nm⟩
  · simp only [Option.some.injEq] at h; subst h; exact ⟨_, Try.func76, c76_ok, c76_nm⟩
  · simp only [Option.some.injEq] at h; subst h; exact ⟨_, Try.func77, c77_ok, c77_nm⟩
  · simp only [Option.some.injEq] at h; subst h; exact ⟨_, Try.func78, c78_ok, c78_nm⟩
  · simp only [Option.some.injEq] at h; subst h; exact ⟨_, Try.func84, c84_ok, c84_nm⟩
  · simp only [Option.some.injEq] at h; subst h; exact ⟨_, Try.func85, c85_ok, c85_nm⟩
  · simp only [Option.some.injEq] at h; subst h; exact ⟨_, Try.func86, c86_ok, c86_nm⟩
  · simp only [Option.some.injEq] at h; subst h; exact ⟨_, Try.func87, c87_ok, c87_nm⟩
  · simp only [Option.some.injEq] at h; subst h; exact ⟨_, Try.func88, c88_ok, c88_nm⟩
  · simp only [Option.some.injEq] at h; subst h; exact ⟨_, Try.func89, c89_ok, c89_nm⟩
  · simp only [Option.some.injEq] at h; subst h; exact ⟨_, Try.func90, c90_ok, c90_nm⟩
  · simp only [Option.some.injEq] at h; subst h; exact ⟨_, Try.func91, c91_ok, c91_nm⟩
  · simp only [Option.some.injEq] at h; subst h; exact ⟨_, Try.func92, c92_ok, c92_nm⟩
  · cases h
end Go.Proofs.Ytihahmggfjjkjaa
namespace Go.Proofs.Ytihahmggfjjkjaa
open Go.AM Go.ChangeShapes Go.WideShapes Go.ChangeAt Go.RowKit
theorem own : ownKnob Try.prog.godebug = none := by kernel_rfl
theorem laidOut : laidOutB Try.prog = true := by kernel_rfl
theorem zeroR : zeroRow Try.prog = true := by kernel_rfl
end Go.Proofs.Ytihahmggfjjkjaa
