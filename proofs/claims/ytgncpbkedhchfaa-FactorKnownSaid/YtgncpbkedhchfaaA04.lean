/- The row FactorKnown: the law of the examples returns true, for every start. -/
import Derived.Test.YtgncpbkedhchfaaA03
set_option linter.unusedVariables false
set_option linter.unusedSimpArgs false
namespace Go.Proofs.Ytgncpbkedhchfaa
open Go.AM Go.IntWalk
set_option maxRecDepth 100000
set_option maxHeartbeats 4000000
set_option linter.unusedSimpArgs false
variable {H : AH} {R : AV → AH → Prop}
abbrev lookE (h : House) (but : Nat) : House := maskE h but.testBit
def pad3 (fs : List Int) : List Int := [getI fs 0, getI fs 1, getI fs 2]
def numsTo (h : House) (fs : List Int) (n : Nat) : List Int := (List.range 4).flatMap fun d => if d < n then [(numbersE h d fs).1, (numbersE h d fs).2] else [0, 0]
def numsE (h : House) (fs : List Int) : List Int := numsTo h fs h.days.length
def argT (h : House) (fs : List Int) : List AV := [.agg ((pad3 fs).map I), .agg ((numsE h fs).map I)]
def ValOk (h : House) (fs : List Int) (v : AV) : Prop := ∃ cs : List Int, v = .agg (cs.map I) ∧ cs.length = 8 ∧ (okE h fs = true → cs = numsE h fs) ∧ (okE h fs = false → 0 < h.days.length ∧ ∃ rest, cs = 1 :: 0 :: rest)
def Cache (h : House) (es : List (AV × AV)) : Prop := ∀ kv ∈ es, ∃ a b c : Int, kv.1 = .agg [I a, I b, I c] ∧ ValOk h [a, b, c] kv.2
theorem eq3 (a b c a' b' c' : Int) : eqFlatA true [.i, .i, .i] (.agg [I a, I b, I c]) (.agg [I a', I b', I c']) = some (a == a' && (b == b' && (c == c' && true))) := by
  simp [eqFlatA, eqCells]
theorem Cache.find {h : House} (a b c : Int) : ∀ {es : List (AV × AV)}, Cache h es → findA true [.i, .i, .i] (.agg [I a, I b, I c]) es = some none ∨ ∃ v, findA true [.i, .i, .i] (.agg [I a, I b, I c]) es = some (some v) ∧ ValOk h [a, b, c] v
  | [], _ => .inl rfl
  | (k, v) :: es, hc => by
    obtain ⟨a', b', c', hk, hv⟩ := hc (k, v) (by simp)
    simp only at hk hv
    subst hk
    simp only [findA, eq3]
    cases he : (a == a' && (b == b' && (c == c' && true))) with
    | true =>
      simp only [Bool.and_eq_true, beq_iff_eq, and_true] at he
      obtain ⟨rfl, rfl, rfl⟩ := he
      exact .inr ⟨v, rfl, hv⟩
    | false => exact Cache.find a b c fun kv hkv => hc kv (by simp [hkv])
theorem Cache.put {h : House} (a b c : Int) {v : AV} (hv : ValOk h [a, b, c] v) : ∀ {es : List (AV × AV)}, Cache h es → ∃ es', putA true [.i, .i, .i] (.agg [I a, I b, I c]) v es = some es' ∧ Cache h es'
  | [], _ => ⟨_, rfl, fun kv hkv => by simp only [List.mem_singleton] at hkv; subst hkv; exact ⟨a, b, c, rfl, hv⟩⟩
  | (k, v') :: es, hc => by
    obtain ⟨a', b', c', hk, hv'⟩ := hc (k, v') (by simp)
    simp only at hk hv'
    subst hk
    simp only [putA, eq3]
    cases he : (a == a' && (b == b' && (c == c' && true))) with
    | true =>
      refine ⟨_, rfl, fun kv hkv => ?_⟩
      rcases List.mem_cons.1 hkv with rfl | hkv
      · exact ⟨a, b, c, rfl, hv⟩
      · exact hc kv (by simp [hkv])
    | false =>
      obtain ⟨es', h1, h2⟩ := Cache.put a b c hv (es := es) fun kv hkv => hc kv (by simp [hkv])
      refine ⟨(.agg [I a', I b', I c'], v') :: es', by simp only [h1, Option.map_some], fun kv hkv => ?_⟩
      rcases List.mem_cons.1 hkv with rfl | hkv
      · exact ⟨a', b', c', rfl, hv'⟩
      · exact h2 kv hkv
structure Ready (N p m bh : Nat) (v1 v2 : AV) (h : House) (but : Nat) (B H : AH) : Prop where
  base : ∀ b, b < N → b ≠ m → H.get b = B.get b
  look : Looked N p m v1 v2 h but H
  cache : ∃ es, H.get m = some (.map es) ∧ Cache (lookE h but) es
  bhn : N ≤ bh
  box : H.get bh = some (.cells false [.ptr p 0])
  lt : bh < H.next
abbrev Kh (N bh : Nat) : Nat → Prop := fun b => b < N ∨ b = bh
theorem Kh.not {N bh b : Nat} (h : ¬ Kh N bh b) : N ≤ b ∧ b ≠ bh := by
  simp only [Kh, not_or] at h; omega
theorem Ready.keep {N p m bh : Nat} {v1 v2 : AV} {h : House} {but : Nat} {B H1 H2 : AH} (hr : Ready N p m bh v1 v2 h but B H1) (hn : H1.next ≤ H2.next) (hs : ∀ b, Kh N bh b → H2.get b = H1.get b) : Ready N p m bh v1 v2 h but B H2 := by
  obtain ⟨base, ⟨a1, a2, a3, a4, a5, a6⟩, ⟨es, b1, b2⟩, c1, c2, c3⟩ := hr
  refine ⟨fun b h1 h2 => by rw [hs b (.inl h1)]; exact base b h1 h2, ⟨by rw [hs _ (.inl a3)]; exact a1, a2.move fun b hb => ⟨hb, hs _ (.inl hb.1)⟩, a3, a4, a5, by omega⟩, ⟨es, by rw [hs _ (.inl a4)]; exact b1, b2⟩, c1, by rw [hs _ (.inr rfl)]; exact c2, by omega⟩
theorem Ready.up {N p m bh : Nat} {v1 v2 : AV} {h : House} {but : Nat} {B H1 H2 : AH} (hr : Ready N p m bh v1 v2 h but B H1) (hg : Grew H1 H2) : Ready N p m bh v1 v2 h but B H2 :=
  hr.keep hg.next fun b hb => hg.get b (by have := hr.lt; have := hr.bhn; rcases hb with h | h <;> omega)
theorem Ready.put {N p m bh : Nat} {v1 v2 : AV} {h : House} {but : Nat} {B H1 : AH} (hr : Ready N p m bh v1 v2 h but B H1) {es : List (AV × AV)} (hc : Cache (lookE h but) es) : Ready N p m bh v1 v2 h but B (H1.set m (.map es)) := by
  obtain ⟨base, ⟨a1, a2, a3, a4, a5, a6⟩, _, c1, c2, c3⟩ := hr
  exact ⟨fun b h1 h2 => by rw [get_set_other h2]; exact base b h1 h2, ⟨by rw [get_set_other a5]; exact a1, a2.move fun b hb => ⟨hb, get_set_other hb.2⟩, a3, a4, a5, a6⟩, ⟨es, get_set_same _ _ _, hc⟩, c1, by rw [get_set_other (by omega)]; exact c2, c3⟩
def compl : List Watcher → List Int → List (List Int)
  | [], pre => [pre]
  | w :: ws, pre => (upTo w.lo w.hi).flatMap fun n => compl ws (pre ++ [n])
theorem compl_fold : ∀ (ws : List Watcher) (out : List (List Int)), ws.foldl allStep out = out.flatMap (compl ws)
  | [], out => by
    simp only [List.foldl_nil]
    induction out with
    | nil => rfl
    | cons a out ih =>
      rw [List.flatMap_cons, ← ih]; rfl
  | w :: ws, out => by
    rw [List.foldl_cons, compl_fold ws, allStep, List.flatMap_assoc]
    congr 1
    funext o
    simp only [allRow, compl, List.flatMap_map]
theorem allE_compl (h : House) : allE h = compl h.ws [] := by
  rw [allE, compl_fold]; simp
def from_ (h : House) (pre : List Int) : List (List Int) := (compl (h.ws.drop pre.length) pre).filter (okE h)
theorem truthsE_from (h : House) : truthsE h = from_ h [] := by rw [truthsE, allE_compl]; rfl
theorem from_step {h : House} {pre : List Int} (hk : pre.length < h.ws.length) : from_ h pre = (upTo h.ws[pre.length].lo h.ws[pre.length].hi).flatMap fun n => from_ h (pre ++ [n]) := by
  unfold from_
  rw [List.drop_eq_getElem_cons hk]
  simp only [compl, List.filter_flatMap, List.length_append, List.length_singleton]
theorem from_end {h : House} {pre : List Int} (hk : pre.length = h.ws.length) : from_ h pre = if okE h pre = true then [pre] else [] := by
  unfold from_
  rw [List.drop_of_length_le (by omega)]
  by_cases ho : okE h pre = true
  · simp [compl, ho]
  · simp [compl, ho]
structure Run (l bh bf bn bd by_ p : Nat) (H : AH) : Prop where
  lt : l < bf ∧ l < bn ∧ l < bd ∧ l < by_
  ne : bf ≠ bn ∧ bf ≠ bd ∧ bf ≠ by_
  bnd : bf < H.next ∧ bn < H.next ∧ bd < H.next ∧ by_ < H.next
  next : H.get bn = some (.cells false [.func 103 [] [.ptr bh 0, .ptr bf 0, .ptr bn 0, .ptr bd 0, .ptr by_ 0]])
  day : H.get bd = some (.cells false [.func 102 [.ptr p 0] []])
  yld : H.get by_ = some (.cells false [.yield l])
theorem Run.keep {l bh bf bn bd by_ p : Nat} {H1 H2 : AH} (hr : Run l bh bf bn bd by_ p H1) (hn : H1.next ≤ H2.next) (hs : ∀ b, l < b → b < H1.next → b ≠ bf → H2.get b = H1.get b) : Run l bh bf bn bd by_ p H2 := by
  obtain ⟨⟨a1, a2, a3, a4⟩, ⟨b1, b2, b3⟩, ⟨c1, c2, c3, c4⟩, d1, d2, d3⟩ := hr
  exact ⟨⟨a1, a2, a3, a4⟩, ⟨b1, b2, b3⟩, ⟨by omega, by omega, by omega, by omega⟩, by rw [hs _ a2 c2 (Ne.symm b1)]; exact d1, by rw [hs _ a3 c3 (Ne.symm b2)]; exact d2, by rw [hs _ a4 c4 (Ne.symm b3)]; exact d3⟩
structure Fac (n bf : Nat) (pre : List Int) (H : AH) : Prop where
  ex : ∃ arr : List Int, arr.length = 3 ∧ arr.take pre.length = pre ∧ (∀ j (hj : j < arr.length), n ≤ j → arr[j] = 0) ∧ H.get bf = some (.cells false (arr.map I))
theorem upTo_split {lo f hi : Int} (h1 : lo ≤ f) (h2 : f ≤ hi) : upTo lo hi = upTo lo (f - 1) ++ (f :: upTo (f + 1) hi) := by
  unfold upTo
  have e1 : (hi + 1 - lo).toNat = (f - lo).toNat + ((hi + 1 - (f + 1)).toNat + 1) := by omega
  have e2 : (f - 1 + 1 - lo).toNat = (f - lo).toNat := by omega
  rw [e1, e2, List.range_add, List.map_append]
  congr 1
  rw [List.map_map, List.range_succ_eq_map, List.map_cons, List.map_map]
  congr 1
  · simp; omega
  · refine List.map_congr_left fun i _ => ?_
    simp; omega
theorem rdWf {vs : List AV} {i : Nat} {w : Watcher} (h : (vs.drop i).take 4 = w.cells) : (vs.drop (i + 1)).take 2 = [I w.lo, I w.hi] := by
  have := congrArg (fun l => (l.drop 1).take 2) h
  simp only [List.drop_take, List.drop_drop, List.take_take, Watcher.cells] at this
  exact this
theorem Fac.push {n bf : Nat} {pre : List Int} {H : AH} (hf : Fac n bf pre H) (hn : pre.length < n) (h3 : n ≤ 3) (f : Int) : ∃ vs vs', H.get bf = some (.cells false vs) ∧ writeN vs pre.length [I f] = some vs' ∧ Fac n bf (pre ++ [f]) (H.set bf (.cells false vs')) := by
  obtain ⟨arr, h1, h2, h4, h5⟩ := hf
  have hw : ∀ (arr : List Int) (k : Nat), k < arr.length → writeN (arr.map I) k [I f] = some ((arr.set k f).map I) := fun arr => by
    induction arr with
    | nil => intro k hk; simp at hk
    | cons a arr ih =>
      intro k hk
      cases k with
      | zero => simp [writeN, writeN_nil]
      | succ k => simp [writeN, ih k (by simpa using hk)]
  refine ⟨_, _, h5, hw arr pre.length (by omega), ⟨arr.set pre.length f, by simp [h1], ?_, fun j hj hnj => ?_, get_set_same _ _ _⟩⟩
  · rw [List.length_append, List.length_singleton, List.take_succ_eq_append_getElem (by simp; omega), List.getElem_set_self, List.take_set_of_le (Nat.le_refl _), h2]
  · rw [List.getElem_set_ne (by omega)]
    exact h4 j (by simpa using hj) hnj
theorem Fac.pop {n bf : Nat} {pre : List Int} {f : Int} {H : AH} (hf : Fac n bf (pre ++ [f]) H) : Fac n bf pre H := by
  obtain ⟨arr, h1, h2, h4, h5⟩ := hf
  refine ⟨arr, h1, ?_, h4, h5⟩
  have := congrArg (List.take pre.length) h2
  rw [List.take_take, Nat.min_eq_left (by simp)] at this
  simpa using this
theorem eight {l : List Int} (h : l.length = 8) : ∃ x0 x1 x2 x3 x4 x5 x6 x7, l = [x0, x1, x2, x3, x4, x5, x6, x7] := by
  match l, h with
  | [x0, x1, x2, x3, x4, x5, x6, x7], _ => exact ⟨_, _, _, _, _, _, _, _, rfl⟩
theorem nums_length {h : House} {fs : List Int} {n : Nat} : (numsTo h fs n).length = 8 := by
  simp only [numsTo, show List.range 4 = [0, 1, 2, 3] from rfl, List.flatMap_cons, List.flatMap_nil, List.length_append, List.length_nil]
  have : ∀ d, (if d < n then [(numbersE h d fs).1, (numbersE h d fs).2] else [0, 0]).length = 2 := fun d => by split <;> rfl
  simp only [this]
theorem nums_write {h : House} {fs : List Int} {d : Nat} (hd : d < 4) : writeN ((numsTo h fs d).map I) (d * 2) [I (numbersE h d fs).1, I (numbersE h d fs).2] = some ((numsTo h fs (d + 1)).map I) := by
  match d, hd with
  | 0, _ => rfl
  | 1, _ => rfl
  | 2, _ => rfl
  | 3, _ => rfl
theorem nums_read {h : House} {fs : List Int} {d : Nat} (hd : d < 4) : ((numsTo h fs (d + 1)).map I)[d * 2]? = some (I (numbersE h d fs).1) ∧ ((numsTo h fs (d + 1)).map I)[d * 2 + 1]? = some (I (numbersE h d fs).2) := by
  match d, hd with
  | 0, _ => exact ⟨rfl, rfl⟩
  | 1, _ => exact ⟨rfl, rfl⟩
  | 2, _ => exact ⟨rfl, rfl⟩
  | 3, _ => exact ⟨rfl, rfl⟩
theorem nums_bad {h : House} {fs : List Int} {n : Nat} : ∃ rest, rest.length = 6 ∧ writeN ((numsTo h fs n).map I) 0 [I 1, I 0] = some ((1 :: 0 :: rest : List Int).map I) := by
  obtain ⟨x0, x1, x2, x3, x4, x5, x6, x7, he⟩ := eight (nums_length (h := h) (fs := fs) (n := n))
  exact ⟨[x2, x3, x4, x5, x6, x7], rfl, by rw [he]; rfl⟩
theorem same_numbers {h : House} {fs gs : List Int} (ht : fs.take h.ws.length = gs.take h.ws.length) (d : Nat) : numbersE h d fs = numbersE h d gs := by
  unfold numbersE
  rw [← narrowAll_short (fs := fs) (Nat.le_refl _), ← narrowAll_short (fs := gs) (Nat.le_refl _), ht]
theorem Fac.pad {n bf : Nat} {pre : List Int} {H : AH} (hf : Fac n bf pre H) (hn : pre.length = n) (h3 : n ≤ 3) : H.get bf = some (.cells false ((pad3 pre).map I)) ∧ (pad3 pre).take n = pre := by
  obtain ⟨arr, h1, h2, h4, h5⟩ := hf
  have : arr = pad3 pre := by
    refine List.ext_getElem (by simp [pad3, h1]) fun j hj hj' => ?_
    have hg : (pad3 pre)[j] = getI pre j := by
      rcases (show j = 0 ∨ j = 1 ∨ j = 2 by omega) with rfl | rfl | rfl <;> rfl
    rw [hg]
    by_cases hjn : j < pre.length
    · have := congrArg (fun l => l[j]?) h2
      simp only [List.getElem?_take, hjn, if_true, List.getElem?_eq_getElem hj, List.getElem?_eq_getElem hjn, Option.some.injEq] at this
      rw [getI_eq hjn]; exact this
    · rw [h4 j hj (by omega)]
      simp [getI, List.getD_eq_getElem?_getD, List.getElem?_eq_none (show pre.length ≤ j by omega)]
  subst this
  exact ⟨h5, by rw [← hn]; exact h2⟩
theorem pad3_in {pre : List Int} (h : ∀ f ∈ pre, 1 ≤ f ∧ f ≤ 300) (j : Nat) : 0 ≤ getI pre j ∧ getI pre j ≤ 1000 := by
  by_cases hj : j < pre.length
  · rw [getI_eq hj]; have := h _ (List.getElem_mem hj); omega
  · simp [getI, List.getD_eq_getElem?_getD, List.getElem?_eq_none (show pre.length ≤ j by omega)]
theorem nums_head {h : House} {fs : List Int} {x0 x1 : Int} {rest : List Int} (he : x0 :: x1 :: rest = numsE h fs) (hd : 0 < h.days.length) : x0 = (numbersE h 0 fs).1 ∧ x1 = (numbersE h 0 fs).2 := by
  simp only [numsE, numsTo, show List.range 4 = [0, 1, 2, 3] from rfl, List.flatMap_cons, hd, if_true, List.cons_append, List.cons.injEq] at he
  exact ⟨he.1, he.2.1⟩
theorem okE_first {h : House} {fs : List Int} (ho : okE h fs = true) (hd : 0 < h.days.length) : (numbersE h 0 fs).1 ≤ (numbersE h 0 fs).2 := by
  simp only [okE, List.all_eq_true] at ho
  simpa [okDay] using ho 0 (by simpa using hd)
theorem next_run {N p m bh l bf bn bd by_ : Nat} {v1 v2 : AV} {h : House} {but : Nat} {B : AH} (hfine : Fine h) (hbut : but < 4096) (hl : bh < l)
    (Y : List (List AV) → AH → Prop) (S : AH → Prop) (hY : ∀ done, On (Kh N bh) (l + 1) (Y done)) (hS : On (Kh N bh) (l + 1) S)
    (hy : ∀ done a rest H1, (truthsE (lookE h but)).map (argT (lookE h but)) = done ++ a :: rest → l < H1.next → Ready N p m bh v1 v2 h but B H1 → Y done H1 →
      CallQ prog (.yield l) a H1 fun v H2 => Kept (Kh N bh) l H1 H2 ∧ ((v = .bool true ∧ Y (done ++ [a]) H2) ∨ (v = .bool false ∧ S H2))) :
    ∀ (k : Nat) (pre : List Int) (done rest : List (List AV)) (H1 : AH) (R : AV → AH → Prop), pre.length + k = h.ws.length → (∀ f ∈ pre, 1 ≤ f ∧ f ≤ 300) →
      (truthsE (lookE h but)).map (argT (lookE h but)) = done ++ (from_ (lookE h but) pre).map (argT (lookE h but)) ++ rest → l < H1.next → Ready N p m bh v1 v2 h but B H1 → Run l bh bf bn bd by_ p H1 → Fac h.ws.length bf pre H1 → Y done H1 →
      (∀ v H2, H1.next ≤ H2.next → Ready N p m bh v1 v2 h but B H2 → (∀ b, l < b → b < H1.next → b ≠ bf → H2.get b = H1.get b) → Fac h.ws.length bf pre H2 →
        ((v = .bool true ∧ Y (done ++ (from_ (lookE h but) pre).map (argT (lookE h but))) H2) ∨ (v = .bool false ∧ S H2)) → R v H2) →
      CallQ prog (.func 103 [] [.ptr bh 0, .ptr bf 0, .ptr bn 0, .ptr bd 0, .ptr by_ 0]) [I pre.length] H1 R := by
  intro k
  have hw3 := hfine.ws
  induction k with
  | zero =>
    intro pre done rest H1 R hk hpre hL hlt hr hrun hfac hyd kk
    have hpn : pre.length = h.ws.length := by omega
    have hold := hr.look.old
    have hbox := hr.box
    have hbox2 := hr.look.box
    have hd4 := hfine.days
    obtain ⟨hbf, htk⟩ := hfac.pad hpn hw3
    have hsame := fun d => same_numbers (h := lookE h but) (fs := pad3 pre) (gs := pre) (by show (pad3 pre).take h.ws.length = pre.take h.ws.length; rw [htk, List.take_of_length_le (by omega)]) d
    have hokE : okE (lookE h but) (pad3 pre) = okE (lookE h but) pre := by
      simp only [okE]; congr 1; funext d; simp only [okDay, hsame]
    have hnums : ∀ n, numsTo (lookE h but) (pad3 pre) n = numsTo (lookE h but) pre n := fun n => by simp only [numsTo, hsame]
    have harg : argT (lookE h but) pre = [.agg ((pad3 pre).map I), .agg ((numsE (lookE h but) (pad3 pre)).map I)] := by rw [argT, numsE, numsE, hnums]
    have hend := from_end (h := lookE h but) hpn
    rw [← hokE] at hend
    have pa := pad3_in hpre 0
    have pb := pad3_in hpre 1
    have pc := pad3_in hpre 2
    have hp3 : pad3 pre = [getI pre 0, getI pre 1, getI pre 2] := rfl
    rw [hp3] at hbf hokE hnums harg hend
    generalize getI pre 0 = a at *
    generalize getI pre 1 = b at *
    generalize getI pre 2 = c at *
    simp only [List.map_cons, List.map_nil] at hbf harg
    obtain ⟨es, hm, hca⟩ := hr.cache
    have hn1 := hrun.bnd
    have hn2 := hrun.lt
    have hbhlt := hr.lt
    have hpl := hr.look.plt
    have hbn := hr.bhn
    have hml := hr.look.mlt
    have hpm := hr.look.pm
    have hfl : ¬ (h.ws.length : Int) < h.ws.length := by omega
    rw [hpn]
    refine CallQ_enter (fn:=c103) rfl (Nat.le_of_ble_eq_true rfl) ?_;simp(maxSteps:=9999999)(disch:=first|omega|(simp only[AN];omega))only[c103,envFrom,hbox,hbox2,hold.1.len,hfl,↓KP,EK,↓reduceIte,reduceCtorEq,Nat.reduceEqDiff,Nat.reduceAdd,Nat.reduceLeDiff,Nat.reduceMul]
    have hyl := hrun.yld
    have hok0 : h.days.length = 0 → okE (lookE h but) [a, b, c] = true := fun h0 => by
      simp only [okE, maskE_length, h0]; rfl
    have fin : ∀ (Hc : AH), H1.next ≤ Hc.next → Ready N p m bh v1 v2 h but B Hc → (∀ b, N ≤ b → b < H1.next → Hc.get b = H1.get b) →
        (okE (lookE h but) [a, b, c] = false → R (.bool true) Hc) ∧
        (∀ cs, cs = numsE (lookE h but) [a, b, c] → okE (lookE h but) [a, b, c] = true → CallQ prog (.yield l) [.agg [I a, I b, I c], .agg (cs.map I)] Hc R) := fun Hc hn hrc hs => by
      have hF : ∀ H2 : AH, H2.get bf = Hc.get bf → Fac h.ws.length bf pre H2 := fun H2 e => by
        obtain ⟨arr, b1, b2, b3, b4⟩ := hfac
        exact ⟨arr, b1, b2, b3, by rw [e, hs _ (by omega) hn1.1]; exact b4⟩
      have hyc : Y done Hc := hY done H1 Hc hn (fun b h1 h2 => hs b (Kh.not h1).1 (by omega)) hyd
      refine ⟨fun ho => ?_, fun cs hcs ho => ?_⟩
      · rw [if_neg (by simp [ho])] at hend
        exact kk _ _ hn hrc (fun b h1 h2 _ => hs b (by omega) h2) (hF _ rfl) (.inl ⟨rfl, by rw [hend]; simpa using hyc⟩)
      · rw [if_pos ho] at hend
        rw [hcs, ← harg]
        refine (hy done _ rest Hc (by rw [hL, hend]; simp) (by omega) hrc hyc).mono fun v H2 hx => ?_
        obtain ⟨⟨k1, k2⟩, hor⟩ := hx
        refine kk v H2 (by omega) (hrc.keep k1 fun b hb => k2 b (by rcases hb with h | h <;> omega) (.inl hb)) (fun b h1 h2 _ => by rw [k2 b (by omega) (.inr h1), hs b (by omega) h2]) (hF _ (k2 _ (by omega) (.inr (by omega)))) ?_
        rw [hend]
        simpa using hor
    rcases hca.find a b c with hfi | ⟨v, hfi, cs, rfl, hcl, hc1, hc2⟩
    · refine K_draw ?_;simp(maxSteps:=9999999)(disch:=first|omega|(simp only[AN];omega))only[hbox,hbox2,hbf,hm,hfi,opLookup,eq3,hold.2.len,↓KP,EK,↓reduceIte,reduceCtorEq,Nat.reduceEqDiff,Nat.reduceAdd,Nat.reduceLeDiff,Nat.reduceMul]
      have hz0 : okE (lookE h but) [a, b, c] = (List.range h.days.length).all (okDay (lookE h but) [a, b, c]) := by rw [okE, maskE_length]
      have hix0 : ∀ S, opIdxArr 4 2 (.ptr H1.next 0) (.int .i64 0) S = some (.ptr H1.next 0, S) := fun S => rfl
      have hnE : numsE (lookE h but) [a, b, c] = numsTo (lookE h but) [a, b, c] h.days.length := by rw [numsE, maskE_length]
      refine K_loop (fun mz ez H2 => ∃ (d : Nat) (tail : Env), ez = (0, I h.ws.length) :: (1, .ptr bh 0) :: (2, .ptr bf 0) :: (3, .ptr bn 0) :: (4, .ptr bd 0) :: (5, .ptr by_ 0) :: (7, .bool false) :: (20, .bool false) :: (10, .ptr H1.next 0) :: (11, .bool false) :: (56, .bool true) :: (62, I h.days.length) :: (63, I d) :: tail ∧ (H1.next < H2.next) ∧ (Ready N p m bh v1 v2 h but B H2) ∧ (∀ b, N ≤ b → b < H1.next → H2.get b = H1.get b) ∧ (H2.get H1.next = some (.cells false ((numsTo (lookE h but) [a, b, c] d).map I))) ∧ (H2.get m = some (.map es)) ∧ ((List.range d).all (okDay (lookE h but) [a, b, c]) = true) ∧ (d ≤ h.days.length) ∧ mz = h.days.length - d) _ ⟨0, _, rfl, ?_, (by exact hr.up GW), (by intro b h1 h2; simp(maxSteps:=9999999)(disch:=first|omega|(simp only[AN];omega))only[↓KP,EK,↓reduceIte,reduceCtorEq,Nat.reduceEqDiff,Nat.reduceAdd,Nat.reduceLeDiff,Nat.reduceMul]), (by simp(maxSteps:=9999999)(disch:=first|omega|(simp only[AN];omega))only[↓KP,EK,↓reduceIte,reduceCtorEq,Nat.reduceEqDiff,Nat.reduceAdd,Nat.reduceLeDiff,Nat.reduceMul]; rfl), (by simp(maxSteps:=9999999)(disch:=first|omega|(simp only[AN];omega))only[hm,↓KP,EK,↓reduceIte,reduceCtorEq,Nat.reduceEqDiff,Nat.reduceAdd,Nat.reduceLeDiff,Nat.reduceMul]), ?_, ?_, rfl⟩ ?_
      iterate 3 (focus (first|(with_reducible rfl)|omega|(with_reducible(repeat first|exact Grew.refl _|assumption|apply Grew.alloc|refine Grew.set ?_ _ (by first|omega|(simp only[AN];omega)));done)|(simp(maxSteps:=9999999)(disch:=first|omega|(simp only[AN];omega))only[↓KP,EK,↓reduceIte,reduceCtorEq,Nat.reduceEqDiff,Nat.reduceAdd,Nat.reduceLeDiff,Nat.reduceMul]<;>first|omega|rfl)|(simp;done)|rfl))
      rintro mz ez H2 ⟨d, tail, rfl, hn, hr2, hs2, h10, hm2, hall, hd, hmz⟩; subst mz
      have hbx := hr2.box
      have hbx2 := hr2.look.box
      simp(maxSteps:=9999999)(disch:=first|omega|(simp only[AN];omega))only[↓KP,EK,↓reduceIte,reduceCtorEq,Nat.reduceEqDiff,Nat.reduceAdd,Nat.reduceLeDiff,Nat.reduceMul]
      refine C_decide (fun hc => ?_) (fun hc => ?_)
      · have hd' : d < h.days.length := by omega
        have hbd2 : H2.get bd = some (.cells false [.func 102 [.ptr p 0] []]) := by rw [hs2 _ (by omega) (by omega)]; exact hrun.day
        have hbf2 : H2.get bf = some (.cells false [I a, I b, I c]) := by rw [hs2 _ (by omega) (by omega)]; exact hbf
        have hixd : ∀ S, opIdxArr 4 2 (.ptr H1.next 0) (I d) S = some (.ptr H1.next (d * 2), S) := fun S => by
          have : d < 4 := by omega
          simp [opIdxArr, natOf, this]
        have hw := nums_write (h := lookE h but) (fs := [a, b, c]) (d := d) (by omega)
        obtain ⟨hrd1, hrd2⟩ := nums_read (h := lookE h but) (fs := [a, b, c]) (d := d) (by omega)
        have e1 : IntKind.i64.wrap ((d : Int) + 1) = ((d + 1 : Nat) : Int) := i64_in _ (by omega)
        simp(maxSteps:=9999999)(disch:=first|omega|(simp only[AN];omega))only[hbd2,hbf2,↓KP,EK,↓reduceIte,reduceCtorEq,Nat.reduceEqDiff,Nat.reduceAdd,Nat.reduceLeDiff,Nat.reduceMul]
        first|refine C_call ?_|refine C_calld ?_
        refine day_run a b c d hr2.look hfine hbut hd' pa pb pc fun H3 hg3 => ?_
        have hg3n:=hg3.next;try simp only[AN]at hg3n
        simp(maxSteps:=9999999)(disch:=first|omega|(simp only[AN];omega))only[hg3.get,hixd,h10,hw,↓KP,EK,↓reduceIte,reduceCtorEq,Nat.reduceEqDiff,Nat.reduceAdd,Nat.reduceLeDiff,Nat.reduceMul]
        refine K_draw ?_;simp(maxSteps:=9999999)(disch:=first|omega|(simp only[AN];omega))only[hg3.get,hixd,h10,hrd1,hrd2,↓KP,EK,↓reduceIte,reduceCtorEq,Nat.reduceEqDiff,Nat.reduceAdd,Nat.reduceLeDiff,Nat.reduceMul]
        refine C_decide (fun hbad => ?_) (fun hbad => ?_)
        · obtain ⟨r, hr6, hwb⟩ := nums_bad (h := lookE h but) (fs := [a, b, c]) (n := d + 1)
          have hob : okE (lookE h but) [a, b, c] = false := by
            rw [hz0]
            refine all_range_le (n := d + 1) (by omega) ?_
            rw [all_range_succ, hall]; simp [okDay]; omega
          have : ∃ r0 r1 r2 r3 r4 r5, r = [r0, r1, r2, r3, r4, r5] := by
            match r, hr6 with
            | [r0, r1, r2, r3, r4, r5], _ => exact ⟨_, _, _, _, _, _, rfl⟩
          obtain ⟨r0, r1, r2, r3, r4, r5, rfl⟩ := this
          have hval : ValOk (lookE h but) [a, b, c] (.agg [I 1, I 0, I r0, I r1, I r2, I r3, I r4, I r5]) := ⟨[1, 0, r0, r1, r2, r3, r4, r5], rfl, rfl, fun e => (by rw [hob] at e; cases e), fun _ => ⟨by rw [maskE_length]; omega, _, rfl⟩⟩
          obtain ⟨es', hput, hca'⟩ := hca.put a b c hval
          have hx : eqFlatA true [.i, .i] (.agg [I 1, I 0]) (.agg [I 1, I 0]) = some true := rfl
          have h0 : (0 : Int) < h.days.length := by omega
          simp only [List.map_cons, List.map_nil] at hwb
          have hbf2' := hbf2
          simp(maxSteps:=9999999)(disch:=first|omega|(simp only[AN];omega))only[hix0,hwb,h10,↓KP,EK,↓reduceIte,reduceCtorEq,Nat.reduceEqDiff,Nat.reduceAdd,Nat.reduceLeDiff,Nat.reduceMul]
          have hr4 := (((hr2.up hg3).keep (H2 := H3.set H1.next (.cells false ((numsTo (lookE h but) [a, b, c] (d + 1)).map I))) (Nat.le_refl _) (fun b hb => by have hb2 : b < H1.next := by { rcases hb with h | h <;> omega }; simp(maxSteps:=9999999)(disch:=first|omega|(simp only[AN];omega))only[↓KP,EK,↓reduceIte,reduceCtorEq,Nat.reduceEqDiff,Nat.reduceAdd,Nat.reduceLeDiff,Nat.reduceMul])).keep (H2 := (H3.set H1.next (.cells false ((numsTo (lookE h but) [a, b, c] (d + 1)).map I))).set H1.next (.cells false [I 1, I 0, I r0, I r1, I r2, I r3, I r4, I r5])) (Nat.le_refl _) (fun b hb => by have hb2 : b < H1.next := by { rcases hb with h | h <;> omega }; simp(maxSteps:=9999999)(disch:=first|omega|(simp only[AN];omega))only[↓KP,EK,↓reduceIte,reduceCtorEq,Nat.reduceEqDiff,Nat.reduceAdd,Nat.reduceLeDiff,Nat.reduceMul])).put hca'
          refine K_draw ?_;simp(maxSteps:=9999999)(disch:=first|omega|(simp only[AN];omega))only[hg3.get,hbx,hbx2,hbf2,hm2,hput,opUpdate,eq3,beq_self_eq_true,hold.2.len,h0,hix0,hx,↓KP,EK,↓reduceIte,reduceCtorEq,Nat.reduceEqDiff,Nat.reduceAdd,Nat.reduceLeDiff,Nat.reduceMul]
          refine (fin _ ?_ hr4 ?_).1 hob
          · simp(maxSteps:=9999999)(disch:=first|omega|(simp only[AN];omega))only[↓KP,EK,↓reduceIte,reduceCtorEq,Nat.reduceEqDiff,Nat.reduceAdd,Nat.reduceLeDiff,Nat.reduceMul]; omega
          · intro b h1 h2; simp(maxSteps:=9999999)(disch:=first|omega|(simp only[AN];omega))only[hg3.get,hs2,↓KP,EK,↓reduceIte,reduceCtorEq,Nat.reduceEqDiff,Nat.reduceAdd,Nat.reduceLeDiff,Nat.reduceMul]
        · simp(maxSteps:=9999999)(disch:=first|omega|(simp only[AN];omega))only[e1,↓KP,EK,↓reduceIte,reduceCtorEq,Nat.reduceEqDiff,Nat.reduceAdd,Nat.reduceLeDiff,Nat.reduceMul]
          refine ⟨_, ?_, d + 1, _, rfl, ?_, (by exact (hr2.up hg3).keep (Nat.le_refl _) (fun b hb => by have hb2 : b < H1.next := by { rcases hb with h | h <;> omega }; simp(maxSteps:=9999999)(disch:=first|omega|(simp only[AN];omega))only[↓KP,EK,↓reduceIte,reduceCtorEq,Nat.reduceEqDiff,Nat.reduceAdd,Nat.reduceLeDiff,Nat.reduceMul])), (by intro b h1 h2; simp(maxSteps:=9999999)(disch:=first|omega|(simp only[AN];omega))only[hg3.get,hs2,↓KP,EK,↓reduceIte,reduceCtorEq,Nat.reduceEqDiff,Nat.reduceAdd,Nat.reduceLeDiff,Nat.reduceMul]), ?_, (by simp(maxSteps:=9999999)(disch:=first|omega|(simp only[AN];omega))only[hg3.get,hm2,↓KP,EK,↓reduceIte,reduceCtorEq,Nat.reduceEqDiff,Nat.reduceAdd,Nat.reduceLeDiff,Nat.reduceMul]), (by rw [all_range_succ, hall]; simp [okDay]; omega), ?_, rfl⟩ <;> (first|omega|(with_reducible assumption)|(with_reducible(repeat first|exact Grew.refl _|assumption|apply Grew.alloc|refine Grew.set ?_ _ (by first|omega|(simp only[AN];omega)));done)|(simp(maxSteps:=9999999)(disch:=first|omega|(simp only[AN];omega))only[hg3.get,↓KP,EK,↓reduceIte,reduceCtorEq,Nat.reduceEqDiff,Nat.reduceAdd,Nat.reduceLeDiff,Nat.reduceMul]<;>first|omega|rfl))
      · have hde : d = h.days.length := by omega
        subst hde
        have ho : okE (lookE h but) [a, b, c] = true := by rw [hz0]; exact hall
        rw [← hnE] at h10
        obtain ⟨x0, x1, x2, x3, x4, x5, x6, x7, he⟩ := eight (show (numsE (lookE h but) [a, b, c]).length = 8 from nums_length)
        have hval : ValOk (lookE h but) [a, b, c] (.agg [I x0, I x1, I x2, I x3, I x4, I x5, I x6, I x7]) := ⟨_, rfl, rfl, fun _ => he.symm, fun e => (by rw [ho] at e; cases e)⟩
        obtain ⟨es', hput, hca'⟩ := hca.put a b c hval
        rw [he] at h10
        simp only [List.map_cons, List.map_nil] at h10
        have hbf2 : H2.get bf = some (.cells false [I a, I b, I c]) := by rw [hs2 _ (by omega) (by omega)]; exact hbf
        simp(maxSteps:=9999999)(disch:=first|omega|(simp only[AN];omega))only[↓KP,EK,↓reduceIte,reduceCtorEq,Nat.reduceEqDiff,Nat.reduceAdd,Nat.reduceLeDiff,Nat.reduceMul]
        have hyl2 : H2.get by_ = some (.cells false [.yield l]) := by rw [hs2 _ (by omega) (by omega)]; exact hyl
        have hr4 := hr2.put hca'
        by_cases h0 : (0 : Int) < h.days.length
        · have hno : ¬ (x0 = 1 ∧ x1 = 0) := fun e => by
            have h1 := nums_head he.symm
            have h2 := okE_first ho (show 0 < (lookE h but).days.length by rw [maskE_length]; omega)
            rw [← (h1 (by rw [maskE_length]; omega)).1, ← (h1 (by rw [maskE_length]; omega)).2] at h2
            omega
          have hx : eqFlatA true [.i, .i] (.agg [I x0, I x1]) (.agg [I 1, I 0]) = some false := by
            simp [eqFlatA, eqCells]; omega
          refine K_draw ?_;simp(maxSteps:=9999999)(disch:=first|omega|(simp only[AN];omega))only[hbx,hbx2,hbf2,hm2,h10,hput,opUpdate,eq3,beq_self_eq_true,hold.2.len,h0,hix0,hx,hyl2,↓KP,EK,↓reduceIte,reduceCtorEq,Nat.reduceEqDiff,Nat.reduceAdd,Nat.reduceLeDiff,Nat.reduceMul]
          refine C_call (CallQ.mono ((fin _ ?_ hr4 ?_).2 _ he.symm ho) fun v H2 hv => ?_)
          · simp(maxSteps:=9999999)(disch:=first|omega|(simp only[AN];omega))only[↓KP,EK,↓reduceIte,reduceCtorEq,Nat.reduceEqDiff,Nat.reduceAdd,Nat.reduceLeDiff,Nat.reduceMul]; omega
          · intro b h1 h2; simp(maxSteps:=9999999)(disch:=first|omega|(simp only[AN];omega))only[hs2,↓KP,EK,↓reduceIte,reduceCtorEq,Nat.reduceEqDiff,Nat.reduceAdd,Nat.reduceLeDiff,Nat.reduceMul]
          · simp(maxSteps:=9999999)(disch:=first|omega|(simp only[AN];omega))only[↓KP,EK,↓reduceIte,reduceCtorEq,Nat.reduceEqDiff,Nat.reduceAdd,Nat.reduceLeDiff,Nat.reduceMul]
            exact hv
        · refine K_draw ?_;simp(maxSteps:=9999999)(disch:=first|omega|(simp only[AN];omega))only[hbx,hbx2,hbf2,hm2,h10,hput,opUpdate,eq3,beq_self_eq_true,hold.2.len,h0,hix0,hyl2,↓KP,EK,↓reduceIte,reduceCtorEq,Nat.reduceEqDiff,Nat.reduceAdd,Nat.reduceLeDiff,Nat.reduceMul]
          refine C_call (CallQ.mono ((fin _ ?_ hr4 ?_).2 _ he.symm ho) fun v H2 hv => ?_)
          · simp(maxSteps:=9999999)(disch:=first|omega|(simp only[AN];omega))only[↓KP,EK,↓reduceIte,reduceCtorEq,Nat.reduceEqDiff,Nat.reduceAdd,Nat.reduceLeDiff,Nat.reduceMul]; omega
          · intro b h1 h2; simp(maxSteps:=9999999)(disch:=first|omega|(simp only[AN];omega))only[hs2,↓KP,EK,↓reduceIte,reduceCtorEq,Nat.reduceEqDiff,Nat.reduceAdd,Nat.reduceLeDiff,Nat.reduceMul]
          · simp(maxSteps:=9999999)(disch:=first|omega|(simp only[AN];omega))only[↓KP,EK,↓reduceIte,reduceCtorEq,Nat.reduceEqDiff,Nat.reduceAdd,Nat.reduceLeDiff,Nat.reduceMul]
            exact hv
    · obtain ⟨x0, x1, x2, x3, x4, x5, x6, x7, rfl⟩ := eight hcl
      simp only [List.map_cons, List.map_nil] at hfi
      have hi0 : ∀ S, opIdxArr 4 2 (.ptr H1.next 0) (.int .i64 0) S = some (.ptr H1.next 0, S) := fun S => rfl
      by_cases h0 : (0 : Int) < h.days.length
      · cases ho : okE (lookE h but) [a, b, c] with
        | false =>
          obtain ⟨_, rest', hr'⟩ := hc2 ho
          simp only [List.cons.injEq] at hr'
          obtain ⟨rfl, rfl, _⟩ := hr'
          have hx : eqFlatA true [.i, .i] (.agg [I 1, I 0]) (.agg [I 1, I 0]) = some true := rfl
          refine K_draw ?_;simp(maxSteps:=9999999)(disch:=first|omega|(simp only[AN];omega))only[hbox,hbox2,hbf,hm,hfi,opLookup,eq3,hold.2.len,h0,hi0,hx,↓KP,EK,↓reduceIte,reduceCtorEq,Nat.reduceEqDiff,Nat.reduceAdd,Nat.reduceLeDiff,Nat.reduceMul]
          refine (fin _ ?_ ?_ ?_).1 ho
          · simp(maxSteps:=9999999)(disch:=first|omega|(simp only[AN];omega))only[↓KP,EK,↓reduceIte,reduceCtorEq,Nat.reduceEqDiff,Nat.reduceAdd,Nat.reduceLeDiff,Nat.reduceMul]; omega
          · exact hr.up GW
          · intro b h1 h2; simp(maxSteps:=9999999)(disch:=first|omega|(simp only[AN];omega))only[↓KP,EK,↓reduceIte,reduceCtorEq,Nat.reduceEqDiff,Nat.reduceAdd,Nat.reduceLeDiff,Nat.reduceMul]
        | true =>
          have hno : ¬ (x0 = 1 ∧ x1 = 0) := fun e => by
            have h1 := nums_head (hc1 ho)
            have h2 := okE_first ho (show 0 < (lookE h but).days.length by rw [maskE_length]; omega)
            rw [← (h1 (by rw [maskE_length]; omega)).1, ← (h1 (by rw [maskE_length]; omega)).2] at h2
            omega
          have hx : eqFlatA true [.i, .i] (.agg [I x0, I x1]) (.agg [I 1, I 0]) = some false := by
            simp [eqFlatA, eqCells]; omega
          refine K_draw ?_;simp(maxSteps:=9999999)(disch:=first|omega|(simp only[AN];omega))only[hbox,hbox2,hbf,hm,hfi,opLookup,eq3,hold.2.len,h0,hi0,hx,hyl,↓KP,EK,↓reduceIte,reduceCtorEq,Nat.reduceEqDiff,Nat.reduceAdd,Nat.reduceLeDiff,Nat.reduceMul]
          refine C_call (CallQ.mono ((fin _ ?_ ?_ ?_).2 _ (hc1 ho) ho) fun v H2 hv => ?_)
          · simp(maxSteps:=9999999)(disch:=first|omega|(simp only[AN];omega))only[↓KP,EK,↓reduceIte,reduceCtorEq,Nat.reduceEqDiff,Nat.reduceAdd,Nat.reduceLeDiff,Nat.reduceMul]; omega
          · exact hr.up GW
          · intro b h1 h2; simp(maxSteps:=9999999)(disch:=first|omega|(simp only[AN];omega))only[↓KP,EK,↓reduceIte,reduceCtorEq,Nat.reduceEqDiff,Nat.reduceAdd,Nat.reduceLeDiff,Nat.reduceMul]
          · simp(maxSteps:=9999999)(disch:=first|omega|(simp only[AN];omega))only[↓KP,EK,↓reduceIte,reduceCtorEq,Nat.reduceEqDiff,Nat.reduceAdd,Nat.reduceLeDiff,Nat.reduceMul]
            exact hv
      · have ho := hok0 (by omega)
        refine K_draw ?_;simp(maxSteps:=9999999)(disch:=first|omega|(simp only[AN];omega))only[hbox,hbox2,hbf,hm,hfi,opLookup,eq3,hold.2.len,h0,hyl,↓KP,EK,↓reduceIte,reduceCtorEq,Nat.reduceEqDiff,Nat.reduceAdd,Nat.reduceLeDiff,Nat.reduceMul]
        refine C_call (CallQ.mono ((fin _ ?_ ?_ ?_).2 _ (hc1 ho) ho) fun v H2 hv => ?_)
        · simp(maxSteps:=9999999)(disch:=first|omega|(simp only[AN];omega))only[↓KP,EK,↓reduceIte,reduceCtorEq,Nat.reduceEqDiff,Nat.reduceAdd,Nat.reduceLeDiff,Nat.reduceMul]; omega
        · exact hr.up GW
        · intro b h1 h2; simp(maxSteps:=9999999)(disch:=first|omega|(simp only[AN];omega))only[↓KP,EK,↓reduceIte,reduceCtorEq,Nat.reduceEqDiff,Nat.reduceAdd,Nat.reduceLeDiff,Nat.reduceMul]
        · simp(maxSteps:=9999999)(disch:=first|omega|(simp only[AN];omega))only[↓KP,EK,↓reduceIte,reduceCtorEq,Nat.reduceEqDiff,Nat.reduceAdd,Nat.reduceLeDiff,Nat.reduceMul]
          exact hv
  | succ k ih =>
    intro pre done rest H1 R hk hpre hL hlt hr hrun hfac hyd kk
    have hp : pre.length < h.ws.length := by omega
    have hold := hr.look.old
    obtain ⟨q_b, q_i, q_ro, q_vs, q_lt, q⟩ := rdW hold.1 (k := pre.length) rfl hp
    have hwf := hfine.w hp
    have hc : (pre.length : Int) < h.ws.length := by omega
    have hbox := hr.box
    have hbox2 := hr.look.box
    have hql : q_i + 1 + 2 ≤ q_vs.length := by have := q.2.2.1; omega
    have hq2 := rdWf q.2.2.2.1
    have hn1 := hrun.bnd
    have hn2 := hrun.lt
    have hbhlt := hr.lt
    have hpl := hr.look.plt
    have hbn := hr.bhn
    have hone := from_step (h := lookE h but) (pre := pre) hp
    simp only [show (lookE h but).ws = h.ws from rfl] at hone
    refine CallQ_enter (fn:=c103) rfl (Nat.le_of_ble_eq_true rfl) ?_;simp(maxSteps:=9999999)(disch:=first|omega|(simp only[AN];omega))only[c103,envFrom,hbox,hbox2,hold.1.len,hc,q,hql,hq2,↓KP,EK,↓reduceIte,reduceCtorEq,Nat.reduceEqDiff,Nat.reduceAdd,Nat.reduceLeDiff,Nat.reduceMul]
    refine K_loop (fun mz ez H2 => ∃ (f : Int) (tail : Env), ez = (0, I pre.length) :: (1, .ptr bh 0) :: (2, .ptr bf 0) :: (3, .ptr bn 0) :: (4, .ptr bd 0) :: (5, .ptr by_ 0) :: (7, .bool false) :: (20, .bool true) :: (8, .ptr H1.next 0) :: (9, I f) :: tail ∧ (H1.next < H2.next) ∧ (Ready N p m bh v1 v2 h but B H2) ∧ (∀ b, l < b → b < H1.next → b ≠ bf → H2.get b = H1.get b) ∧ (Fac h.ws.length bf pre H2) ∧ (H2.get H1.next = some (.cells false [I h.ws[pre.length].lo, I h.ws[pre.length].hi])) ∧ (h.ws[pre.length].lo ≤ f) ∧ (f ≤ h.ws[pre.length].hi + 1) ∧ (Y (done ++ ((upTo h.ws[pre.length].lo (f - 1)).flatMap fun n => from_ (lookE h but) (pre ++ [n])).map (argT (lookE h but))) H2) ∧ mz = (h.ws[pre.length].hi + 1 - f).toNat) _ ⟨h.ws[pre.length].lo, _, rfl, ?_, (by exact hr.up GW), (by intro b h1 h2 h3; simp(maxSteps:=9999999)(disch:=first|omega|(simp only[AN];omega))only[↓KP,EK,↓reduceIte,reduceCtorEq,Nat.reduceEqDiff,Nat.reduceAdd,Nat.reduceLeDiff,Nat.reduceMul]), (by rcases hfac with ⟨arr, a1, a2, a3, a4⟩; exact ⟨arr, a1, a2, a3, by simp(maxSteps:=9999999)(disch:=first|omega|(simp only[AN];omega))only[a4,↓KP,EK,↓reduceIte,reduceCtorEq,Nat.reduceEqDiff,Nat.reduceAdd,Nat.reduceLeDiff,Nat.reduceMul]⟩), ?_, ?_, (by omega), (by rw [upTo_nil]; simp only [List.flatMap_nil, List.map_nil, List.append_nil]; exact hY done H1 _ (by simp(maxSteps:=9999999)(disch:=first|omega|(simp only[AN];omega))only[↓KP,EK,↓reduceIte,reduceCtorEq,Nat.reduceEqDiff,Nat.reduceAdd,Nat.reduceLeDiff,Nat.reduceMul]; omega) (fun b h1 h2 => by simp(maxSteps:=9999999)(disch:=first|omega|(simp only[AN];omega))only[↓KP,EK,↓reduceIte,reduceCtorEq,Nat.reduceEqDiff,Nat.reduceAdd,Nat.reduceLeDiff,Nat.reduceMul]) hyd), rfl⟩ ?_
    iterate 3 (focus (first|(with_reducible rfl)|omega|(with_reducible(repeat first|exact Grew.refl _|assumption|apply Grew.alloc|refine Grew.set ?_ _ (by first|omega|(simp only[AN];omega)));done)|(simp(maxSteps:=9999999)(disch:=first|omega|(simp only[AN];omega))only[↓KP,EK,↓reduceIte,reduceCtorEq,Nat.reduceEqDiff,Nat.reduceAdd,Nat.reduceLeDiff,Nat.reduceMul]<;>first|omega|rfl)|(simp;done)|rfl))
    rintro mz ez H2 ⟨f, tail, rfl, hn, hr2, hs2, hfac2, h8, hf1, hf2, hyd2, hmz⟩; subst mz
    simp(maxSteps:=9999999)(disch:=first|omega|(simp only[AN];omega))only[h8,↓KP,EK,↓reduceIte,reduceCtorEq,Nat.reduceEqDiff,Nat.reduceAdd,Nat.reduceLeDiff,Nat.reduceMul]
    refine C_decide (fun hcf => ?_) (fun hcf => ?_)
    · have e1 : IntKind.i64.wrap (f + 1) = f + 1 := i64_in _ (by omega)
      have e2 : IntKind.i64.wrap ((pre.length : Int) + 1) = ((pre ++ [f]).length : Int) := by rw [i64_in _ (by omega)]; simp
      obtain ⟨vs, vs', w1, w2, w3⟩ := hfac2.push hp hw3 f
      have hix : ∀ S, opIdxArr 3 1 (.ptr bf 0) (I pre.length) S = some (.ptr bf pre.length, S) := fun S => by
        have : pre.length < 3 := by omega
        simp [opIdxArr, natOf, this]
      have hbn2 : H2.get bn = some (.cells false [.func 103 [] [.ptr bh 0, .ptr bf 0, .ptr bn 0, .ptr bd 0, .ptr by_ 0]]) := by rw [hs2 _ hn2.2.1 hn1.2.1 (Ne.symm hrun.ne.1)]; exact hrun.next
      have hne := hrun.ne.1
      have hsp : ∀ (o : AObj) b, l < b → b < H1.next → b ≠ bf → (H2.set bf o).get b = H1.get b := fun o b h1 h2 h3 => by rw [get_set_other h3]; exact hs2 b h1 h2 h3
      simp(maxSteps:=9999999)(disch:=first|omega|(simp only[AN];omega))only[hix,w1,w2,hbn2,e2,↓KP,EK,↓reduceIte,reduceCtorEq,Nat.reduceEqDiff,Nat.reduceAdd,Nat.reduceLeDiff,Nat.reduceMul]
      refine C_call (ih (pre ++ [f]) (done ++ ((upTo h.ws[pre.length].lo (f - 1)).flatMap fun n => from_ (lookE h but) (pre ++ [n])).map (argT (lookE h but))) (((upTo (f + 1) h.ws[pre.length].hi).flatMap fun n => from_ (lookE h but) (pre ++ [n])).map (argT (lookE h but)) ++ rest) _ _
        (by simp; omega) (fun f' hf' => ?_) ?_ (by show l < H2.next; omega) (hr2.keep (Nat.le_refl _) fun b hb => get_set_other (by rcases hb with h | h <;> omega)) (hrun.keep (by show H1.next ≤ H2.next; omega) (hsp _)) w3 (hY _ H2 (H2.set bf (.cells false vs')) (Nat.le_refl _) (fun b h1 h2 => get_set_other (by omega)) hyd2) fun v H3 hn3 hr3 hs3 hf3 hor => ?_)
      · rcases List.mem_append.1 hf' with h1 | h1
        · exact hpre _ h1
        · simp only [List.mem_singleton] at h1; omega
      · rw [hL, hone, upTo_split hf1 hcf]
        simp only [List.flatMap_append, List.flatMap_cons, List.map_append, List.append_assoc]
      · have hn3' : H2.next ≤ H3.next := hn3
        have hs4 : ∀ b, l < b → b < H1.next → b ≠ bf → H3.get b = H1.get b := fun b h1 h2 h3 => by rw [hs3 b h1 (by show b < H2.next; omega) h3, hsp _ b h1 h2 h3]
        have h84 : H3.get H1.next = some (.cells false [I h.ws[pre.length].lo, I h.ws[pre.length].hi]) := by rw [hs3 _ (by omega) hn (by omega), get_set_other (by omega), h8]
        rcases hor with ⟨rfl, hy3⟩ | ⟨rfl, hS3⟩
        · simp(maxSteps:=9999999)(disch:=first|omega|(simp only[AN];omega))only[e1,↓KP,EK,↓reduceIte,reduceCtorEq,Nat.reduceEqDiff,Nat.reduceAdd,Nat.reduceLeDiff,Nat.reduceMul]
          refine ⟨_, ?_, f + 1, _, rfl, ?_, (by exact hr3), (by exact hs4), (by exact hf3.pop), (by exact h84), ?_, ?_, (by rw [show f + 1 - 1 = f from by omega, upTo_succ hf1, List.flatMap_append, List.map_append, ← List.append_assoc]; simpa using hy3), rfl⟩ <;> (first|omega|(with_reducible assumption)|(with_reducible(repeat first|exact Grew.refl _|assumption|apply Grew.alloc|refine Grew.set ?_ _ (by first|omega|(simp only[AN];omega)));done)|(simp(maxSteps:=9999999)(disch:=first|omega|(simp only[AN];omega))only[↓KP,EK,↓reduceIte,reduceCtorEq,Nat.reduceEqDiff,Nat.reduceAdd,Nat.reduceLeDiff,Nat.reduceMul]<;>first|omega|rfl))
        · simp(maxSteps:=9999999)(disch:=first|omega|(simp only[AN];omega))only[↓KP,EK,↓reduceIte,reduceCtorEq,Nat.reduceEqDiff,Nat.reduceAdd,Nat.reduceLeDiff,Nat.reduceMul]
          exact kk _ _ (by omega) hr3 hs4 hf3.pop (.inr ⟨rfl, hS3⟩)
    · simp(maxSteps:=9999999)(disch:=first|omega|(simp only[AN];omega))only[↓KP,EK,↓reduceIte,reduceCtorEq,Nat.reduceEqDiff,Nat.reduceAdd,Nat.reduceLeDiff,Nat.reduceMul]
      have hfe : f = h.ws[pre.length].hi + 1 := by omega
      subst hfe
      rw [show h.ws[pre.length].hi + 1 - 1 = h.ws[pre.length].hi from by omega, ← hone] at hyd2
      exact kk _ _ (by omega) hr2 hs2 hfac2 (.inl ⟨rfl, hyd2⟩)
end Go.Proofs.Ytgncpbkedhchfaa
namespace Go.Proofs.Ytgncpbkedhchfaa
open Go.AM Go.IntWalk
set_option maxRecDepth 100000
set_option maxHeartbeats 4000000
set_option linter.unusedSimpArgs false
variable {H : AH} {R : AV → AH → Prop}
abbrev yields (h : House) (but : Nat) : List (List AV) := (truthsE (lookE h but)).map (argT (lookE h but))
theorem truths_iter {N p m bh : Nat} {v1 v2 : AV} {h : House} {but : Nat} {B : AH} (hfine : Fine h) (hbut : but < 4096) : Iter prog (.func 101 [] [.ptr bh 0]) (yields h but) (Kh N bh) (Ready N p m bh v1 v2 h but B) := by
  refine ⟨fun H1 H2 hn hs hr => hr.keep hn hs, fun H hr b hb => by have := hr.lt; have := hr.bhn; rcases hb with h | h <;> omega, fun H l Y S R hNl hl hi hY hS hy hfin h0 => ?_⟩
  have hbhlt := hi.lt
  have hbl : bh < l := hNl _ (.inr rfl)
  have hbox := hi.box
  refine CallQ_enter (fn:=c101) rfl (Nat.le_of_ble_eq_true rfl) ?_;simp(maxSteps:=9999999)(disch:=first|omega|(simp only[AN];omega))only[c101,envFrom,hbox,↓KP,EK,↓reduceIte,reduceCtorEq,Nat.reduceEqDiff,Nat.reduceAdd,Nat.reduceLeDiff,Nat.reduceMul]
  have hg : ∀ o1 o2 o3 o4 o5 o6, Grew H ((((((H.alloc o1).alloc o2).set (H.next + 1) o3).alloc o4).alloc o5).set (H.next + 1 + 1 + 1) o6) := fun o1 o2 o3 o4 o5 o6 => GW
  refine C_call (next_run (p := p) (bf := H.next + 1 + 1) (bn := H.next + 1 + 1 + 1) (bd := H.next + 1) (by_ := H.next) hfine hbut (by omega) Y S hY hS hy h.ws.length [] [] [] _ _ (by simp) (by simp) (by simp [truthsE_from]) (by simp(maxSteps:=9999999)(disch:=first|omega|(simp only[AN];omega))only[↓KP,EK,↓reduceIte,reduceCtorEq,Nat.reduceEqDiff,Nat.reduceAdd,Nat.reduceLeDiff,Nat.reduceMul]; omega) (hi.up (hg _ _ _ _ _ _)) ⟨by omega, by omega, by simp(maxSteps:=9999999)(disch:=first|omega|(simp only[AN];omega))only[↓KP,EK,↓reduceIte,reduceCtorEq,Nat.reduceEqDiff,Nat.reduceAdd,Nat.reduceLeDiff,Nat.reduceMul]; omega, by simp(maxSteps:=9999999)(disch:=first|omega|(simp only[AN];omega))only[↓KP,EK,↓reduceIte,reduceCtorEq,Nat.reduceEqDiff,Nat.reduceAdd,Nat.reduceLeDiff,Nat.reduceMul], by simp(maxSteps:=9999999)(disch:=first|omega|(simp only[AN];omega))only[↓KP,EK,↓reduceIte,reduceCtorEq,Nat.reduceEqDiff,Nat.reduceAdd,Nat.reduceLeDiff,Nat.reduceMul], by simp(maxSteps:=9999999)(disch:=first|omega|(simp only[AN];omega))only[↓KP,EK,↓reduceIte,reduceCtorEq,Nat.reduceEqDiff,Nat.reduceAdd,Nat.reduceLeDiff,Nat.reduceMul]⟩ ⟨[0, 0, 0], rfl, rfl, fun j hj _ => ?_, by simp(maxSteps:=9999999)(disch:=first|omega|(simp only[AN];omega))only[↓KP,EK,↓reduceIte,reduceCtorEq,Nat.reduceEqDiff,Nat.reduceAdd,Nat.reduceLeDiff,Nat.reduceMul]; rfl⟩ ?_ fun v H2 hn hr hs hf hor => ?_)
  · have : j = 0 ∨ j = 1 ∨ j = 2 := by simp at hj; omega
    rcases this with rfl | rfl | rfl <;> rfl
  · exact hY _ H _ (hg _ _ _ _ _ _).next (fun b h1 h2 => (hg _ _ _ _ _ _).get b (by omega)) h0
  · simp(maxSteps:=9999999)(disch:=first|omega|(simp only[AN];omega))only[↓KP,EK,↓reduceIte,reduceCtorEq,Nat.reduceEqDiff,Nat.reduceAdd,Nat.reduceLeDiff,Nat.reduceMul]
    refine hfin _ ?_ hr ?_
    · simp only [AH.next_alloc, AH.next_set] at hn; omega
    · rw [yields, truthsE_from]
      rcases hor with ⟨_, h1⟩ | ⟨_, h1⟩
      · exact .inl (by simpa using h1)
      · exact .inr h1
structure Held (N p m : Nat) (v1 v2 : AV) (h : House) (but : Nat) (H : AH) : Prop where
  look : Looked N p m v1 v2 h but H
  cache : ∃ es, H.get m = some (.map es) ∧ Cache (lookE h but) es
structure GrewBut (m : Nat) (H H' : AH) : Prop where
  next : H.next ≤ H'.next
  get : ∀ b, b < H.next → b ≠ m → H'.get b = H.get b
theorem GrewBut.trans {m : Nat} {H H' H'' : AH} (h : GrewBut m H H') (h' : GrewBut m H' H'') : GrewBut m H H'' := ⟨Nat.le_trans h.next h'.next, fun b hb hm => (h'.get b (Nat.lt_of_lt_of_le hb h.next) hm).trans (h.get b hb hm)⟩
theorem Grew.but {m : Nat} {H H' : AH} (h : Grew H H') : GrewBut m H H' := ⟨h.next, fun b hb _ => h.get b hb⟩
theorem GrewBut.grew {m : Nat} {H H' H'' : AH} (hg : Grew H H') (h : GrewBut m H' H'') (hm : H.next ≤ m) : Grew H H'' := ⟨Nat.le_trans hg.next h.next, fun b hb => by rw [h.get b (Nat.lt_of_lt_of_le hb hg.next) (by omega), hg.get b hb]⟩
theorem Held.up {N p m : Nat} {v1 v2 : AV} {h : House} {but : Nat} {H1 H2 : AH} (hr : Held N p m v1 v2 h but H1) (hg : Grew H1 H2) : Held N p m v1 v2 h but H2 := by
  obtain ⟨l, es, h1, h2⟩ := hr
  exact ⟨l.up hg, es, by rw [hg.get _ (by have := l.mlt; have := l.nle; omega)]; exact h1, h2⟩
theorem Held.ready {N p m : Nat} {v1 v2 : AV} {h : House} {but : Nat} {H1 : AH} (hr : Held N p m v1 v2 h but H1) : Ready N p m H1.next v1 v2 h but (H1.alloc (.cells false [.ptr p 0])) (H1.alloc (.cells false [.ptr p 0])) :=
  ⟨fun _ _ _ => rfl, (hr.up ((Grew.refl _).alloc _)).look, (hr.up ((Grew.refl _).alloc _)).cache, hr.look.nle, get_alloc_new _ _, by simp⟩
theorem Ready.held {N p m bh : Nat} {v1 v2 : AV} {h : House} {but : Nat} {B H1 : AH} (hr : Ready N p m bh v1 v2 h but B H1) : Held N p m v1 v2 h but H1 := ⟨hr.look, hr.cache⟩
theorem truths_run (p : Nat) (k : R (.func 101 [] [.ptr H.next 0]) (H.alloc (.cells false [.ptr p 0]))) : CallQ prog (.func 67 [] []) [.ptr p 0] H R := by
  refine CallQ_enter (fn:=c67) rfl (Nat.le_of_ble_eq_true rfl) ?_;simp(maxSteps:=9999999)(disch:=first|omega|(simp only[AN];omega))only[c67,envFrom,↓KP,EK,↓reduceIte,reduceCtorEq,Nat.reduceEqDiff,Nat.reduceAdd,Nat.reduceLeDiff,Nat.reduceMul]
  exact k
theorem look_run (v1 v2 : AV) (h : House) (but : Nat) (hh : IsHouse (Old H) H v1 v2 h) (k : ∀ H' p m, Grew H H' → H.next ≤ m → Held H'.next p m v1 v2 h but H' → R (.ptr p 0) H') : CallQ prog (.func 81 [] []) [.agg [v1, v2], I but] H R := by
  refine CallQ_enter (fn:=c81) rfl (Nat.le_of_ble_eq_true rfl) ?_;simp(maxSteps:=9999999)(disch:=first|omega|(simp only[AN];omega))only[c81,envFrom,↓KP,EK,↓reduceIte,reduceCtorEq,Nat.reduceEqDiff,Nat.reduceAdd,Nat.reduceLeDiff,Nat.reduceMul]
  have hg : Grew H (((H.alloc (.cells false [v1, v2])).alloc (.map [])).alloc (.cells false [v1, v2, I but, .map (H.next + 1)])) := GW
  refine k _ _ (H.next + 1) hg (by omega) ⟨⟨by simp(maxSteps:=9999999)(disch:=first|omega|(simp only[AN];omega))only[↓KP,EK,↓reduceIte,reduceCtorEq,Nat.reduceEqDiff,Nat.reduceAdd,Nat.reduceLeDiff,Nat.reduceMul], hh.move fun b hb => ⟨⟨by show b < H.next + 1 + 1 + 1; omega, by omega⟩, hg.get b hb⟩, by simp(maxSteps:=9999999)(disch:=first|omega|(simp only[AN];omega))only[↓KP,EK,↓reduceIte,reduceCtorEq,Nat.reduceEqDiff,Nat.reduceAdd,Nat.reduceLeDiff,Nat.reduceMul]; omega, by simp(maxSteps:=9999999)(disch:=first|omega|(simp only[AN];omega))only[↓KP,EK,↓reduceIte,reduceCtorEq,Nat.reduceEqDiff,Nat.reduceAdd,Nat.reduceLeDiff,Nat.reduceMul]; omega, by omega, Nat.le_refl _⟩, [], by simp(maxSteps:=9999999)(disch:=first|omega|(simp only[AN];omega))only[↓KP,EK,↓reduceIte,reduceCtorEq,Nat.reduceEqDiff,Nat.reduceAdd,Nat.reduceLeDiff,Nat.reduceMul], fun _ h => by cases h⟩
theorem some_run {N p m : Nat} {v1 v2 : AV} {h : House} {but : Nat} (hfine : Fine h) (hbut : but < 4096) (hr : Held N p m v1 v2 h but H) (k : ∀ H', GrewBut m H H' → Held N p m v1 v2 h but H' → R (.bool (decide (0 < (truthsE (lookE h but)).length))) H') : CallQ prog (.func 82 [] []) [.ptr p 0] H R := by
  refine CallQ_enter (fn:=c82) rfl (Nat.le_of_ble_eq_true rfl) ?_;simp(maxSteps:=9999999)(disch:=first|omega|(simp only[AN];omega))only[c82,envFrom,↓KP,EK,↓reduceIte,reduceCtorEq,Nat.reduceEqDiff,Nat.reduceAdd,Nat.reduceLeDiff,Nat.reduceMul]
  first|refine C_call ?_|refine C_calld ?_
  refine truths_run p ?_
  simp(maxSteps:=9999999)(disch:=first|omega|(simp only[AN];omega))only[↓KP,EK,↓reduceIte,reduceCtorEq,Nat.reduceEqDiff,Nat.reduceAdd,Nat.reduceLeDiff,Nat.reduceMul]
  have hr1 := (hr.up ((Grew.refl H).alloc (.cells false [.bool false]))).ready
  have hNle := hr.look.nle
  have base : ∀ b, b < N → b ≠ m → ((H.alloc (.cells false [.bool false])).alloc (.cells false [.ptr p 0])).get b = H.get b := fun b h1 h2 => by simp(maxSteps:=9999999)(disch:=first|omega|(simp only[AN];omega))only[↓KP,EK,↓reduceIte,reduceCtorEq,Nat.reduceEqDiff,Nat.reduceAdd,Nat.reduceLeDiff,Nat.reduceMul]
  generalize hB : (H.alloc (.cells false [.bool false])).alloc (.cells false [.ptr p 0]) = B at hr1 base
  have e0 : B.get H.next = some (.cells false [.bool false]) := by rw [← hB]; simp(maxSteps:=9999999)(disch:=first|omega|(simp only[AN];omega))only[↓KP,EK,↓reduceIte,reduceCtorEq,Nat.reduceEqDiff,Nat.reduceAdd,Nat.reduceLeDiff,Nat.reduceMul]
  have old : ∀ b, b < H.next → B.get b = H.get b := fun b hb => by rw [← hB]; simp(maxSteps:=9999999)(disch:=first|omega|(simp only[AN];omega))only[↓KP,EK,↓reduceIte,reduceCtorEq,Nat.reduceEqDiff,Nat.reduceAdd,Nat.reduceLeDiff,Nat.reduceMul]
  have hBn : B.next = H.next + 1 + 1 := by rw [← hB]; rfl
  have fin : ∀ (H2 : AH) (x : Bool), H.next ≤ H2.next → Ready N p m (H.next + 1) v1 v2 h but B H2 → (∀ b, N ≤ b → b < H.next → H2.get b = H.get b) → x = decide (0 < (truthsE (lookE h but)).length) → R (.bool x) H2 := fun H2 x hn hi hf hx => by
    rw [hx]
    exact k H2 ⟨hn, fun b hb hm => by
      by_cases hbN : b < N
      · rw [hi.base b hbN hm, base b hbN hm]
      · exact hf b (by omega) hb⟩ hi.held
  refine K_iter (L := yields h but) (K := Kh N (H.next + 1)) (Inv := Ready N p m (H.next + 1) v1 v2 h but B) rfl (truths_iter hfine hbut) hr1 (fun a ha => ?_)
    (fun done H2 => done = [] ∧ H2.get H.next = some (.cells false [.bool false]) ∧ ∀ b, N ≤ b → b < H.next → H2.get b = H.get b)
    (fun x H2 => x = .ret ∧ yields h but ≠ [] ∧ H2.get H.next = some (.cells false [.bool true]) ∧ ∀ b, N ≤ b → b < H.next → H2.get b = H.get b) ?_ ?_ ?_ ?_ ?_ ?_
  · obtain ⟨fs, _, rfl⟩ := List.mem_map.1 ha; rfl
  · rintro done H1 H2 hn hs ⟨h1, h2, h3⟩
    exact ⟨h1, by rw [hs _ (by simp only [Kh]; omega) (by omega)]; exact h2, fun b hb hb2 => by rw [hs _ (by simp only [Kh]; omega) (by omega)]; exact h3 b hb hb2⟩
  · rintro x H1 H2 hn hs ⟨h1, h0, h2, h3⟩
    exact ⟨h1, h0, by rw [hs _ (by simp only [Kh]; omega) (by omega)]; exact h2, fun b hb hb2 => by rw [hs _ (by simp only [Kh]; omega) (by omega)]; exact h3 b hb hb2⟩
  · exact ⟨rfl, e0, fun b _ hb => old b hb⟩
  · rintro done a rest H1 hL hlt hi ⟨rfl, h2, h3⟩ hlo
    obtain ⟨fs, _, rfl⟩ : ∃ fs, fs ∈ truthsE (lookE h but) ∧ argT (lookE h but) fs = a := List.mem_map.1 (by rw [← yields, hL]; simp)
    simp(maxSteps:=9999999)(disch:=first|omega|(simp only[AN];omega))only[K7,hlo,argT,h2,↓KP,EK,↓reduceIte,reduceCtorEq,Nat.reduceEqDiff,Nat.reduceAdd,Nat.reduceLeDiff,Nat.reduceMul]
    refine ⟨⟨by simp(maxSteps:=9999999)(disch:=first|omega|(simp only[AN];omega))only[↓KP,EK,↓reduceIte,reduceCtorEq,Nat.reduceEqDiff,Nat.reduceAdd,Nat.reduceLeDiff,Nat.reduceMul]; omega, fun b hb hc => ?_⟩, ?_, fun b h4 h5 => ?_⟩
    · simp only [Kh] at hc
      simp(maxSteps:=9999999)(disch:=first|omega|(simp only[AN];omega))only[↓KP,EK,↓reduceIte,reduceCtorEq,Nat.reduceEqDiff,Nat.reduceAdd,Nat.reduceLeDiff,Nat.reduceMul]
    · rw [hL]; simp
    · simp(maxSteps:=9999999)(disch:=first|omega|(simp only[AN];omega))only[h3,↓KP,EK,↓reduceIte,reduceCtorEq,Nat.reduceEqDiff,Nat.reduceAdd,Nat.reduceLeDiff,Nat.reduceMul]
  · rintro H2 hn hi ⟨hd, h2, h3⟩
    simp(maxSteps:=9999999)(disch:=first|omega|(simp only[AN];omega))only[h2,↓KP,EK,↓reduceIte,reduceCtorEq,Nat.reduceEqDiff,Nat.reduceAdd,Nat.reduceLeDiff,Nat.reduceMul]
    refine fin _ _ (by show H.next ≤ H2.next; omega) (hi.keep (Nat.le_refl _) fun b hb => get_set_other (by simp only [Kh] at hb; omega)) (fun b h4 h5 => by simp(maxSteps:=9999999)(disch:=first|omega|(simp only[AN];omega))only[h3,↓KP,EK,↓reduceIte,reduceCtorEq,Nat.reduceEqDiff,Nat.reduceAdd,Nat.reduceLeDiff,Nat.reduceMul]) ?_
    have : truthsE (lookE h but) = [] := by simpa [yields] using hd
    rw [this]; rfl
  · rintro x H2 hx hn hi ⟨rfl, h0, h2, h3⟩
    simp(maxSteps:=9999999)(disch:=first|omega|(simp only[AN];omega))only[h2,↓KP,EK,↓reduceIte,reduceCtorEq,Nat.reduceEqDiff,Nat.reduceAdd,Nat.reduceLeDiff,Nat.reduceMul]
    exact fin _ _ (by omega) hi h3 (by
      symm; rw [decide_eq_true_eq, List.length_pos_iff]
      intro e; apply h0; simp [yields, e])
end Go.Proofs.Ytgncpbkedhchfaa
namespace Go.Proofs.Ytgncpbkedhchfaa
open Go.AM Go.IntWalk
set_option maxRecDepth 100000
set_option maxHeartbeats 4000000
set_option linter.unusedSimpArgs false
variable {H : AH} {R : AV → AH → Prop}
theorem lookE_zero (h : House) : lookE h 0 = h := by
  unfold lookE maskE
  have : (List.range h.days.length).map (fun d => maskRow (Nat.testBit 0) (h.days.getD d []) (d * h.ws.length) (h.days.getD d []).length) = h.days := by
    refine List.ext_getElem (by simp) fun i h1 h2 => ?_
    simp only [List.getElem_map, List.getElem_range, getD_eq h2]
    refine List.ext_getElem (by simp [maskRow]) fun j h3 h4 => ?_
    simp [maskRow, getI_eq h4]
  rw [this]
def pairsOff : List Int → Bool
  | n :: b :: rest => offP 0 (b - 1) n || pairsOff rest
  | _ => false
def enterErr (h : House) (l : List Int) (eo : Int) : Int :=
  if errE h ≠ 0 then errE h else if pairsOff l = true then 4 else if eo ≠ 0 then eo else if truthsE h = [] then 8 else 0
theorem fine_run (k : R (I 0) H) : CallQ prog (.func 64 [] []) [] H R := by
  refine CallQ_enter (fn:=c64) rfl (Nat.le_of_ble_eq_true rfl) ?_;simp(maxSteps:=9999999)(disch:=first|omega|(simp only[AN];omega))only[c64,envFrom,↓KP,EK,↓reduceIte,reduceCtorEq,Nat.reduceEqDiff,Nat.reduceAdd,Nat.reduceLeDiff,Nat.reduceMul]
  exact k
theorem enter_run (v1 v2 fo vl : AV) (h : House) (l : List Int) (eo : Int) (hh : IsHouse (Old H) H v1 v2 h) (hl : IsInts (Old H) H vl l) (hll : l.length ≤ 1000) (hb : ∀ j (hj : j < l.length), j % 2 = 1 → 0 ≤ l[j] ∧ l[j] ≤ 9223372036854775807)
    {g : Nat} {fs cs : List AV} (hfo : fo = .func g fs cs) (ho : errE h = 0 → pairsOff l = false → ∀ (H1 : AH) (R : AV → AH → Prop), Grew H H1 → (∀ H2, Grew H1 H2 → R (I eo) H2) → CallQ prog fo [] H1 R)
    (k0 : enterErr h l eo ≠ 0 → ∀ H', Grew H H' → R (.tuple [.nilptr, I (enterErr h l eo)]) H')
    (k1 : enterErr h l eo = 0 → Fine h → truthsE h ≠ [] → ∀ H' N p m, Grew H H' → H.next ≤ m → Held N p m v1 v2 h 0 H' → R (.tuple [.ptr p 0, I 0]) H') : CallQ prog (.func 63 [] []) [.agg [v1, v2], fo, vl] H R := by
  subst hfo
  have hg0 : Grew H (H.alloc (.cells false [v1, v2])) := GW
  refine CallQ_enter (fn:=c63) rfl (Nat.le_of_ble_eq_true rfl) ?_;simp(maxSteps:=9999999)(disch:=first|omega|(simp only[AN];omega))only[c63,envFrom,↓KP,EK,↓reduceIte,reduceCtorEq,Nat.reduceEqDiff,Nat.reduceAdd,Nat.reduceLeDiff,Nat.reduceMul]
  refine C_call (Check_run v1 v2 h (hh.grow hg0) fun H1 hg1 => ?_)
  have hg1n := hg1.next; simp only [AH.next_alloc] at hg1n
  have hg1' := hg0.trans hg1
  have hbox : H1.get H.next = some (.cells false [v1, v2]) := by simp(maxSteps:=9999999)(disch:=first|omega|(simp only[AN];omega))only[hg1.get,↓KP,EK,↓reduceIte,reduceCtorEq,Nat.reduceEqDiff,Nat.reduceAdd,Nat.reduceLeDiff,Nat.reduceMul]
  by_cases he : (checkE h).2.2 = 0
  · have he' : errE h = 0 := he
    have hfine := fine_of he'
    simp(maxSteps:=9999999)(disch:=first|omega|(simp only[AN];omega))only[he,↓KP,EK,↓reduceIte,reduceCtorEq,Nat.reduceEqDiff,Nat.reduceAdd,Nat.reduceLeDiff,Nat.reduceMul]
    refine K_loop (fun mz ez H2 => ∃ (i : Nat) (tail : Env), ez = (0, .agg [v1, v2]) :: (1, .func g fs cs) :: (2, vl) :: (3, .ptr H.next 0) :: (6, .nilptr) :: (7, I 0) :: (10, I 0) :: (21, .bool false) :: (11, I i) :: tail ∧ (Grew H1 H2) ∧ (i ≤ l.length) ∧ (i % 2 = 0) ∧ (pairsOff (l.drop i) = pairsOff l) ∧ mz = l.length - i) _ ⟨0, _, rfl, ?_, ?_, ?_, ?_, rfl⟩ ?_
    iterate 4 (focus (first|(with_reducible rfl)|omega|(with_reducible(repeat first|exact Grew.refl _|assumption|apply Grew.alloc|refine Grew.set ?_ _ (by first|omega|(simp only[AN];omega)));done)|(simp(maxSteps:=9999999)(disch:=first|omega|(simp only[AN];omega))only[↓KP,EK,↓reduceIte,reduceCtorEq,Nat.reduceEqDiff,Nat.reduceAdd,Nat.reduceLeDiff,Nat.reduceMul]<;>first|omega|rfl)|(simp;done)|rfl))
    rintro mz ez H2 ⟨i, tail, rfl, hG, hil, hev, hpo, hmz⟩; subst mz; have hGn := hG.next
    have e1 : IntKind.i64.wrap ((i : Int) + 1) = ((i + 1 : Nat) : Int) := i64_in _ (by omega)
    have e2 : IntKind.i64.wrap ((i : Int) + 2) = ((i + 2 : Nat) : Int) := i64_in _ (by omega)
    simp(maxSteps:=9999999)(disch:=first|omega|(simp only[AN];omega))only[e1,hl.len,↓KP,EK,↓reduceIte,reduceCtorEq,Nat.reduceEqDiff,Nat.reduceAdd,Nat.reduceLeDiff,Nat.reduceMul]
    refine C_decide (fun hc => ?_) (fun hc => ?_)
    · have hi1 : i + 1 < l.length := by omega
      obtain ⟨q_b, q_i, q_ro, q_vs, q_lt, q⟩ := hl.rdInt (n := ((i + 1 : Nat) : Int)) rfl hi1
      obtain ⟨r_b, r_i, r_ro, r_vs, r_lt, r⟩ := hl.rdInt (n := (i : Int)) rfl (show i < l.length by omega)
      have hbi := hb (i + 1) hi1 (by omega)
      have e3 : IntKind.i64.wrap (l[i + 1] - 1) = l[i + 1] - 1 := i64_in _ (by omega)
      have hdrop : pairsOff (l.drop i) = (offP 0 (l[i + 1] - 1) l[i] || pairsOff (l.drop (i + 2))) := by
        rw [List.drop_eq_getElem_cons (show i < l.length by omega), List.drop_eq_getElem_cons hi1, pairsOff]
      simp(maxSteps:=9999999)(disch:=first|omega|(simp only[AN];omega))only[↓KP,EK,↓reduceIte,reduceCtorEq,Nat.reduceEqDiff,Nat.reduceAdd,Nat.reduceLeDiff,Nat.reduceMul]
      refine K_draw ?_;simp(maxSteps:=9999999)(disch:=first|omega|(simp only[AN];omega))only[e1,e3,hG.get,hg1.get,q,r,↓KP,EK,↓reduceIte,reduceCtorEq,Nat.reduceEqDiff,Nat.reduceAdd,Nat.reduceLeDiff,Nat.reduceMul]
      refine C_calld (off_run 0 (l[i + 1] - 1) _ _ (one_slice H2 l[i]) (by simp) fun H3 hg3 => ?_)
      have hg3n := hg3.next; simp only [AH.next_alloc] at hg3n
      have hg3' : Grew H1 H3 := (hG.alloc _).trans hg3
      simp(maxSteps:=9999999)(disch:=first|omega|(simp only[AN];omega))only[hg3.get,hG.get,hg1.get,q,r,↓KP,EK,↓reduceIte,reduceCtorEq,Nat.reduceEqDiff,Nat.reduceAdd,Nat.reduceLeDiff,Nat.reduceMul]
      refine C_bool (fun hx => ?_) (fun hx => ?_)
      · have hx' : offP 0 (l[i + 1] - 1) l[i] = true := by simpa using hx
        have : enterErr h l eo = 4 := by rw [enterErr, if_neg (by omega), if_pos (by rw [← hpo, hdrop, hx']; rfl)]
        rw [this] at k0
        simp(maxSteps:=9999999)(disch:=first|omega|(simp only[AN];omega))only[↓KP,EK,↓reduceIte,reduceCtorEq,Nat.reduceEqDiff,Nat.reduceAdd,Nat.reduceLeDiff,Nat.reduceMul]
        exact k0 (by decide) _ (hg1'.trans hg3')
      · have hx' : offP 0 (l[i + 1] - 1) l[i] = false := by simpa using hx
        simp(maxSteps:=9999999)(disch:=first|omega|(simp only[AN];omega))only[e2,↓KP,EK,↓reduceIte,reduceCtorEq,Nat.reduceEqDiff,Nat.reduceAdd,Nat.reduceLeDiff,Nat.reduceMul]
        refine ⟨_, ?_, i + 2, _, rfl, ?_, ?_, ?_, (by rw [← hpo, hdrop, hx']; rfl), rfl⟩ <;> (first|omega|(with_reducible assumption)|(with_reducible(repeat first|exact Grew.refl _|assumption|apply Grew.alloc|refine Grew.set ?_ _ (by first|omega|(simp only[AN];omega))|refine Grew.trans ?_ hg3|refine Grew.trans ?_ hG);done)|(simp(maxSteps:=9999999)(disch:=first|omega|(simp only[AN];omega))only[hg3.get,hG.get,↓KP,EK,↓reduceIte,reduceCtorEq,Nat.reduceEqDiff,Nat.reduceAdd,Nat.reduceLeDiff,Nat.reduceMul]<;>first|omega|rfl))
    · have hpf : pairsOff l = false := by
        rw [← hpo]
        have : l.drop i = [] ∨ ∃ a, l.drop i = [a] := by
          have hlen : (l.drop i).length ≤ 1 := by rw [List.length_drop]; omega
          match l.drop i, hlen with
          | [], _ => exact .inl rfl
          | [a], _ => exact .inr ⟨a, rfl⟩
        rcases this with e | ⟨a, e⟩ <;> rw [e] <;> rfl
      simp(maxSteps:=9999999)(disch:=first|omega|(simp only[AN];omega))only[↓KP,EK,↓reduceIte,reduceCtorEq,Nat.reduceEqDiff,Nat.reduceAdd,Nat.reduceLeDiff,Nat.reduceMul]
      refine C_call (ho he' hpf H2 _ (hg1'.trans hG) fun H3 hg3 => ?_)
      have hg3n := hg3.next
      have hg3' := (hg1'.trans hG).trans hg3
      by_cases heo : eo = 0
      · simp(maxSteps:=9999999)(disch:=first|omega|(simp only[AN];omega))only[heo,hbox,hG.get,hg3.get,↓KP,EK,↓reduceIte,reduceCtorEq,Nat.reduceEqDiff,Nat.reduceAdd,Nat.reduceLeDiff,Nat.reduceMul]
        refine C_call (look_run v1 v2 h 0 (hh.grow hg3') fun H4 p m hg4 hm4 hheld => ?_)
        have hg4n := hg4.next
        simp(maxSteps:=9999999)(disch:=first|omega|(simp only[AN];omega))only[↓KP,EK,↓reduceIte,reduceCtorEq,Nat.reduceEqDiff,Nat.reduceAdd,Nat.reduceLeDiff,Nat.reduceMul]
        refine C_call (some_run hfine (by omega) hheld fun H5 hg5 hh5 => ?_)
        have hg5' : Grew H H5 := GrewBut.grew (hg3'.trans hg4) hg5 (by have := hg3'.next; omega)
        rw [lookE_zero]
        by_cases ht : 0 < (truthsE h).length
        · have : enterErr h l eo = 0 := by rw [enterErr, if_neg (by omega), if_neg (by simp [hpf]), if_neg (by omega), if_neg (List.length_pos_iff.1 ht)]
          simp(maxSteps:=9999999)(disch:=first|omega|(simp only[AN];omega))only[ht,↓KP,EK,↓reduceIte,reduceCtorEq,Nat.reduceEqDiff,Nat.reduceAdd,Nat.reduceLeDiff,Nat.reduceMul]
          exact k1 this hfine (List.length_pos_iff.1 ht) _ _ _ _ hg5' (by have := hg3'.next; omega) hh5
        · have hnil : truthsE h = [] := List.length_eq_zero_iff.1 (by omega)
          have : enterErr h l eo = 8 := by rw [enterErr, if_neg (by omega), if_neg (by simp [hpf]), if_neg (by omega), if_pos hnil]
          rw [this] at k0
          simp(maxSteps:=9999999)(disch:=first|omega|(simp only[AN];omega))only[ht,↓KP,EK,↓reduceIte,reduceCtorEq,Nat.reduceEqDiff,Nat.reduceAdd,Nat.reduceLeDiff,Nat.reduceMul]
          exact k0 (by decide) _ hg5'
      · have : enterErr h l eo = eo := by rw [enterErr, if_neg (by omega), if_neg (by simp [hpf]), if_pos heo]
        rw [this] at k0
        simp(maxSteps:=9999999)(disch:=first|omega|(simp only[AN];omega))only[heo,↓KP,EK,↓reduceIte,reduceCtorEq,Nat.reduceEqDiff,Nat.reduceAdd,Nat.reduceLeDiff,Nat.reduceMul]
        exact k0 heo _ hg3'
  · have : enterErr h l eo = errE h := by rw [enterErr, if_pos (show errE h ≠ 0 from he)]
    rw [this] at k0
    simp(maxSteps:=9999999)(disch:=first|omega|(simp only[AN];omega))only[he,↓KP,EK,↓reduceIte,reduceCtorEq,Nat.reduceEqDiff,Nat.reduceAdd,Nat.reduceLeDiff,Nat.reduceMul]
    exact k0 he _ hg1'
end Go.Proofs.Ytgncpbkedhchfaa
namespace Go.Proofs.Ytgncpbkedhchfaa
open Go.AM Go.IntWalk
set_option maxRecDepth 100000
set_option maxHeartbeats 4000000
set_option linter.unusedSimpArgs false
variable {H : AH} {R : AV → AH → Prop}
def wider (s x : Int × Int) : Int × Int := (min s.1 x.1, max s.2 x.2)
def wideL (l : List (Int × Int)) : Int × Int := l.foldl wider (9223372036854775807, -1)
abbrev spanArg (s : Int × Int) : List AV := [.agg [I s.1, I s.2]]
theorem wideL_snoc {l : List (Int × Int)} {s : Int × Int} : wideL (l ++ [s]) = wider (wideL l) s := by simp [wideL]
theorem wide_run {g : Nat} {fs cs : List AV} {l : List (Int × Int)} {K : Nat → Prop} {Inv : AH → Prop} (hI : Iter prog (.func g fs cs) (l.map spanArg) K Inv) (hi : Inv H)
    (k : ∀ H', H.next ≤ H'.next → Inv H' → (∀ b, ¬ K b → b < H.next → H'.get b = H.get b) → R (.agg [I (wideL l).1, I (wideL l).2]) H') : CallQ prog (.func 65 [] []) [.func g fs cs] H R := by
  have hK := hI.2.1 H hi
  have hB := hI.1
  refine CallQ_enter (fn:=c65) rfl (Nat.le_of_ble_eq_true rfl) ?_;simp(maxSteps:=9999999)(disch:=first|omega|(simp only[AN];omega))only[c65,envFrom,↓KP,EK,↓reduceIte,reduceCtorEq,Nat.reduceEqDiff,Nat.reduceAdd,Nat.reduceLeDiff,Nat.reduceMul]
  refine K_iter (L := l.map spanArg) (K := K) (Inv := Inv) rfl hI (hB _ _ (by simp(maxSteps:=9999999)(disch:=first|omega|(simp only[AN];omega))only[↓KP,EK,↓reduceIte,reduceCtorEq,Nat.reduceEqDiff,Nat.reduceAdd,Nat.reduceLeDiff,Nat.reduceMul]; omega) (fun b hb => by have := hK b hb; simp(maxSteps:=9999999)(disch:=first|omega|(simp only[AN];omega))only[↓KP,EK,↓reduceIte,reduceCtorEq,Nat.reduceEqDiff,Nat.reduceAdd,Nat.reduceLeDiff,Nat.reduceMul]) hi) (fun a ha => ?_)
    (fun done H2 => (∃ ds : List (Int × Int), done = ds.map spanArg ∧ H2.get H.next = some (.cells false [I (wideL ds).1, I (wideL ds).2])) ∧ ∀ b, ¬ K b → b < H.next → H2.get b = H.get b)
    (fun _ _ => False) ?_ ?_ ?_ ?_ ?_ ?_
  · obtain ⟨x, _, rfl⟩ := List.mem_map.1 ha; rfl
  · rintro done H1 H2 hn hs ⟨⟨ds, h1, h2⟩, h3⟩
    refine ⟨⟨ds, h1, ?_⟩, fun b hb hb2 => by rw [hs _ hb (by simp(maxSteps:=9999999)(disch:=first|omega|(simp only[AN];omega))only[↓KP,EK,↓reduceIte,reduceCtorEq,Nat.reduceEqDiff,Nat.reduceAdd,Nat.reduceLeDiff,Nat.reduceMul]; omega)]; exact h3 b hb hb2⟩
    rw [hs _ (fun h => by have := hK _ h; omega) (by simp(maxSteps:=9999999)(disch:=first|omega|(simp only[AN];omega))only[↓KP,EK,↓reduceIte,reduceCtorEq,Nat.reduceEqDiff,Nat.reduceAdd,Nat.reduceLeDiff,Nat.reduceMul]; omega)]; exact h2
  · intro x H1 H2 hn hs h; exact h
  · exact ⟨⟨[], rfl, by simp(maxSteps:=9999999)(disch:=first|omega|(simp only[AN];omega))only[↓KP,EK,↓reduceIte,reduceCtorEq,Nat.reduceEqDiff,Nat.reduceAdd,Nat.reduceLeDiff,Nat.reduceMul]; rfl⟩, fun b hb hb2 => by simp(maxSteps:=9999999)(disch:=first|omega|(simp only[AN];omega))only[↓KP,EK,↓reduceIte,reduceCtorEq,Nat.reduceEqDiff,Nat.reduceAdd,Nat.reduceLeDiff,Nat.reduceMul]⟩
  · rintro done a rest H1 hL hlt hi1 ⟨⟨ds, rfl, h2⟩, h3⟩ hlo
    obtain ⟨s, _, rfl⟩ : ∃ s, s ∈ l ∧ spanArg s = a := List.mem_map.1 (by rw [hL]; simp)
    simp only [AH.next_alloc, AH.next_set] at hlt hlo
    simp(maxSteps:=9999999)(disch:=first|omega|(simp only[AN];omega))only[K7,hlo,h2,↓KP,EK,↓reduceIte,reduceCtorEq,Nat.reduceEqDiff,Nat.reduceAdd,Nat.reduceLeDiff,Nat.reduceMul]
    refine ⟨⟨by simp(maxSteps:=9999999)(disch:=first|omega|(simp only[AN];omega))only[↓KP,EK,↓reduceIte,reduceCtorEq,Nat.reduceEqDiff,Nat.reduceAdd,Nat.reduceLeDiff,Nat.reduceMul]; omega, fun b hb hc => ?_⟩, ⟨ds ++ [s], by simp, ?_⟩, fun b h4 h5 => ?_⟩
    · rcases hc with h | h
      · have := hK b h; simp(maxSteps:=9999999)(disch:=first|omega|(simp only[AN];omega))only[↓KP,EK,↓reduceIte,reduceCtorEq,Nat.reduceEqDiff,Nat.reduceAdd,Nat.reduceLeDiff,Nat.reduceMul]
      · simp(maxSteps:=9999999)(disch:=first|omega|(simp only[AN];omega))only[↓KP,EK,↓reduceIte,reduceCtorEq,Nat.reduceEqDiff,Nat.reduceAdd,Nat.reduceLeDiff,Nat.reduceMul]
    · rw [wideL_snoc]; rfl
    · simp(maxSteps:=9999999)(disch:=first|omega|(simp only[AN];omega))only[h3,↓KP,EK,↓reduceIte,reduceCtorEq,Nat.reduceEqDiff,Nat.reduceAdd,Nat.reduceLeDiff,Nat.reduceMul]
  · rintro H2 hn hi2 ⟨⟨ds, h1, h2⟩, h3⟩
    simp(maxSteps:=9999999)(disch:=first|omega|(simp only[AN];omega))only[h2,↓KP,EK,↓reduceIte,reduceCtorEq,Nat.reduceEqDiff,Nat.reduceAdd,Nat.reduceLeDiff,Nat.reduceMul]
    obtain rfl : l = ds := by
      have := List.map_inj_right (f := spanArg) (fun a b e => by simpa [spanArg, Prod.ext_iff] using e) |>.1 h1
      exact this
    refine k _ ?_ ?_ ?_
    · simp only [AH.next_alloc, AH.next_set] at hn; simp(maxSteps:=9999999)(disch:=first|omega|(simp only[AN];omega))only[↓KP,EK,↓reduceIte,reduceCtorEq,Nat.reduceEqDiff,Nat.reduceAdd,Nat.reduceLeDiff,Nat.reduceMul]; omega
    · exact hB H2 _ (Nat.le_refl _) (fun b hb => by have := hK b hb; simp(maxSteps:=9999999)(disch:=first|omega|(simp only[AN];omega))only[↓KP,EK,↓reduceIte,reduceCtorEq,Nat.reduceEqDiff,Nat.reduceAdd,Nat.reduceLeDiff,Nat.reduceMul]) hi2
    · intro b h4 h5; simp(maxSteps:=9999999)(disch:=first|omega|(simp only[AN];omega))only[↓KP,EK,↓reduceIte,reduceCtorEq,Nat.reduceEqDiff,Nat.reduceAdd,Nat.reduceLeDiff,Nat.reduceMul]; exact h3 b h4 h5
  · intro x H2 _ _ _ h; exact h.elim
structure Watch (N p m b1 b2 : Nat) (w : AV) (v1 v2 : AV) (h : House) (but : Nat) (B H : AH) : Prop where
  held : Held N p m v1 v2 h but H
  base : ∀ b, b < N → b ≠ m → H.get b = B.get b
  e1 : H.get b1 = some (.cells false [.ptr p 0])
  e2 : H.get b2 = some (.cells false [w])
  lt1 : b1 < H.next
  lt2 : b2 < H.next
  ge1 : N ≤ b1
  ne2 : b2 ≠ m
abbrev Kw (N b1 b2 : Nat) : Nat → Prop := fun b => b < N ∨ b = b1 ∨ b = b2
theorem Kw.not {N b1 b2 b : Nat} (h : ¬ Kw N b1 b2 b) : N ≤ b ∧ b ≠ b1 ∧ b ≠ b2 := by
  simp only [Kw, not_or] at h; omega
theorem Held.keep {N p m : Nat} {v1 v2 : AV} {h : House} {but : Nat} {H1 H2 : AH} (hr : Held N p m v1 v2 h but H1) (hn : H1.next ≤ H2.next) (hs : ∀ b, b < N → H2.get b = H1.get b) : Held N p m v1 v2 h but H2 := by
  obtain ⟨⟨a1, a2, a3, a4, a5, a6⟩, ⟨es, b1, b2⟩⟩ := hr
  exact ⟨⟨by rw [hs _ a3]; exact a1, a2.move fun b hb => ⟨hb, hs _ hb.1⟩, a3, a4, a5, by omega⟩, ⟨es, by rw [hs _ a4]; exact b1, b2⟩⟩
theorem Watch.keep {N p m b1 b2 : Nat} {w v1 v2 : AV} {h : House} {but : Nat} {B H1 H2 : AH} (hw : Watch N p m b1 b2 w v1 v2 h but B H1) (hn : H1.next ≤ H2.next) (hs : ∀ b, Kw N b1 b2 b → H2.get b = H1.get b) : Watch N p m b1 b2 w v1 v2 h but B H2 := by
  obtain ⟨c1, c2, c3, c4, c5, c6, c7, c8⟩ := hw
  exact ⟨c1.keep hn fun b hb => hs b (.inl hb), fun b h1 h2 => by rw [hs b (.inl h1)]; exact c2 b h1 h2, by rw [hs _ (.inr (.inl rfl))]; exact c3, by rw [hs _ (.inr (.inr rfl))]; exact c4, by omega, by omega, c7, c8⟩
theorem Watch.back {N p m b1 b2 bh : Nat} {w v1 v2 : AV} {h : House} {but : Nat} {B B' H1 : AH} (hr : Ready N p m bh v1 v2 h but B' H1) (hB : ∀ b, b < N → b ≠ m → B'.get b = B.get b) (e1 : H1.get b1 = some (.cells false [.ptr p 0])) (e2 : N ≤ b2 → H1.get b2 = some (.cells false [w])) (e2' : b2 < N → B.get b2 = some (.cells false [w])) (lt1 : b1 < H1.next) (lt2 : b2 < H1.next) (ge1 : N ≤ b1) (ne2 : b2 ≠ m) : Watch N p m b1 b2 w v1 v2 h but B H1 :=
  ⟨hr.held, fun b h1 h2 => by rw [hr.base b h1 h2, hB b h1 h2], e1, by
    by_cases hb : b2 < N
    · rw [hr.base b2 hb ne2, hB b2 hb ne2]; exact e2' hb
    · exact e2 (by omega), lt1, lt2, ge1, ne2⟩
theorem watch_iter {N p m b1 b2 w : Nat} {v1 v2 : AV} {h : House} {but : Nat} {B : AH} (hfine : Fine h) (hbut : but < 4096) (hw : w < h.ws.length) : Iter prog (.func 66 [] [.ptr b1 0, .ptr b2 0]) (((truthsE (lookE h but)).map fun fs => (getI fs w, getI fs w)).map spanArg) (Kw N b1 b2) (Watch N p m b1 b2 (I w) v1 v2 h but B) := by
  refine ⟨fun H1 H2 hn hs hr => hr.keep hn hs, fun H hr b hb => by have := hr.lt1; have := hr.lt2; have := hr.held.look.nle; rcases hb with h | h | h <;> omega, fun H l Y S R hNl hl hi hY hS hy hfin h0 => ?_⟩
  have hbl1 : b1 < l := hNl _ (.inr (.inl rfl))
  have hbl2 : b2 < l := hNl _ (.inr (.inr rfl))
  have hNle : N ≤ l := Nat.not_lt.1 fun h => by have := hNl l (.inl h); omega
  have e1 := hi.e1
  have e2 := hi.e2
  have ge1 := hi.ge1
  refine CallQ_enter (fn:=c66) rfl (Nat.le_of_ble_eq_true rfl) ?_;simp(maxSteps:=9999999)(disch:=first|omega|(simp only[AN];omega))only[c66,envFrom,e1,↓KP,EK,↓reduceIte,reduceCtorEq,Nat.reduceEqDiff,Nat.reduceAdd,Nat.reduceLeDiff,Nat.reduceMul]
  first|refine C_call ?_|refine C_calld ?_
  refine truths_run p ?_
  have hr1 := (hi.held.up ((Grew.refl H).alloc (.cells false [.yield l]))).ready
  simp(maxSteps:=9999999)(disch:=first|omega|(simp only[AN];omega))only[↓KP,EK,↓reduceIte,reduceCtorEq,Nat.reduceEqDiff,Nat.reduceAdd,Nat.reduceLeDiff,Nat.reduceMul]
  have hNH := hi.held.look.nle
  have hbase : ∀ b, b < N → b ≠ m → ((H.alloc (.cells false [.yield l])).alloc (.cells false [.ptr p 0])).get b = B.get b := fun b h1 h2 => by simp(maxSteps:=9999999)(disch:=first|omega|(simp only[AN];omega))only[↓KP,EK,↓reduceIte,reduceCtorEq,Nat.reduceEqDiff,Nat.reduceAdd,Nat.reduceLeDiff,Nat.reduceMul]; exact hi.base b h1 h2
  have e2' : b2 < N → B.get b2 = some (.cells false [I w]) := fun h => by rw [← hi.base b2 h hi.ne2]; exact e2
  have hY0 : Y [] ((H.alloc (.cells false [.yield l])).alloc (.cells false [.ptr p 0])) := hY [] H _ (by simp(maxSteps:=9999999)(disch:=first|omega|(simp only[AN];omega))only[↓KP,EK,↓reduceIte,reduceCtorEq,Nat.reduceEqDiff,Nat.reduceAdd,Nat.reduceLeDiff,Nat.reduceMul]; omega) (fun b h1 h2 => by simp(maxSteps:=9999999)(disch:=first|omega|(simp only[AN];omega))only[↓KP,EK,↓reduceIte,reduceCtorEq,Nat.reduceEqDiff,Nat.reduceAdd,Nat.reduceLeDiff,Nat.reduceMul]) h0
  have ey : ((H.alloc (.cells false [.yield l])).alloc (.cells false [.ptr p 0])).get H.next = some (.cells false [.yield l]) := by simp(maxSteps:=9999999)(disch:=first|omega|(simp only[AN];omega))only[↓KP,EK,↓reduceIte,reduceCtorEq,Nat.reduceEqDiff,Nat.reduceAdd,Nat.reduceLeDiff,Nat.reduceMul]
  have eb1 : ((H.alloc (.cells false [.yield l])).alloc (.cells false [.ptr p 0])).get b1 = some (.cells false [.ptr p 0]) := by simp(maxSteps:=9999999)(disch:=first|omega|(simp only[AN];omega))only[e1,↓KP,EK,↓reduceIte,reduceCtorEq,Nat.reduceEqDiff,Nat.reduceAdd,Nat.reduceLeDiff,Nat.reduceMul]
  have eb2 : ((H.alloc (.cells false [.yield l])).alloc (.cells false [.ptr p 0])).get b2 = some (.cells false [I w]) := by simp(maxSteps:=9999999)(disch:=first|omega|(simp only[AN];omega))only[e2,↓KP,EK,↓reduceIte,reduceCtorEq,Nat.reduceEqDiff,Nat.reduceAdd,Nat.reduceLeDiff,Nat.reduceMul]
  have hBn : ((H.alloc (.cells false [.yield l])).alloc (.cells false [.ptr p 0])).next = H.next + 2 := rfl
  generalize (H.alloc (.cells false [.yield l])).alloc (.cells false [.ptr p 0]) = B' at hr1 hbase hY0 ey eb1 eb2 hBn
  refine K_iter (L := yields h but) (K := Kh N (H.next + 1)) (Inv := Ready N p m (H.next + 1) v1 v2 h but B') rfl (truths_iter hfine hbut) hr1 (fun a ha => ?_)
    (fun done H2 => (∃ ds rs, truthsE (lookE h but) = ds ++ rs ∧ done = ds.map (argT (lookE h but)) ∧ Y ((ds.map fun fs => (getI fs w, getI fs w)).map spanArg) H2) ∧ H2.get H.next = some (.cells false [.yield l]) ∧ H2.get b1 = some (.cells false [.ptr p 0]) ∧ (N ≤ b2 → H2.get b2 = some (.cells false [I w])))
    (fun x H2 => x = .ret ∧ S H2 ∧ H2.get b1 = some (.cells false [.ptr p 0]) ∧ (N ≤ b2 → H2.get b2 = some (.cells false [I w]))) ?_ ?_ ?_ ?_ ?_ ?_
  · obtain ⟨fs, _, rfl⟩ := List.mem_map.1 ha; rfl
  · rintro done H1 H2 hn hs ⟨⟨ds, rs, h1, h2, h3⟩, h4, h5, h6⟩
    refine ⟨⟨ds, rs, h1, h2, hY _ H1 H2 hn (fun b h7 h8 => hs b (by have := Kw.not h7; simp only [Kh]; omega) (by omega)) h3⟩, by rw [hs _ (by simp only [Kh]; omega) (by omega)]; exact h4, by rw [hs _ (by simp only [Kh]; omega) (by omega)]; exact h5, fun h => by rw [hs _ (by simp only [Kh]; omega) (by omega)]; exact h6 h⟩
  · rintro x H1 H2 hn hs ⟨h1, h3, h5, h6⟩
    refine ⟨h1, hS H1 H2 hn (fun b h7 h8 => hs b (by have := Kw.not h7; simp only [Kh]; omega) (by omega)) h3, by rw [hs _ (by simp only [Kh]; omega) (by omega)]; exact h5, fun h => by rw [hs _ (by simp only [Kh]; omega) (by omega)]; exact h6 h⟩
  · exact ⟨⟨[], _, rfl, rfl, hY0⟩, ey, eb1, fun _ => eb2⟩
  · rintro done a rest H1 hL hlt hi1 ⟨⟨ds, rs, h1, rfl, h3⟩, h4, h5, h6⟩ hlo
    rw [yields, h1, List.map_append, List.append_cancel_left_eq] at hL
    cases rs with
    | nil => cases hL
    | cons fs rs =>
      simp only [List.map_cons, List.cons.injEq] at hL
      obtain ⟨rfl, rfl⟩ := hL
      have hwat := Watch.back hi1 hbase h5 h6 e2' (by omega) (by omega) ge1 hi.ne2
      have hw2 := hwat.e2
      have hw3 := hfine.ws
      have hget := three_get (getI fs 0) (getI fs 1) (getI fs 2) (n := w) (by omega)
      have hget' : [getI fs 0, getI fs 1, getI fs 2][w]'(by simp; omega) = getI fs w := by
        rcases (show w = 0 ∨ w = 1 ∨ w = 2 by omega) with rfl | rfl | rfl <;> rfl
      rw [hget'] at hget
      have hix : ∀ S b, opIdxArr 3 1 (.ptr b 0) (I w) S = some (.ptr b w, S) := fun S b => by
        have : w < 3 := by omega
        simp [opIdxArr, natOf, this]
      simp(maxSteps:=9999999)(disch:=first|omega|(simp only[AN];omega))only[K7,hlo,argT,pad3,List.map_cons,List.map_nil,↓KP,EK,↓reduceIte,reduceCtorEq,Nat.reduceEqDiff,Nat.reduceAdd,Nat.reduceLeDiff,Nat.reduceMul]
      refine K_draw ?_;simp(maxSteps:=9999999)(disch:=first|omega|(simp only[AN];omega))only[h4,hw2,hix,hget,↓KP,EK,↓reduceIte,reduceCtorEq,Nat.reduceEqDiff,Nat.reduceAdd,Nat.reduceLeDiff,Nat.reduceMul]
      refine C_calld (CallQ.mono (hy ((ds.map fun fs => (getI fs w, getI fs w)).map spanArg) (spanArg (getI fs w, getI fs w)) ((rs.map fun fs => (getI fs w, getI fs w)).map spanArg) _ (by rw [h1]; simp) ?_ (hwat.keep ?_ fun b hb => ?_) (hY _ H1 _ ?_ (fun b h7 h8 => ?_) h3)) fun v H3 hv => ?_)
      · simp(maxSteps:=9999999)(disch:=first|omega|(simp only[AN];omega))only[↓KP,EK,↓reduceIte,reduceCtorEq,Nat.reduceEqDiff,Nat.reduceAdd,Nat.reduceLeDiff,Nat.reduceMul]; omega
      · simp(maxSteps:=9999999)(disch:=first|omega|(simp only[AN];omega))only[↓KP,EK,↓reduceIte,reduceCtorEq,Nat.reduceEqDiff,Nat.reduceAdd,Nat.reduceLeDiff,Nat.reduceMul]; omega
      · have : b < H.next := by rcases hb with h | h | h <;> omega
        simp(maxSteps:=9999999)(disch:=first|omega|(simp only[AN];omega))only[↓KP,EK,↓reduceIte,reduceCtorEq,Nat.reduceEqDiff,Nat.reduceAdd,Nat.reduceLeDiff,Nat.reduceMul]
      · simp(maxSteps:=9999999)(disch:=first|omega|(simp only[AN];omega))only[↓KP,EK,↓reduceIte,reduceCtorEq,Nat.reduceEqDiff,Nat.reduceAdd,Nat.reduceLeDiff,Nat.reduceMul]; omega
      · simp(maxSteps:=9999999)(disch:=first|omega|(simp only[AN];omega))only[↓KP,EK,↓reduceIte,reduceCtorEq,Nat.reduceEqDiff,Nat.reduceAdd,Nat.reduceLeDiff,Nat.reduceMul]
      · obtain ⟨⟨k1, k2⟩, hor⟩ := hv
        simp only [AH.next_alloc, AH.next_set] at k1
        have kk : ∀ b, b < H1.next → b ≠ B'.next → (b < N ∨ b = b1 ∨ b = b2 ∨ l < b) → H3.get b = H1.get b := fun b h7 h8 h9 => by
          rw [k2 b (by simp(maxSteps:=9999999)(disch:=first|omega|(simp only[AN];omega))only[↓KP,EK,↓reduceIte,reduceCtorEq,Nat.reduceEqDiff,Nat.reduceAdd,Nat.reduceLeDiff,Nat.reduceMul]; omega) (by simp only [Kw]; omega)]
          simp(maxSteps:=9999999)(disch:=first|omega|(simp only[AN];omega))only[↓KP,EK,↓reduceIte,reduceCtorEq,Nat.reduceEqDiff,Nat.reduceAdd,Nat.reduceLeDiff,Nat.reduceMul]
        have klo := k2 B'.next (by simp(maxSteps:=9999999)(disch:=first|omega|(simp only[AN];omega))only[↓KP,EK,↓reduceIte,reduceCtorEq,Nat.reduceEqDiff,Nat.reduceAdd,Nat.reduceLeDiff,Nat.reduceMul]; omega) (.inr (by omega))
        simp only [get_set_same] at klo
        rcases hor with ⟨rfl, hy3⟩ | ⟨rfl, hS3⟩
        · simp(maxSteps:=9999999)(disch:=first|omega|(simp only[AN];omega))only[h4,hw2,hix,hget,K7,↓KP,EK,↓reduceIte,reduceCtorEq,Nat.reduceEqDiff,Nat.reduceAdd,Nat.reduceLeDiff,Nat.reduceMul]
          exact ⟨klo, ⟨by omega, fun b h7 h8 => kk b h7 (by simp only [Kh] at h8; omega) (by simp only [Kh] at h8; omega)⟩, ⟨ds ++ [fs], rs, by rw [h1]; simp, by rw [List.map_append]; rfl, by simpa using hy3⟩, by rw [kk _ (by omega) (by omega) (by omega)]; exact h4, by rw [kk _ (by omega) (by omega) (by omega)]; exact h5, fun h => by rw [kk _ (by omega) (by omega) (by omega)]; exact h6 h⟩
        · simp(maxSteps:=9999999)(disch:=first|omega|(simp only[AN];omega))only[h4,hw2,hix,hget,K7,↓KP,EK,↓reduceIte,reduceCtorEq,Nat.reduceEqDiff,Nat.reduceAdd,Nat.reduceLeDiff,Nat.reduceMul]
          exact ⟨klo, ⟨by omega, fun b h7 h8 => kk b h7 (by simp only [Kh] at h8; omega) (by simp only [Kh] at h8; omega)⟩, hS3, by rw [kk _ (by omega) (by omega) (by omega)]; exact h5, fun h => by rw [kk _ (by omega) (by omega) (by omega)]; exact h6 h⟩
  · rintro H2 hn hi2 ⟨⟨ds, rs, h1, h2, h3⟩, h4, h5, h6⟩
    have hrs : rs = [] := by
      have := congrArg List.length h2
      rw [yields, h1, List.length_map, List.length_map, List.length_append] at this
      exact List.length_eq_zero_iff.1 (by omega)
    subst hrs
    rw [List.append_nil] at h1
    simp(maxSteps:=9999999)(disch:=first|omega|(simp only[AN];omega))only[↓KP,EK,↓reduceIte,reduceCtorEq,Nat.reduceEqDiff,Nat.reduceAdd,Nat.reduceLeDiff,Nat.reduceMul]
    exact hfin _ (by omega) (Watch.back hi2 hbase h5 h6 e2' (by omega) (by omega) ge1 hi.ne2) (.inl (by rw [h1]; exact h3))
  · rintro x H2 hx hn hi2 ⟨rfl, h3, h5, h6⟩
    simp(maxSteps:=9999999)(disch:=first|omega|(simp only[AN];omega))only[↓KP,EK,↓reduceIte,reduceCtorEq,Nat.reduceEqDiff,Nat.reduceAdd,Nat.reduceLeDiff,Nat.reduceMul]
    exact hfin _ (by omega) (Watch.back hi2 hbase h5 h6 e2' (by omega) (by omega) ge1 hi.ne2) (.inr h3)
theorem nums_get {h : House} {fs : List Int} {n d : Nat} (hd : d < 4) (hn : d < n) : (((numsTo h fs n).map I).drop (d * 2)).take 2 = [I (numbersE h d fs).1, I (numbersE h d fs).2] := by
  have hl : ∀ e, (if e < n then [(numbersE h e fs).1, (numbersE h e fs).2] else [0, 0]) = [if e < n then (numbersE h e fs).1 else 0, if e < n then (numbersE h e fs).2 else 0] := fun e => by split <;> rfl
  simp only [numsTo, show List.range 4 = [0, 1, 2, 3] from rfl, List.flatMap_cons, List.flatMap_nil, hl]
  match d, hd with
  | 0, _ => simp [hn]
  | 1, _ => simp [hn]
  | 2, _ => simp [hn]
  | 3, _ => simp [hn]
theorem day_iter {N p m b1 b2 w : Nat} {v1 v2 : AV} {h : House} {but : Nat} {B : AH} (hfine : Fine h) (hbut : but < 4096) (hw : w < h.days.length) : Iter prog (.func 71 [] [.ptr b1 0, .ptr b2 0]) (((truthsE (lookE h but)).map fun fs => numbersE (lookE h but) w fs).map spanArg) (Kw N b1 b2) (Watch N p m b1 b2 (I w) v1 v2 h but B) := by
  refine ⟨fun H1 H2 hn hs hr => hr.keep hn hs, fun H hr b hb => by have := hr.lt1; have := hr.lt2; have := hr.held.look.nle; rcases hb with h | h | h <;> omega, fun H l Y S R hNl hl hi hY hS hy hfin h0 => ?_⟩
  have hbl1 : b1 < l := hNl _ (.inr (.inl rfl))
  have hbl2 : b2 < l := hNl _ (.inr (.inr rfl))
  have hNle : N ≤ l := Nat.not_lt.1 fun h => by have := hNl l (.inl h); omega
  have e1 := hi.e1
  have e2 := hi.e2
  have ge1 := hi.ge1
  refine CallQ_enter (fn:=c71) rfl (Nat.le_of_ble_eq_true rfl) ?_;simp(maxSteps:=9999999)(disch:=first|omega|(simp only[AN];omega))only[c71,envFrom,e1,↓KP,EK,↓reduceIte,reduceCtorEq,Nat.reduceEqDiff,Nat.reduceAdd,Nat.reduceLeDiff,Nat.reduceMul]
  first|refine C_call ?_|refine C_calld ?_
  refine truths_run p ?_
  have hr1 := (hi.held.up ((Grew.refl H).alloc (.cells false [.yield l]))).ready
  simp(maxSteps:=9999999)(disch:=first|omega|(simp only[AN];omega))only[↓KP,EK,↓reduceIte,reduceCtorEq,Nat.reduceEqDiff,Nat.reduceAdd,Nat.reduceLeDiff,Nat.reduceMul]
  have hNH := hi.held.look.nle
  have hbase : ∀ b, b < N → b ≠ m → ((H.alloc (.cells false [.yield l])).alloc (.cells false [.ptr p 0])).get b = B.get b := fun b h1 h2 => by simp(maxSteps:=9999999)(disch:=first|omega|(simp only[AN];omega))only[↓KP,EK,↓reduceIte,reduceCtorEq,Nat.reduceEqDiff,Nat.reduceAdd,Nat.reduceLeDiff,Nat.reduceMul]; exact hi.base b h1 h2
  have e2' : b2 < N → B.get b2 = some (.cells false [I w]) := fun h => by rw [← hi.base b2 h hi.ne2]; exact e2
  have hY0 : Y [] ((H.alloc (.cells false [.yield l])).alloc (.cells false [.ptr p 0])) := hY [] H _ (by simp(maxSteps:=9999999)(disch:=first|omega|(simp only[AN];omega))only[↓KP,EK,↓reduceIte,reduceCtorEq,Nat.reduceEqDiff,Nat.reduceAdd,Nat.reduceLeDiff,Nat.reduceMul]; omega) (fun b h1 h2 => by simp(maxSteps:=9999999)(disch:=first|omega|(simp only[AN];omega))only[↓KP,EK,↓reduceIte,reduceCtorEq,Nat.reduceEqDiff,Nat.reduceAdd,Nat.reduceLeDiff,Nat.reduceMul]) h0
  have ey : ((H.alloc (.cells false [.yield l])).alloc (.cells false [.ptr p 0])).get H.next = some (.cells false [.yield l]) := by simp(maxSteps:=9999999)(disch:=first|omega|(simp only[AN];omega))only[↓KP,EK,↓reduceIte,reduceCtorEq,Nat.reduceEqDiff,Nat.reduceAdd,Nat.reduceLeDiff,Nat.reduceMul]
  have eb1 : ((H.alloc (.cells false [.yield l])).alloc (.cells false [.ptr p 0])).get b1 = some (.cells false [.ptr p 0]) := by simp(maxSteps:=9999999)(disch:=first|omega|(simp only[AN];omega))only[e1,↓KP,EK,↓reduceIte,reduceCtorEq,Nat.reduceEqDiff,Nat.reduceAdd,Nat.reduceLeDiff,Nat.reduceMul]
  have eb2 : ((H.alloc (.cells false [.yield l])).alloc (.cells false [.ptr p 0])).get b2 = some (.cells false [I w]) := by simp(maxSteps:=9999999)(disch:=first|omega|(simp only[AN];omega))only[e2,↓KP,EK,↓reduceIte,reduceCtorEq,Nat.reduceEqDiff,Nat.reduceAdd,Nat.reduceLeDiff,Nat.reduceMul]
  have hBn : ((H.alloc (.cells false [.yield l])).alloc (.cells false [.ptr p 0])).next = H.next + 2 := rfl
  generalize (H.alloc (.cells false [.yield l])).alloc (.cells false [.ptr p 0]) = B' at hr1 hbase hY0 ey eb1 eb2 hBn
  refine K_iter (L := yields h but) (K := Kh N (H.next + 1)) (Inv := Ready N p m (H.next + 1) v1 v2 h but B') rfl (truths_iter hfine hbut) hr1 (fun a ha => ?_)
    (fun done H2 => (∃ ds rs, truthsE (lookE h but) = ds ++ rs ∧ done = ds.map (argT (lookE h but)) ∧ Y ((ds.map fun fs => numbersE (lookE h but) w fs).map spanArg) H2) ∧ H2.get H.next = some (.cells false [.yield l]) ∧ H2.get b1 = some (.cells false [.ptr p 0]) ∧ (N ≤ b2 → H2.get b2 = some (.cells false [I w])))
    (fun x H2 => x = .ret ∧ S H2 ∧ H2.get b1 = some (.cells false [.ptr p 0]) ∧ (N ≤ b2 → H2.get b2 = some (.cells false [I w]))) ?_ ?_ ?_ ?_ ?_ ?_
  · obtain ⟨fs, _, rfl⟩ := List.mem_map.1 ha; rfl
  · rintro done H1 H2 hn hs ⟨⟨ds, rs, h1, h2, h3⟩, h4, h5, h6⟩
    refine ⟨⟨ds, rs, h1, h2, hY _ H1 H2 hn (fun b h7 h8 => hs b (by have := Kw.not h7; simp only [Kh]; omega) (by omega)) h3⟩, by rw [hs _ (by simp only [Kh]; omega) (by omega)]; exact h4, by rw [hs _ (by simp only [Kh]; omega) (by omega)]; exact h5, fun h => by rw [hs _ (by simp only [Kh]; omega) (by omega)]; exact h6 h⟩
  · rintro x H1 H2 hn hs ⟨h1, h3, h5, h6⟩
    refine ⟨h1, hS H1 H2 hn (fun b h7 h8 => hs b (by have := Kw.not h7; simp only [Kh]; omega) (by omega)) h3, by rw [hs _ (by simp only [Kh]; omega) (by omega)]; exact h5, fun h => by rw [hs _ (by simp only [Kh]; omega) (by omega)]; exact h6 h⟩
  · exact ⟨⟨[], _, rfl, rfl, hY0⟩, ey, eb1, fun _ => eb2⟩
  · rintro done a rest H1 hL hlt hi1 ⟨⟨ds, rs, h1, rfl, h3⟩, h4, h5, h6⟩ hlo
    rw [yields, h1, List.map_append, List.append_cancel_left_eq] at hL
    cases rs with
    | nil => cases hL
    | cons fs rs =>
      simp only [List.map_cons, List.cons.injEq] at hL
      obtain ⟨rfl, rfl⟩ := hL
      have hwat := Watch.back hi1 hbase h5 h6 e2' (by omega) (by omega) ge1 hi.ne2
      have hw2 := hwat.e2
      have hd4 := hfine.days
      obtain ⟨x0, x1, x2, x3, x4, x5, x6, x7, he⟩ := eight (show (numsE (lookE h but) fs).length = 8 from nums_length)
      have hget := nums_get (h := lookE h but) (fs := fs) (n := (lookE h but).days.length) (d := w) (by omega) (by rw [maskE_length]; exact hw)
      rw [show numsTo (lookE h but) fs (lookE h but).days.length = numsE (lookE h but) fs from rfl, he] at hget
      simp only [List.map_cons, List.map_nil] at hget
      have hlen8 : w * 2 + 2 ≤ 8 := by omega
      have hix : ∀ S b, opIdxArr 4 2 (.ptr b 0) (I w) S = some (.ptr b (w * 2), S) := fun S b => by
        have : w < 4 := by omega
        simp [opIdxArr, natOf, this]
      simp(maxSteps:=9999999)(disch:=first|omega|(simp only[AN];omega))only[K7,hlo,argT,pad3,he,List.map_cons,List.map_nil,↓KP,EK,↓reduceIte,reduceCtorEq,Nat.reduceEqDiff,Nat.reduceAdd,Nat.reduceLeDiff,Nat.reduceMul]
      refine K_draw ?_;simp(maxSteps:=9999999)(disch:=first|omega|(simp only[AN];omega))only[h4,hw2,hix,hget,hlen8,↓KP,EK,↓reduceIte,reduceCtorEq,Nat.reduceEqDiff,Nat.reduceAdd,Nat.reduceLeDiff,Nat.reduceMul]
      refine C_calld (CallQ.mono (hy ((ds.map fun fs => numbersE (lookE h but) w fs).map spanArg) (spanArg (numbersE (lookE h but) w fs)) ((rs.map fun fs => numbersE (lookE h but) w fs).map spanArg) _ (by rw [h1]; simp) ?_ (hwat.keep ?_ fun b hb => ?_) (hY _ H1 _ ?_ (fun b h7 h8 => ?_) h3)) fun v H3 hv => ?_)
      · simp(maxSteps:=9999999)(disch:=first|omega|(simp only[AN];omega))only[↓KP,EK,↓reduceIte,reduceCtorEq,Nat.reduceEqDiff,Nat.reduceAdd,Nat.reduceLeDiff,Nat.reduceMul]; omega
      · simp(maxSteps:=9999999)(disch:=first|omega|(simp only[AN];omega))only[↓KP,EK,↓reduceIte,reduceCtorEq,Nat.reduceEqDiff,Nat.reduceAdd,Nat.reduceLeDiff,Nat.reduceMul]; omega
      · have : b < H.next := by rcases hb with h | h | h <;> omega
        simp(maxSteps:=9999999)(disch:=first|omega|(simp only[AN];omega))only[↓KP,EK,↓reduceIte,reduceCtorEq,Nat.reduceEqDiff,Nat.reduceAdd,Nat.reduceLeDiff,Nat.reduceMul]
      · simp(maxSteps:=9999999)(disch:=first|omega|(simp only[AN];omega))only[↓KP,EK,↓reduceIte,reduceCtorEq,Nat.reduceEqDiff,Nat.reduceAdd,Nat.reduceLeDiff,Nat.reduceMul]; omega
      · simp(maxSteps:=9999999)(disch:=first|omega|(simp only[AN];omega))only[↓KP,EK,↓reduceIte,reduceCtorEq,Nat.reduceEqDiff,Nat.reduceAdd,Nat.reduceLeDiff,Nat.reduceMul]
      · obtain ⟨⟨k1, k2⟩, hor⟩ := hv
        simp only [AH.next_alloc, AH.next_set] at k1
        have kk : ∀ b, b < H1.next → b ≠ B'.next → (b < N ∨ b = b1 ∨ b = b2 ∨ l < b) → H3.get b = H1.get b := fun b h7 h8 h9 => by
          rw [k2 b (by simp(maxSteps:=9999999)(disch:=first|omega|(simp only[AN];omega))only[↓KP,EK,↓reduceIte,reduceCtorEq,Nat.reduceEqDiff,Nat.reduceAdd,Nat.reduceLeDiff,Nat.reduceMul]; omega) (by simp only [Kw]; omega)]
          simp(maxSteps:=9999999)(disch:=first|omega|(simp only[AN];omega))only[↓KP,EK,↓reduceIte,reduceCtorEq,Nat.reduceEqDiff,Nat.reduceAdd,Nat.reduceLeDiff,Nat.reduceMul]
        have klo := k2 B'.next (by simp(maxSteps:=9999999)(disch:=first|omega|(simp only[AN];omega))only[↓KP,EK,↓reduceIte,reduceCtorEq,Nat.reduceEqDiff,Nat.reduceAdd,Nat.reduceLeDiff,Nat.reduceMul]; omega) (.inr (by omega))
        simp only [get_set_same] at klo
        rcases hor with ⟨rfl, hy3⟩ | ⟨rfl, hS3⟩
        · simp(maxSteps:=9999999)(disch:=first|omega|(simp only[AN];omega))only[h4,hw2,hix,hget,hlen8,K7,↓KP,EK,↓reduceIte,reduceCtorEq,Nat.reduceEqDiff,Nat.reduceAdd,Nat.reduceLeDiff,Nat.reduceMul]
          exact ⟨klo, ⟨by omega, fun b h7 h8 => kk b h7 (by simp only [Kh] at h8; omega) (by simp only [Kh] at h8; omega)⟩, ⟨ds ++ [fs], rs, by rw [h1]; simp, by rw [List.map_append]; simp only [List.map_cons, List.map_nil, argT, pad3, he], by simpa using hy3⟩, by rw [kk _ (by omega) (by omega) (by omega)]; exact h4, by rw [kk _ (by omega) (by omega) (by omega)]; exact h5, fun h => by rw [kk _ (by omega) (by omega) (by omega)]; exact h6 h⟩
        · simp(maxSteps:=9999999)(disch:=first|omega|(simp only[AN];omega))only[h4,hw2,hix,hget,hlen8,K7,↓KP,EK,↓reduceIte,reduceCtorEq,Nat.reduceEqDiff,Nat.reduceAdd,Nat.reduceLeDiff,Nat.reduceMul]
          exact ⟨klo, ⟨by omega, fun b h7 h8 => kk b h7 (by simp only [Kh] at h8; omega) (by simp only [Kh] at h8; omega)⟩, hS3, by rw [kk _ (by omega) (by omega) (by omega)]; exact h5, fun h => by rw [kk _ (by omega) (by omega) (by omega)]; exact h6 h⟩
  · rintro H2 hn hi2 ⟨⟨ds, rs, h1, h2, h3⟩, h4, h5, h6⟩
    have hrs : rs = [] := by
      have := congrArg List.length h2
      rw [yields, h1, List.length_map, List.length_map, List.length_append] at this
      exact List.length_eq_zero_iff.1 (by omega)
    subst hrs
    rw [List.append_nil] at h1
    simp(maxSteps:=9999999)(disch:=first|omega|(simp only[AN];omega))only[↓KP,EK,↓reduceIte,reduceCtorEq,Nat.reduceEqDiff,Nat.reduceAdd,Nat.reduceLeDiff,Nat.reduceMul]
    exact hfin _ (by omega) (Watch.back hi2 hbase h5 h6 e2' (by omega) (by omega) ge1 hi.ne2) (.inl (by rw [h1]; exact h3))
  · rintro x H2 hx hn hi2 ⟨rfl, h3, h5, h6⟩
    simp(maxSteps:=9999999)(disch:=first|omega|(simp only[AN];omega))only[↓KP,EK,↓reduceIte,reduceCtorEq,Nat.reduceEqDiff,Nat.reduceAdd,Nat.reduceLeDiff,Nat.reduceMul]
    exact hfin _ (by omega) (Watch.back hi2 hbase h5 h6 e2' (by omega) (by omega) ge1 hi.ne2) (.inr h3)
theorem wideL_hull {l : List (Int × Int)} (h : ∀ x ∈ l, x.1 ≤ 9223372036854775807 ∧ -1 ≤ x.2) (h0 : l ≠ []) : wideL l = hull l := by
  have key : ∀ (l : List (Int × Int)) (s : Int × Int), l.foldl wider s = l.foldl join s := fun l => by
    induction l with
    | nil => intro s; rfl
    | cons x l ih =>
      intro s
      rw [List.foldl_cons, List.foldl_cons, ih]
      congr 1
      simp only [wider, join, Prod.mk.injEq]
      omega
  cases l with
  | nil => exact absurd rfl h0
  | cons x l =>
    rw [wideL, key, List.foldl_cons, hull, hullFrom]
    congr 1
    have := h x (by simp)
    simp only [join]
    exact Prod.ext (by simp only; omega) (by simp only; omega)
theorem factorE_err {h : House} {w : Int} : enterErr h [w, h.ws.length] 0 = if indexE h w h.ws.length ≠ 0 then indexE h w h.ws.length else if truthsE h = [] then 8 else 0 := by
  unfold enterErr indexE
  by_cases he : errE h = 0
  · have hp : (pairsOff [w, (h.ws.length : Int)] = true) ↔ ¬ (0 ≤ w ∧ w ≤ (h.ws.length : Int) - 1) := by
      simp only [pairsOff, offP, Bool.or_false, Bool.or_eq_true, decide_eq_true_eq]; omega
    simp only [he, ne_eq, not_true, if_false, if_true]
    by_cases hw : 0 ≤ w ∧ w ≤ (h.ws.length : Int) - 1
    · rw [if_neg (fun e => hp.1 e hw)]; simp [hw]
    · rw [if_pos (hp.2 hw)]; simp [hw]
  · simp [he]
theorem Factor_run (v1 v2 : AV) (h : House) (w : Int) (hh : IsHouse (Old H) H v1 v2 h) (hs : Sized h)
    (k : ∀ H', Grew H H' → R (.tuple [.agg [I (factorE h w).1.1, I (factorE h w).1.2], I (factorE h w).2]) H') : CallQ prog (.func 18 [] []) [.agg [v1, v2], I w] H R := by
  have hg0 : Grew H (((H.alloc (.cells false [v1, v2])).alloc (.cells false [I w])).alloc (.cells false [I 0, I 0])) := GW
  have hfE : factorE h w = if enterErr h [w, h.ws.length] 0 ≠ 0 then ((0, 0), enterErr h [w, h.ws.length] 0) else (hull (factorsOf h w.toNat), 0) := by
    rw [factorE_err, factorE]
    by_cases h1 : indexE h w h.ws.length = 0
    · by_cases h2 : truthsE h = []
      · simp [h1, h2]
      · simp [h1, h2]
    · simp [h1]
  refine CallQ_enter (fn:=c18) rfl (Nat.le_of_ble_eq_true rfl) ?_;simp(maxSteps:=9999999)(disch:=first|omega|(simp only[AN];omega))only[c18,envFrom,hh.1.len,↓KP,EK,↓reduceIte,reduceCtorEq,Nat.reduceEqDiff,Nat.reduceAdd,Nat.reduceLeDiff,Nat.reduceMul]
  have hg1 := (hg0.alloc (.cells false [I w, I h.ws.length]))
  refine C_call (enter_run v1 v2 _ _ h [w, h.ws.length] 0 (hh.grow hg1) (two_slice _ _ _) (by simp) (fun j hj hodd => ?_) rfl (fun _ _ H1 R _ hk => fine_run (hk _ (Grew.refl _))) (fun he H1 hg => ?_) (fun he hfine hne H1 N p m hg hm hheld => ?_))
  · have : j = 1 := by simp at hj; omega
    subst this
    have := hs.ws
    simp only [List.getElem_cons_succ, List.getElem_cons_zero]; omega
  · have hgn := hg.next; simp only [AH.next_alloc] at hgn
    simp(maxSteps:=9999999)(disch:=first|omega|(simp only[AN];omega))only[he,hg.get,↓KP,EK,↓reduceIte,reduceCtorEq,Nat.reduceEqDiff,Nat.reduceAdd,Nat.reduceLeDiff,Nat.reduceMul]
    rw [hfE, if_pos he] at k
    refine k _ ?_
    exact GW
  · have hgn := hg.next; simp only [AH.next_alloc] at hgn
    rw [hfE, if_neg (by omega)] at k
    simp only [AH.next_alloc] at hm
    have hw : 0 ≤ w ∧ w ≤ (h.ws.length : Int) - 1 := by
      rw [factorE_err] at he
      by_cases h1 : indexE h w h.ws.length = 0
      · have := indexE_zero h1; omega
      · simp [h1] at he
    obtain ⟨w', rfl⟩ : ∃ w' : Nat, w = w' := ⟨w.toNat, by omega⟩
    have hmlt := hheld.look.mlt
    have hnle := hheld.look.nle
    have hwa : Watch N p m H1.next (H.next + 1) (I w') v1 v2 h 0 ((H1.alloc (.cells false [.nilptr])).set H1.next (.cells false [.ptr p 0])) ((H1.alloc (.cells false [.nilptr])).set H1.next (.cells false [.ptr p 0])) :=
      ⟨hheld.up GW, fun _ _ _ => rfl, by simp(maxSteps:=9999999)(disch:=first|omega|(simp only[AN];omega))only[↓KP,EK,↓reduceIte,reduceCtorEq,Nat.reduceEqDiff,Nat.reduceAdd,Nat.reduceLeDiff,Nat.reduceMul], by simp(maxSteps:=9999999)(disch:=first|omega|(simp only[AN];omega))only[hg.get,↓KP,EK,↓reduceIte,reduceCtorEq,Nat.reduceEqDiff,Nat.reduceAdd,Nat.reduceLeDiff,Nat.reduceMul], by simp(maxSteps:=9999999)(disch:=first|omega|(simp only[AN];omega))only[↓KP,EK,↓reduceIte,reduceCtorEq,Nat.reduceEqDiff,Nat.reduceAdd,Nat.reduceLeDiff,Nat.reduceMul]; omega, by simp(maxSteps:=9999999)(disch:=first|omega|(simp only[AN];omega))only[↓KP,EK,↓reduceIte,reduceCtorEq,Nat.reduceEqDiff,Nat.reduceAdd,Nat.reduceLeDiff,Nat.reduceMul]; omega, hnle, by omega⟩
    have hold : ∀ b, b < H.next + 4 → ((H1.alloc (.cells false [.nilptr])).set H1.next (.cells false [.ptr p 0])).get b = (((H.alloc (.cells false [v1, v2])).alloc (.cells false [I w'])).alloc (.cells false [I 0, I 0]) |>.alloc (.cells false [I w', I h.ws.length])).get b := fun b hb => by simp(maxSteps:=9999999)(disch:=first|omega|(simp only[AN];omega))only[hg.get,↓KP,EK,↓reduceIte,reduceCtorEq,Nat.reduceEqDiff,Nat.reduceAdd,Nat.reduceLeDiff,Nat.reduceMul]
    simp(maxSteps:=9999999)(disch:=first|omega|(simp only[AN];omega))only[hg.get,↓KP,EK,↓reduceIte,reduceCtorEq,Nat.reduceEqDiff,Nat.reduceAdd,Nat.reduceLeDiff,Nat.reduceMul]
    have hit := watch_iter (N := N) (p := p) (m := m) (b1 := H1.next) (b2 := H.next + 1) (w := w') (v1 := v1) (v2 := v2) (h := h) (but := 0) (B := (H1.alloc (.cells false [.nilptr])).set H1.next (.cells false [.ptr p 0])) hfine (by omega) (by omega)
    refine C_call (wide_run hit hwa fun H2 hn2 hi2 hs2 => ?_)
    simp only [AH.next_alloc, AH.next_set] at hn2
    have e4 : H2.get (H.next + 1 + 1) = some (.cells false [I 0, I 0]) := by rw [hi2.base _ (by omega) (by omega), hold _ (by omega)]; simp(maxSteps:=9999999)(disch:=first|omega|(simp only[AN];omega))only[↓KP,EK,↓reduceIte,reduceCtorEq,Nat.reduceEqDiff,Nat.reduceAdd,Nat.reduceLeDiff,Nat.reduceMul]
    have hne2 : (factorsOf h w') ≠ [] := by simpa [factorsOf] using hne
    have hwide : wideL ((truthsE (lookE h 0)).map fun fs => (getI fs w', getI fs w')) = hull (factorsOf h w') := by
      rw [lookE_zero]
      refine wideL_hull (fun x hx => ?_) hne2
      obtain ⟨fs, hfs, rfl⟩ := List.mem_map.1 hx
      obtain ⟨h1, h2⟩ := truthsE_mem hfine hfs
      have := h2 _ (List.getElem_mem (l := fs) (n := w') (by omega))
      simp only [getI_eq (show w' < fs.length by omega)]; omega
    rw [hwide]
    simp(maxSteps:=9999999)(disch:=first|omega|(simp only[AN];omega))only[e4,↓KP,EK,↓reduceIte,reduceCtorEq,Nat.reduceEqDiff,Nat.reduceAdd,Nat.reduceLeDiff,Nat.reduceMul]
    refine k _ ⟨by simp(maxSteps:=9999999)(disch:=first|omega|(simp only[AN];omega))only[↓KP,EK,↓reduceIte,reduceCtorEq,Nat.reduceEqDiff,Nat.reduceAdd,Nat.reduceLeDiff,Nat.reduceMul]; omega, fun b hb => ?_⟩
    simp(maxSteps:=9999999)(disch:=first|omega|(simp only[AN];omega))only[↓KP,EK,↓reduceIte,reduceCtorEq,Nat.reduceEqDiff,Nat.reduceAdd,Nat.reduceLeDiff,Nat.reduceMul]
    rw [hi2.base _ (by omega) (by omega), hold _ (by omega)]
    simp(maxSteps:=9999999)(disch:=first|omega|(simp only[AN];omega))only[↓KP,EK,↓reduceIte,reduceCtorEq,Nat.reduceEqDiff,Nat.reduceAdd,Nat.reduceLeDiff,Nat.reduceMul]
theorem mul_in' {a b m n : Int} (ha : 0 ≤ a ∧ a ≤ m) (hb : 0 ≤ b ∧ b ≤ n) : 0 ≤ a * b ∧ a * b ≤ m * n :=
  ⟨Int.mul_nonneg ha.1 hb.1, Int.mul_le_mul ha.2 hb.2 hb.1 (by omega)⟩
theorem narrowAll_in : ∀ {ws : List Watcher} {cs fs : List Int} {s : Int × Int}, (∀ w ∈ ws, 0 ≤ w.off ∧ w.off ≤ 9) → (∀ c ∈ cs, -1 ≤ c ∧ c ≤ 120) → (∀ f ∈ fs, 1 ≤ f ∧ f ≤ 300) → 0 ≤ s.1 ∧ s.1 ≤ 40000 → 0 ≤ s.2 ∧ s.2 ≤ 40000 →
    (0 ≤ (narrowAll s ws cs fs).1 ∧ (narrowAll s ws cs fs).1 ≤ 40000) ∧ (0 ≤ (narrowAll s ws cs fs).2 ∧ (narrowAll s ws cs fs).2 ≤ 40000)
  | [], _, _, s, _, _, _, h1, h2 => by simpa [narrowAll] using ⟨h1, h2⟩
  | _ :: _, [], _, s, _, _, _, h1, h2 => by simpa [narrowAll] using ⟨h1, h2⟩
  | _ :: _, _ :: _, [], s, _, _, _, h1, h2 => by simpa [narrowAll] using ⟨h1, h2⟩
  | w :: ws, c :: cs, f :: fs, s, hw, hc, hf, h1, h2 => by
    have hw0 := hw w (by simp)
    have hc0 := hc c (by simp)
    have hf0 := hf f (by simp)
    refine narrowAll_in (ws := ws) (cs := cs) (fs := fs) (s := narrow s w c f) (fun x hx => hw x (by simp [hx])) (fun x hx => hc x (by simp [hx])) (fun x hx => hf x (by simp [hx])) ?_ ?_
    · unfold narrow
      split
      · exact h1
      · have := mul_in' (a := f) (b := max 0 (c - w.off)) (m := 300) (n := 120) (by omega) (by omega)
        simp only; omega
    · unfold narrow
      split
      · exact h2
      · have := mul_in' (a := f) (b := c + w.off) (m := 300) (n := 129) (by omega) (by omega)
        simp only; omega
theorem numbersE_in {h : House} {fs : List Int} (hf : Fine h) {d : Nat} (hd : d < h.days.length) (hfs : ∀ f ∈ fs, 1 ≤ f ∧ f ≤ 300) : (0 ≤ (numbersE h d fs).1 ∧ (numbersE h d fs).1 ≤ 40000) ∧ (0 ≤ (numbersE h d fs).2 ∧ (numbersE h d fs).2 ≤ 40000) := by
  unfold numbersE
  rw [getD_eq hd]
  exact narrowAll_in hf.off (hf.count _ (List.getElem_mem hd)) hfs (by omega) (by omega)
theorem numberE_err {h : House} {w : Int} : enterErr h [w, h.days.length] 0 = if indexE h w h.days.length ≠ 0 then indexE h w h.days.length else if truthsE h = [] then 8 else 0 := by
  unfold enterErr indexE
  by_cases he : errE h = 0
  · have hp : (pairsOff [w, (h.days.length : Int)] = true) ↔ ¬ (0 ≤ w ∧ w ≤ (h.days.length : Int) - 1) := by
      simp only [pairsOff, offP, Bool.or_false, Bool.or_eq_true, decide_eq_true_eq]; omega
    simp only [he, ne_eq, not_true, if_false, if_true]
    by_cases hw : 0 ≤ w ∧ w ≤ (h.days.length : Int) - 1
    · rw [if_neg (fun e => hp.1 e hw)]; simp [hw]
    · rw [if_pos (hp.2 hw)]; simp [hw]
  · simp [he]
theorem Number_run (v1 v2 : AV) (h : House) (w : Int) (hh : IsHouse (Old H) H v1 v2 h) (hs : Sized h)
    (k : ∀ H', Grew H H' → R (.tuple [.agg [I (numberE h w).1.1, I (numberE h w).1.2], I (numberE h w).2]) H') : CallQ prog (.func 20 [] []) [.agg [v1, v2], I w] H R := by
  have hg0 : Grew H (((H.alloc (.cells false [v1, v2])).alloc (.cells false [I w])).alloc (.cells false [I 0, I 0])) := GW
  have hnE : numberE h w = if enterErr h [w, h.days.length] 0 ≠ 0 then ((0, 0), enterErr h [w, h.days.length] 0) else (hull (numbersOf h w.toNat), 0) := by
    rw [numberE_err, numberE]
    by_cases h1 : indexE h w h.days.length = 0
    · by_cases h2 : truthsE h = []
      · simp [h1, h2]
      · simp [h1, h2]
    · simp [h1]
  refine CallQ_enter (fn:=c20) rfl (Nat.le_of_ble_eq_true rfl) ?_;simp(maxSteps:=9999999)(disch:=first|omega|(simp only[AN];omega))only[c20,envFrom,hh.2.len,↓KP,EK,↓reduceIte,reduceCtorEq,Nat.reduceEqDiff,Nat.reduceAdd,Nat.reduceLeDiff,Nat.reduceMul]
  have hg1 := (hg0.alloc (.cells false [I w, I h.days.length]))
  refine C_call (enter_run v1 v2 _ _ h [w, h.days.length] 0 (hh.grow hg1) (two_slice _ _ _) (by simp) (fun j hj hodd => ?_) rfl (fun _ _ H1 R _ hk => fine_run (hk _ (Grew.refl _))) (fun he H1 hg => ?_) (fun he hfine hne H1 N p m hg hm hheld => ?_))
  · have : j = 1 := by simp at hj; omega
    subst this
    have := hs.days
    simp only [List.getElem_cons_succ, List.getElem_cons_zero]; omega
  · have hgn := hg.next; simp only [AH.next_alloc] at hgn
    simp(maxSteps:=9999999)(disch:=first|omega|(simp only[AN];omega))only[he,hg.get,↓KP,EK,↓reduceIte,reduceCtorEq,Nat.reduceEqDiff,Nat.reduceAdd,Nat.reduceLeDiff,Nat.reduceMul]
    rw [hnE, if_pos he] at k
    refine k _ ?_
    exact GW
  · have hgn := hg.next; simp only [AH.next_alloc] at hgn
    rw [hnE, if_neg (by omega)] at k
    simp only [AH.next_alloc] at hm
    have hw : 0 ≤ w ∧ w ≤ (h.days.length : Int) - 1 := by
      rw [numberE_err] at he
      by_cases h1 : indexE h w h.days.length = 0
      · have := indexE_zero h1; omega
      · simp [h1] at he
    obtain ⟨w', rfl⟩ : ∃ w' : Nat, w = w' := ⟨w.toNat, by omega⟩
    have hmlt := hheld.look.mlt
    have hnle := hheld.look.nle
    have hwa : Watch N p m H1.next (H.next + 1) (I w') v1 v2 h 0 ((H1.alloc (.cells false [.nilptr])).set H1.next (.cells false [.ptr p 0])) ((H1.alloc (.cells false [.nilptr])).set H1.next (.cells false [.ptr p 0])) :=
      ⟨hheld.up GW, fun _ _ _ => rfl, by simp(maxSteps:=9999999)(disch:=first|omega|(simp only[AN];omega))only[↓KP,EK,↓reduceIte,reduceCtorEq,Nat.reduceEqDiff,Nat.reduceAdd,Nat.reduceLeDiff,Nat.reduceMul], by simp(maxSteps:=9999999)(disch:=first|omega|(simp only[AN];omega))only[hg.get,↓KP,EK,↓reduceIte,reduceCtorEq,Nat.reduceEqDiff,Nat.reduceAdd,Nat.reduceLeDiff,Nat.reduceMul], by simp(maxSteps:=9999999)(disch:=first|omega|(simp only[AN];omega))only[↓KP,EK,↓reduceIte,reduceCtorEq,Nat.reduceEqDiff,Nat.reduceAdd,Nat.reduceLeDiff,Nat.reduceMul]; omega, by simp(maxSteps:=9999999)(disch:=first|omega|(simp only[AN];omega))only[↓KP,EK,↓reduceIte,reduceCtorEq,Nat.reduceEqDiff,Nat.reduceAdd,Nat.reduceLeDiff,Nat.reduceMul]; omega, hnle, by omega⟩
    have hold : ∀ b, b < H.next + 4 → ((H1.alloc (.cells false [.nilptr])).set H1.next (.cells false [.ptr p 0])).get b = (((H.alloc (.cells false [v1, v2])).alloc (.cells false [I w'])).alloc (.cells false [I 0, I 0]) |>.alloc (.cells false [I w', I h.days.length])).get b := fun b hb => by simp(maxSteps:=9999999)(disch:=first|omega|(simp only[AN];omega))only[hg.get,↓KP,EK,↓reduceIte,reduceCtorEq,Nat.reduceEqDiff,Nat.reduceAdd,Nat.reduceLeDiff,Nat.reduceMul]
    simp(maxSteps:=9999999)(disch:=first|omega|(simp only[AN];omega))only[hg.get,↓KP,EK,↓reduceIte,reduceCtorEq,Nat.reduceEqDiff,Nat.reduceAdd,Nat.reduceLeDiff,Nat.reduceMul]
    have hit := day_iter (N := N) (p := p) (m := m) (b1 := H1.next) (b2 := H.next + 1) (w := w') (v1 := v1) (v2 := v2) (h := h) (but := 0) (B := (H1.alloc (.cells false [.nilptr])).set H1.next (.cells false [.ptr p 0])) hfine (by omega) (by omega)
    refine C_call (wide_run hit hwa fun H2 hn2 hi2 hs2 => ?_)
    simp only [AH.next_alloc, AH.next_set] at hn2
    have e4 : H2.get (H.next + 1 + 1) = some (.cells false [I 0, I 0]) := by rw [hi2.base _ (by omega) (by omega), hold _ (by omega)]; simp(maxSteps:=9999999)(disch:=first|omega|(simp only[AN];omega))only[↓KP,EK,↓reduceIte,reduceCtorEq,Nat.reduceEqDiff,Nat.reduceAdd,Nat.reduceLeDiff,Nat.reduceMul]
    have hne2 : (numbersOf h w') ≠ [] := by simpa [numbersOf] using hne
    have hwide : wideL ((truthsE (lookE h 0)).map fun fs => numbersE (lookE h 0) w' fs) = hull (numbersOf h w') := by
      rw [lookE_zero]
      refine wideL_hull (fun x hx => ?_) hne2
      obtain ⟨fs, hfs, rfl⟩ := List.mem_map.1 hx
      obtain ⟨h1, h2⟩ := numbersE_in (fs := fs) hfine (d := w') (by omega) (fun f hf => (truthsE_mem hfine hfs).2 f hf)
      omega
    rw [hwide]
    simp(maxSteps:=9999999)(disch:=first|omega|(simp only[AN];omega))only[e4,↓KP,EK,↓reduceIte,reduceCtorEq,Nat.reduceEqDiff,Nat.reduceAdd,Nat.reduceLeDiff,Nat.reduceMul]
    refine k _ ⟨by simp(maxSteps:=9999999)(disch:=first|omega|(simp only[AN];omega))only[↓KP,EK,↓reduceIte,reduceCtorEq,Nat.reduceEqDiff,Nat.reduceAdd,Nat.reduceLeDiff,Nat.reduceMul]; omega, fun b hb => ?_⟩
    simp(maxSteps:=9999999)(disch:=first|omega|(simp only[AN];omega))only[↓KP,EK,↓reduceIte,reduceCtorEq,Nat.reduceEqDiff,Nat.reduceAdd,Nat.reduceLeDiff,Nat.reduceMul]
    rw [hi2.base _ (by omega) (by omega), hold _ (by omega)]
    simp(maxSteps:=9999999)(disch:=first|omega|(simp only[AN];omega))only[↓KP,EK,↓reduceIte,reduceCtorEq,Nat.reduceEqDiff,Nat.reduceAdd,Nat.reduceLeDiff,Nat.reduceMul]
end Go.Proofs.Ytgncpbkedhchfaa
namespace Go.Proofs.Ytgncpbkedhchfaa
open Go.AM Go.IntWalk
set_option maxRecDepth 100000
set_option maxHeartbeats 4000000
set_option linter.unusedSimpArgs false
variable {H : AH} {R : AV → AH → Prop}
theorem plow_run (a b : Int) (ha : 1 ≤ a ∧ a ≤ 1000000000) (hb : 1 ≤ b ∧ b ≤ 1000000000) (h : ∀ H', Grew H H' → R (.agg [I (lowE a b).1, I (lowE a b).2]) H') : CallQ prog (.func 77 [] []) [I a, I b] H R := by
  obtain ⟨x, rfl⟩ : ∃ x : Nat, a = x := ⟨a.toNat, by omega⟩
  obtain ⟨y, rfl⟩ : ∃ y : Nat, b = y := ⟨b.toNat, by omega⟩
  have hg : 0 < Nat.gcd x y := Nat.gcd_pos_of_pos_left _ (by omega)
  refine CallQ_enter (fn:=c77) rfl (Nat.le_of_ble_eq_true rfl) ?_;simp(maxSteps:=9999999)(disch:=first|omega|(simp only[AN];omega))only[c77,envFrom,↓KP,EK,↓reduceIte,reduceCtorEq,Nat.reduceEqDiff,Nat.reduceAdd,Nat.reduceLeDiff,Nat.reduceMul]
  refine K_loop (fun mz ez H1 => ∃ (u : Nat) (v : Nat) (tail : Env), ez = (0, I x) :: (1, I y) :: (4, .ptr H.next 0) :: (5, I u) :: (6, I v) :: tail ∧ (Grew H H1) ∧ (H1.get H.next = some (.cells false [I 0, I 0])) ∧ (H.next < H1.next) ∧ (Nat.gcd u v = Nat.gcd x y) ∧ mz = v) _ ⟨x, y, _, rfl, ?_, ?_, ?_, ?_, rfl⟩ ?_
  iterate 4 (focus (first|(with_reducible rfl)|omega|(with_reducible(repeat first|exact Grew.refl _|assumption|apply Grew.alloc|refine Grew.set ?_ _ (by first|omega|(simp only[AN];omega)));done)|(simp(maxSteps:=9999999)(disch:=first|omega|(simp only[AN];omega))only[↓KP,EK,↓reduceIte,reduceCtorEq,Nat.reduceEqDiff,Nat.reduceAdd,Nat.reduceLeDiff,Nat.reduceMul]<;>first|omega|rfl)|(simp;done)|rfl))
  rintro mz ez H1 ⟨u, v, tail, rfl, hG, h4, hlt, huv, hmz⟩; subst mz; have hGn := hG.next
  by_cases hv0 : (v : Int) = 0
  · have hv : v = 0 := by omega
    subst hv
    rw [Nat.gcd_zero_right] at huv
    subst huv
    have e3 : ¬ ((Nat.gcd x y : Nat) : Int) = 0 := by omega
    have q : ∀ z : Nat, z ≤ 1000000000 → IntKind.i64.wrap ((z : Int).tdiv (Nat.gcd x y : Nat)) = ((z / Nat.gcd x y : Nat) : Int) := fun z hz => by
      have h1 : (z : Int).tdiv (Nat.gcd x y : Nat) = ((z / Nat.gcd x y : Nat) : Int) := rfl
      have h2 := Nat.div_le_self z (Nat.gcd x y)
      rw [h1]
      generalize z / Nat.gcd x y = w at h2
      exact i64_in _ (by omega)
    have q1 := q x (by omega)
    have q2 := q y (by omega)
    simp(maxSteps:=9999999)(disch:=first|omega|(simp only[AN];omega))only[hv0,↓KP,EK,↓reduceIte,reduceCtorEq,Nat.reduceEqDiff,Nat.reduceAdd,Nat.reduceLeDiff,Nat.reduceMul]
    refine K_draw ?_;simp(maxSteps:=9999999)(disch:=first|omega|(simp only[AN];omega))only[e3,q1,q2,h4,↓KP,EK,↓reduceIte,reduceCtorEq,Nat.reduceEqDiff,Nat.reduceAdd,Nat.reduceLeDiff,Nat.reduceMul]
    refine h _ ?_
    exact GW
  · have e1 : (u : Int).tmod (v : Int) = ((u % v : Nat) : Int) := rfl
    simp(maxSteps:=9999999)(disch:=first|omega|(simp only[AN];omega))only[hv0,↓KP,EK,↓reduceIte,reduceCtorEq,Nat.reduceEqDiff,Nat.reduceAdd,Nat.reduceLeDiff,Nat.reduceMul]
    refine K_draw ?_;simp(maxSteps:=9999999)(disch:=first|omega|(simp only[AN];omega))only[hv0,e1,↓KP,EK,↓reduceIte,reduceCtorEq,Nat.reduceEqDiff,Nat.reduceAdd,Nat.reduceLeDiff,Nat.reduceMul]
    exact ⟨_, Nat.mod_lt _ (by omega), v, u % v, _, rfl, hG, h4, hlt, by rw [← huv, Nat.gcd_comm u v, Nat.gcd_rec v u, Nat.gcd_comm], rfl⟩
theorem less_run (p q : Int × Int) (hp : InR 90000 p) (hq : InR 90000 q) (h : ∀ H', Grew H H' → R (.bool (decide (ltE p q))) H') : CallQ prog (.func 78 [] []) [.agg [I p.1, I p.2], .agg [I q.1, I q.2]] H R := by
  unfold InR at hp hq
  have h1 := mul_in (a := p.1) (b := q.2) (m := 90000) (n := 90000) (by omega) (by omega)
  have h2 := mul_in (a := q.1) (b := p.2) (m := 90000) (n := 90000) (by omega) (by omega)
  have e1 : IntKind.i64.wrap (p.1 * q.2) = p.1 * q.2 := i64_in _ (by omega)
  have e2 : IntKind.i64.wrap (q.1 * p.2) = q.1 * p.2 := i64_in _ (by omega)
  refine CallQ_enter (fn:=c78) rfl (Nat.le_of_ble_eq_true rfl) ?_;simp(maxSteps:=9999999)(disch:=first|omega|(simp only[AN];omega))only[c78,envFrom,e1,e2,↓KP,EK,↓reduceIte,reduceCtorEq,Nat.reduceEqDiff,Nat.reduceAdd,Nat.reduceLeDiff,Nat.reduceMul]
  refine h _ ?_
  exact GW
theorem quotE_snoc {l : List (Int × Int)} {q : Int × Int} (h : l ≠ []) : quotE (l ++ [q]) = quotStep (quotE l) q := by
  cases l with
  | nil => exact absurd rfl h
  | cons a l => simp [quotE, List.foldl_append]
theorem between_run {N p m : Nat} {v1 v2 : AV} {h : House} {but : Nat} (a b : Nat) (hfine : Fine h) (hbut : but < 4096) (hr : Held N p m v1 v2 h but H) (ha : a < h.ws.length) (hb : b < h.ws.length)
    (k : ∀ H', GrewBut m H H' → Held N p m v1 v2 h but H' → R (.tuple [.agg [I (quotE (quotsOf (truthsE (lookE h but)) a b)).1.1, I (quotE (quotsOf (truthsE (lookE h but)) a b)).1.2], .agg [I (quotE (quotsOf (truthsE (lookE h but)) a b)).2.1, I (quotE (quotsOf (truthsE (lookE h but)) a b)).2.2]]) H') : CallQ prog (.func 75 [] []) [.ptr p 0, I a, I b] H R := by
  refine CallQ_enter (fn:=c75) rfl (Nat.le_of_ble_eq_true rfl) ?_;simp(maxSteps:=9999999)(disch:=first|omega|(simp only[AN];omega))only[c75,envFrom,↓KP,EK,↓reduceIte,reduceCtorEq,Nat.reduceEqDiff,Nat.reduceAdd,Nat.reduceLeDiff,Nat.reduceMul]
  first|refine C_call ?_|refine C_calld ?_
  refine truths_run p ?_
  simp(maxSteps:=9999999)(disch:=first|omega|(simp only[AN];omega))only[↓KP,EK,↓reduceIte,reduceCtorEq,Nat.reduceEqDiff,Nat.reduceAdd,Nat.reduceLeDiff,Nat.reduceMul]
  have hr1 := (hr.up (((((Grew.refl H).alloc (.cells false [I a])).alloc (.cells false [I b])).alloc (.cells false [I 0, I 0])).alloc (.cells false [I 0, I 0]))).ready
  have hNle := hr.look.nle
  have hw3 := hfine.ws
  have base : ∀ x, x < H.next → ((((((H.alloc (.cells false [I a])).alloc (.cells false [I b])).alloc (.cells false [I 0, I 0])).alloc (.cells false [I 0, I 0]))).alloc (.cells false [.ptr p 0])).get x = H.get x := fun x h1 => by simp(maxSteps:=9999999)(disch:=first|omega|(simp only[AN];omega))only[↓KP,EK,↓reduceIte,reduceCtorEq,Nat.reduceEqDiff,Nat.reduceAdd,Nat.reduceLeDiff,Nat.reduceMul]
  have b0 : ((((((H.alloc (.cells false [I a])).alloc (.cells false [I b])).alloc (.cells false [I 0, I 0])).alloc (.cells false [I 0, I 0]))).alloc (.cells false [.ptr p 0])).get H.next = some (.cells false [I a]) := by simp(maxSteps:=9999999)(disch:=first|omega|(simp only[AN];omega))only[↓KP,EK,↓reduceIte,reduceCtorEq,Nat.reduceEqDiff,Nat.reduceAdd,Nat.reduceLeDiff,Nat.reduceMul]
  have b1 : ((((((H.alloc (.cells false [I a])).alloc (.cells false [I b])).alloc (.cells false [I 0, I 0])).alloc (.cells false [I 0, I 0]))).alloc (.cells false [.ptr p 0])).get (H.next + 1) = some (.cells false [I b]) := by simp(maxSteps:=9999999)(disch:=first|omega|(simp only[AN];omega))only[↓KP,EK,↓reduceIte,reduceCtorEq,Nat.reduceEqDiff,Nat.reduceAdd,Nat.reduceLeDiff,Nat.reduceMul]
  have b2 : ((((((H.alloc (.cells false [I a])).alloc (.cells false [I b])).alloc (.cells false [I 0, I 0])).alloc (.cells false [I 0, I 0]))).alloc (.cells false [.ptr p 0])).get (H.next + 2) = some (.cells false [I 0, I 0]) := by simp(maxSteps:=9999999)(disch:=first|omega|(simp only[AN];omega))only[↓KP,EK,↓reduceIte,reduceCtorEq,Nat.reduceEqDiff,Nat.reduceAdd,Nat.reduceLeDiff,Nat.reduceMul]
  have b3 : ((((((H.alloc (.cells false [I a])).alloc (.cells false [I b])).alloc (.cells false [I 0, I 0])).alloc (.cells false [I 0, I 0]))).alloc (.cells false [.ptr p 0])).get (H.next + 3) = some (.cells false [I 0, I 0]) := by simp(maxSteps:=9999999)(disch:=first|omega|(simp only[AN];omega))only[↓KP,EK,↓reduceIte,reduceCtorEq,Nat.reduceEqDiff,Nat.reduceAdd,Nat.reduceLeDiff,Nat.reduceMul]
  have hBn : ((((((H.alloc (.cells false [I a])).alloc (.cells false [I b])).alloc (.cells false [I 0, I 0])).alloc (.cells false [I 0, I 0]))).alloc (.cells false [.ptr p 0])).next = H.next + 5 := rfl
  have hbh : (((((H.alloc (.cells false [I a])).alloc (.cells false [I b])).alloc (.cells false [I 0, I 0])).alloc (.cells false [I 0, I 0]))).next = H.next + 4 := rfl
  rw [hbh] at hr1
  have hfac : Factors h.ws.length (truthsE (lookE h but)) := truthsE_factors (hfine.mask _)
  generalize (((((H.alloc (.cells false [I a])).alloc (.cells false [I b])).alloc (.cells false [I 0, I 0])).alloc (.cells false [I 0, I 0]))).alloc (.cells false [.ptr p 0]) = B at hr1 base b0 b1 b2 b3 hBn
  refine K_iter (L := yields h but) (K := Kh N (H.next + 4)) (Inv := Ready N p m (H.next + 4) v1 v2 h but B) rfl (truths_iter hfine hbut) hr1 (fun a ha => ?_)
    (fun done H2 => (∃ ds rs, truthsE (lookE h but) = ds ++ rs ∧ done = ds.map (argT (lookE h but)) ∧ H2.get (H.next + 2) = some (.cells false [I (quotE (quotsOf ds a b)).1.1, I (quotE (quotsOf ds a b)).1.2]) ∧ H2.get (H.next + 3) = some (.cells false [I (quotE (quotsOf ds a b)).2.1, I (quotE (quotsOf ds a b)).2.2])) ∧
      H2.get H.next = some (.cells false [I a]) ∧ H2.get (H.next + 1) = some (.cells false [I b]) ∧ ∀ x, N ≤ x → x < H.next → H2.get x = H.get x)
    (fun _ _ => False) ?_ ?_ ?_ ?_ ?_ ?_
  · obtain ⟨fs, _, rfl⟩ := List.mem_map.1 ha; rfl
  · rintro done H1 H2 hn hs ⟨⟨ds, rs, h1, h2, h3, h4⟩, h5, h6, h7⟩
    refine ⟨⟨ds, rs, h1, h2, by rw [hs _ (by simp only [Kh]; omega) (by omega)]; exact h3, by rw [hs _ (by simp only [Kh]; omega) (by omega)]; exact h4⟩, by rw [hs _ (by simp only [Kh]; omega) (by omega)]; exact h5, by rw [hs _ (by simp only [Kh]; omega) (by omega)]; exact h6, fun x h8 h9 => by rw [hs _ (by simp only [Kh]; omega) (by omega)]; exact h7 x h8 h9⟩
  · intro x H1 H2 hn hs h; exact h
  · exact ⟨⟨[], _, rfl, rfl, b2, b3⟩, b0, b1, fun x _ hx => base x hx⟩
  · rintro done q rest H1 hL hlt hi1 ⟨⟨ds, rs, h1, rfl, h3, h4⟩, h5, h6, h7⟩ hlo
    rw [yields, h1, List.map_append, List.append_cancel_left_eq] at hL
    cases rs with
    | nil => cases hL
    | cons fs rs =>
      simp only [List.map_cons, List.cons.injEq] at hL
      obtain ⟨rfl, rfl⟩ := hL
      have hfs := hfac fs (by rw [h1]; simp)
      have hds : Factors h.ws.length ds := fun x hx => hfac x (by rw [h1]; simp [hx])
      have hga := three_get (getI fs 0) (getI fs 1) (getI fs 2) (n := a) (by omega)
      have hga' : [getI fs 0, getI fs 1, getI fs 2][a]'(by simp; omega) = getI fs a := by
        rcases (show a = 0 ∨ a = 1 ∨ a = 2 by omega) with rfl | rfl | rfl <;> rfl
      have hgb := three_get (getI fs 0) (getI fs 1) (getI fs 2) (n := b) (by omega)
      have hgb' : [getI fs 0, getI fs 1, getI fs 2][b]'(by simp; omega) = getI fs b := by
        rcases (show b = 0 ∨ b = 1 ∨ b = 2 by omega) with rfl | rfl | rfl <;> rfl
      rw [hga'] at hga
      rw [hgb'] at hgb
      have hix : ∀ (n : Nat) (hn : n < 3) S x, opIdxArr 3 1 (.ptr x 0) (I n) S = some (.ptr x n, S) := fun n hn S x => by
        simp [opIdxArr, natOf, hn]
      have hixa := hix a (by omega)
      have hixb := hix b (by omega)
      have fa := hfs.2 _ (List.getElem_mem (l := fs) (n := a) (by omega))
      have fb := hfs.2 _ (List.getElem_mem (l := fs) (n := b) (by omega))
      rw [← getI_eq] at fa fb
      have hz := lowE_in (m := 300) fa fb
      have hsn : quotsOf (ds ++ [fs]) a b = quotsOf ds a b ++ [lowE (getI fs a) (getI fs b)] := by simp [quotsOf]
      simp(maxSteps:=9999999)(disch:=first|omega|(simp only[AN];omega))only[K8,hlo,argT,pad3,List.map_cons,List.map_nil,↓KP,EK,↓reduceIte,reduceCtorEq,Nat.reduceEqDiff,Nat.reduceAdd,Nat.reduceLeDiff,Nat.reduceMul]
      refine K_draw ?_;simp(maxSteps:=9999999)(disch:=first|omega|(simp only[AN];omega))only[h5,h6,hixa,hixb,hga,hgb,↓KP,EK,↓reduceIte,reduceCtorEq,Nat.reduceEqDiff,Nat.reduceAdd,Nat.reduceLeDiff,Nat.reduceMul]
      first|refine C_call ?_|refine C_calld ?_
      refine plow_run _ _ ⟨fa.1, by omega⟩ ⟨fb.1, by omega⟩ fun H3 hg3 => ?_
      have hg3n:=hg3.next;try simp only[AN]at hg3n
      have hdone : ds.map (argT (lookE h but)) ++ [argT (lookE h but) fs] = (ds ++ [fs]).map (argT (lookE h but)) := by rw [List.map_append]; rfl
      have hlo3 : ∀ (S : AH), (∀ x, x < H1.next → x ≠ B.next → x ≠ H.next + 2 → x ≠ H.next + 3 → S.get x = H1.get x) → H1.next ≤ S.next → Kept (Kh N (H.next + 4)) B.next H1 S ∧ S.get H.next = some (.cells false [I a]) ∧ S.get (H.next + 1) = some (.cells false [I b]) ∧ ∀ x, N ≤ x → x < H.next → S.get x = H.get x := fun S hS hn => by
        refine ⟨⟨hn, fun x hx hc => hS x hx ?_ ?_ ?_⟩, by rw [hS _ (by omega) (by omega) (by omega) (by omega)]; exact h5, by rw [hS _ (by omega) (by omega) (by omega) (by omega)]; exact h6, fun x h8 h9 => by rw [hS _ (by omega) (by omega) (by omega) (by omega)]; exact h7 x h8 h9⟩ <;> (simp only [Kh] at hc; omega)
      have fin2 : ∀ (S : AH) (q : (Int × Int) × (Int × Int)) (D : List (List AV)), D = (ds ++ [fs]).map (argT (lookE h but)) → quotE (quotsOf (ds ++ [fs]) a b) = q → (∀ x, x < H1.next → x ≠ B.next → x ≠ H.next + 2 → x ≠ H.next + 3 → S.get x = H1.get x) → H1.next ≤ S.next → S.get (H.next + 2) = some (.cells false [I q.1.1, I q.1.2]) → S.get (H.next + 3) = some (.cells false [I q.2.1, I q.2.2]) →
          Kept (Kh N (H.next + 4)) B.next H1 S ∧ (∃ ds' rs', truthsE (lookE h but) = ds' ++ rs' ∧ D = ds'.map (argT (lookE h but)) ∧ S.get (H.next + 2) = some (.cells false [I (quotE (quotsOf ds' a b)).1.1, I (quotE (quotsOf ds' a b)).1.2]) ∧ S.get (H.next + 3) = some (.cells false [I (quotE (quotsOf ds' a b)).2.1, I (quotE (quotsOf ds' a b)).2.2])) ∧
          S.get H.next = some (.cells false [I a]) ∧ S.get (H.next + 1) = some (.cells false [I b]) ∧ ∀ x, N ≤ x → x < H.next → S.get x = H.get x := fun S q D hD hq hS hn g2 g3 => by
        have := hlo3 S hS hn
        refine ⟨this.1, ⟨ds ++ [fs], rs, by rw [h1]; simp, hD, ?_, ?_⟩, this.2⟩
        · rw [hq]; exact g2
        · rw [hq]; exact g3
      by_cases hd0 : ds = []
      · subst hd0
        have q0 : quotE (quotsOf [] a b) = ((0, 0), (0, 0)) := rfl
        rw [q0] at h3 h4
        simp(maxSteps:=9999999)(disch:=first|omega|(simp only[AN];omega))only[hg3.get,h3,h4,h5,h6,hixa,hixb,hga,hgb,K8,↓KP,EK,↓reduceIte,reduceCtorEq,Nat.reduceEqDiff,Nat.reduceAdd,Nat.reduceLeDiff,Nat.reduceMul]
        refine K_bod ⟨?_, fin2 _ (lowE (getI fs a) (getI fs b), lowE (getI fs a) (getI fs b)) _ rfl (by rw [hsn]; rfl) ?_ ?_ ?_ ?_⟩
        · simp(maxSteps:=9999999)(disch:=first|omega|(simp only[AN];omega))only[hg3.get,↓KP,EK,↓reduceIte,reduceCtorEq,Nat.reduceEqDiff,Nat.reduceAdd,Nat.reduceLeDiff,Nat.reduceMul]
        · intro x x1 x2 x3 x4; simp(maxSteps:=9999999)(disch:=first|omega|(simp only[AN];omega))only[hg3.get,↓KP,EK,↓reduceIte,reduceCtorEq,Nat.reduceEqDiff,Nat.reduceAdd,Nat.reduceLeDiff,Nat.reduceMul]
        · simp(maxSteps:=9999999)(disch:=first|omega|(simp only[AN];omega))only[↓KP,EK,↓reduceIte,reduceCtorEq,Nat.reduceEqDiff,Nat.reduceAdd,Nat.reduceLeDiff,Nat.reduceMul]; omega
        · simp(maxSteps:=9999999)(disch:=first|omega|(simp only[AN];omega))only[↓KP,EK,↓reduceIte,reduceCtorEq,Nat.reduceEqDiff,Nat.reduceAdd,Nat.reduceLeDiff,Nat.reduceMul]
        · simp(maxSteps:=9999999)(disch:=first|omega|(simp only[AN];omega))only[↓KP,EK,↓reduceIte,reduceCtorEq,Nat.reduceEqDiff,Nat.reduceAdd,Nat.reduceLeDiff,Nat.reduceMul]
      · have hin := quotE_in (quotsOf_in hds ha hb) (by simpa [quotsOf] using hd0)
        have hq := quotE_snoc (l := quotsOf ds a b) (q := lowE (getI fs a) (getI fs b)) (by simpa [quotsOf] using hd0)
        rw [← hsn] at hq
        generalize lowE (getI fs a) (getI fs b) = z at hz hsn hq
        generalize hX : quotE (quotsOf ds a b) = X at h3 h4 hin hq
        obtain ⟨x, y⟩ := X
        simp only at hin h3 h4
        have n1 : ¬ x.2 = 0 := by have := hin.1; unfold InR at this; omega
        have n2 : ¬ y.2 = 0 := by have := hin.2; unfold InR at this; omega
        simp(maxSteps:=9999999)(disch:=first|omega|(simp only[AN];omega))only[hg3.get,h3,h4,h5,h6,hixa,hixb,hga,hgb,n1,↓KP,EK,↓reduceIte,reduceCtorEq,Nat.reduceEqDiff,Nat.reduceAdd,Nat.reduceLeDiff,Nat.reduceMul]
        first|refine C_call ?_|refine C_calld ?_
        refine less_run z x (hz.le (by omega)) (hin.1.le (by omega)) fun H4 hg4 => ?_
        have hg4n:=hg4.next;try simp only[AN]at hg4n
        simp(maxSteps:=9999999)(disch:=first|omega|(simp only[AN];omega))only[↓KP,EK,↓reduceIte,reduceCtorEq,Nat.reduceEqDiff,Nat.reduceAdd,Nat.reduceLeDiff,Nat.reduceMul]
        refine C_decide (fun hl1 => ?_) (fun hl1 => ?_)
        · simp(maxSteps:=9999999)(disch:=first|omega|(simp only[AN];omega))only[hg4.get,hg3.get,h3,h4,n2,↓KP,EK,↓reduceIte,reduceCtorEq,Nat.reduceEqDiff,Nat.reduceAdd,Nat.reduceLeDiff,Nat.reduceMul]
          first|refine C_call ?_|refine C_calld ?_
          refine less_run y z (hin.2.le (by omega)) (hz.le (by omega)) fun H5 hg5 => ?_
          have hg5n:=hg5.next;try simp only[AN]at hg5n
          simp(maxSteps:=9999999)(disch:=first|omega|(simp only[AN];omega))only[↓KP,EK,↓reduceIte,reduceCtorEq,Nat.reduceEqDiff,Nat.reduceAdd,Nat.reduceLeDiff,Nat.reduceMul]
          refine C_decide (fun hl2 => ?_) (fun hl2 => ?_)
          · simp(maxSteps:=9999999)(disch:=first|omega|(simp only[AN];omega))only[hg5.get,hg4.get,hg3.get,h3,h4,n2,K8,↓KP,EK,↓reduceIte,reduceCtorEq,Nat.reduceEqDiff,Nat.reduceAdd,Nat.reduceLeDiff,Nat.reduceMul]
            refine K_bod ⟨?_, fin2 _ (z, z) _ hdone (by rw [hq, quotStep]; simp only [hl1, hl2, if_true, if_false]) ?_ ?_ ?_ ?_⟩
            · simp(maxSteps:=9999999)(disch:=first|omega|(simp only[AN];omega))only[hg5.get,hg4.get,hg3.get,↓KP,EK,↓reduceIte,reduceCtorEq,Nat.reduceEqDiff,Nat.reduceAdd,Nat.reduceLeDiff,Nat.reduceMul]
            · intro x x1 x2 x3 x4; simp(maxSteps:=9999999)(disch:=first|omega|(simp only[AN];omega))only[hg5.get,hg4.get,hg3.get,↓KP,EK,↓reduceIte,reduceCtorEq,Nat.reduceEqDiff,Nat.reduceAdd,Nat.reduceLeDiff,Nat.reduceMul]
            · first | omega | (simp(maxSteps:=9999999)(disch:=first|omega|(simp only[AN];omega))only[↓KP,EK,↓reduceIte,reduceCtorEq,Nat.reduceEqDiff,Nat.reduceAdd,Nat.reduceLeDiff,Nat.reduceMul]; omega)
            · simp(maxSteps:=9999999)(disch:=first|omega|(simp only[AN];omega))only[hg5.get,hg4.get,hg3.get,h3,↓KP,EK,↓reduceIte,reduceCtorEq,Nat.reduceEqDiff,Nat.reduceAdd,Nat.reduceLeDiff,Nat.reduceMul]
            · simp(maxSteps:=9999999)(disch:=first|omega|(simp only[AN];omega))only[hg5.get,hg4.get,hg3.get,h4,↓KP,EK,↓reduceIte,reduceCtorEq,Nat.reduceEqDiff,Nat.reduceAdd,Nat.reduceLeDiff,Nat.reduceMul]
          · simp(maxSteps:=9999999)(disch:=first|omega|(simp only[AN];omega))only[hg5.get,hg4.get,hg3.get,h3,h4,n2,K8,↓KP,EK,↓reduceIte,reduceCtorEq,Nat.reduceEqDiff,Nat.reduceAdd,Nat.reduceLeDiff,Nat.reduceMul]
            refine K_bod ⟨?_, fin2 _ (z, y) _ hdone (by rw [hq, quotStep]; simp only [hl1, hl2, if_true, if_false]) ?_ ?_ ?_ ?_⟩
            · simp(maxSteps:=9999999)(disch:=first|omega|(simp only[AN];omega))only[hg5.get,hg4.get,hg3.get,↓KP,EK,↓reduceIte,reduceCtorEq,Nat.reduceEqDiff,Nat.reduceAdd,Nat.reduceLeDiff,Nat.reduceMul]
            · intro x x1 x2 x3 x4; simp(maxSteps:=9999999)(disch:=first|omega|(simp only[AN];omega))only[hg5.get,hg4.get,hg3.get,↓KP,EK,↓reduceIte,reduceCtorEq,Nat.reduceEqDiff,Nat.reduceAdd,Nat.reduceLeDiff,Nat.reduceMul]
            · first | omega | (simp(maxSteps:=9999999)(disch:=first|omega|(simp only[AN];omega))only[↓KP,EK,↓reduceIte,reduceCtorEq,Nat.reduceEqDiff,Nat.reduceAdd,Nat.reduceLeDiff,Nat.reduceMul]; omega)
            · simp(maxSteps:=9999999)(disch:=first|omega|(simp only[AN];omega))only[hg5.get,hg4.get,hg3.get,h3,↓KP,EK,↓reduceIte,reduceCtorEq,Nat.reduceEqDiff,Nat.reduceAdd,Nat.reduceLeDiff,Nat.reduceMul]
            · simp(maxSteps:=9999999)(disch:=first|omega|(simp only[AN];omega))only[hg5.get,hg4.get,hg3.get,h4,↓KP,EK,↓reduceIte,reduceCtorEq,Nat.reduceEqDiff,Nat.reduceAdd,Nat.reduceLeDiff,Nat.reduceMul]
        · simp(maxSteps:=9999999)(disch:=first|omega|(simp only[AN];omega))only[hg4.get,hg3.get,h3,h4,n2,↓KP,EK,↓reduceIte,reduceCtorEq,Nat.reduceEqDiff,Nat.reduceAdd,Nat.reduceLeDiff,Nat.reduceMul]
          first|refine C_call ?_|refine C_calld ?_
          refine less_run y z (hin.2.le (by omega)) (hz.le (by omega)) fun H5 hg5 => ?_
          have hg5n:=hg5.next;try simp only[AN]at hg5n
          simp(maxSteps:=9999999)(disch:=first|omega|(simp only[AN];omega))only[↓KP,EK,↓reduceIte,reduceCtorEq,Nat.reduceEqDiff,Nat.reduceAdd,Nat.reduceLeDiff,Nat.reduceMul]
          refine C_decide (fun hl2 => ?_) (fun hl2 => ?_)
          · simp(maxSteps:=9999999)(disch:=first|omega|(simp only[AN];omega))only[hg5.get,hg4.get,hg3.get,h3,h4,n2,K8,↓KP,EK,↓reduceIte,reduceCtorEq,Nat.reduceEqDiff,Nat.reduceAdd,Nat.reduceLeDiff,Nat.reduceMul]
            refine K_bod ⟨?_, fin2 _ (x, z) _ hdone (by rw [hq, quotStep]; simp only [hl1, hl2, if_true, if_false]) ?_ ?_ ?_ ?_⟩
            · simp(maxSteps:=9999999)(disch:=first|omega|(simp only[AN];omega))only[hg5.get,hg4.get,hg3.get,↓KP,EK,↓reduceIte,reduceCtorEq,Nat.reduceEqDiff,Nat.reduceAdd,Nat.reduceLeDiff,Nat.reduceMul]
            · intro x x1 x2 x3 x4; simp(maxSteps:=9999999)(disch:=first|omega|(simp only[AN];omega))only[hg5.get,hg4.get,hg3.get,↓KP,EK,↓reduceIte,reduceCtorEq,Nat.reduceEqDiff,Nat.reduceAdd,Nat.reduceLeDiff,Nat.reduceMul]
            · first | omega | (simp(maxSteps:=9999999)(disch:=first|omega|(simp only[AN];omega))only[↓KP,EK,↓reduceIte,reduceCtorEq,Nat.reduceEqDiff,Nat.reduceAdd,Nat.reduceLeDiff,Nat.reduceMul]; omega)
            · simp(maxSteps:=9999999)(disch:=first|omega|(simp only[AN];omega))only[hg5.get,hg4.get,hg3.get,h3,↓KP,EK,↓reduceIte,reduceCtorEq,Nat.reduceEqDiff,Nat.reduceAdd,Nat.reduceLeDiff,Nat.reduceMul]
            · simp(maxSteps:=9999999)(disch:=first|omega|(simp only[AN];omega))only[hg5.get,hg4.get,hg3.get,h4,↓KP,EK,↓reduceIte,reduceCtorEq,Nat.reduceEqDiff,Nat.reduceAdd,Nat.reduceLeDiff,Nat.reduceMul]
          · simp(maxSteps:=9999999)(disch:=first|omega|(simp only[AN];omega))only[hg5.get,hg4.get,hg3.get,h3,h4,n2,K8,↓KP,EK,↓reduceIte,reduceCtorEq,Nat.reduceEqDiff,Nat.reduceAdd,Nat.reduceLeDiff,Nat.reduceMul]
            refine K_bod ⟨?_, fin2 _ (x, y) _ hdone (by rw [hq, quotStep]; simp only [hl1, hl2, if_true, if_false]) ?_ ?_ ?_ ?_⟩
            · simp(maxSteps:=9999999)(disch:=first|omega|(simp only[AN];omega))only[hg5.get,hg4.get,hg3.get,↓KP,EK,↓reduceIte,reduceCtorEq,Nat.reduceEqDiff,Nat.reduceAdd,Nat.reduceLeDiff,Nat.reduceMul]
            · intro x x1 x2 x3 x4; simp(maxSteps:=9999999)(disch:=first|omega|(simp only[AN];omega))only[hg5.get,hg4.get,hg3.get,↓KP,EK,↓reduceIte,reduceCtorEq,Nat.reduceEqDiff,Nat.reduceAdd,Nat.reduceLeDiff,Nat.reduceMul]
            · first | omega | (simp(maxSteps:=9999999)(disch:=first|omega|(simp only[AN];omega))only[↓KP,EK,↓reduceIte,reduceCtorEq,Nat.reduceEqDiff,Nat.reduceAdd,Nat.reduceLeDiff,Nat.reduceMul]; omega)
            · simp(maxSteps:=9999999)(disch:=first|omega|(simp only[AN];omega))only[hg5.get,hg4.get,hg3.get,h3,↓KP,EK,↓reduceIte,reduceCtorEq,Nat.reduceEqDiff,Nat.reduceAdd,Nat.reduceLeDiff,Nat.reduceMul]
            · simp(maxSteps:=9999999)(disch:=first|omega|(simp only[AN];omega))only[hg5.get,hg4.get,hg3.get,h4,↓KP,EK,↓reduceIte,reduceCtorEq,Nat.reduceEqDiff,Nat.reduceAdd,Nat.reduceLeDiff,Nat.reduceMul]
  · rintro H2 hn hi2 ⟨⟨ds, rs, h1, h2, h3, h4⟩, h5, h6, h7⟩
    have hrs : rs = [] := by
      have := congrArg List.length h2
      rw [yields, h1, List.length_map, List.length_map, List.length_append] at this
      exact List.length_eq_zero_iff.1 (by omega)
    subst hrs
    rw [List.append_nil] at h1
    subst h1
    simp(maxSteps:=9999999)(disch:=first|omega|(simp only[AN];omega))only[↓KP,EK,↓reduceIte,reduceCtorEq,Nat.reduceEqDiff,Nat.reduceAdd,Nat.reduceLeDiff,Nat.reduceMul]
    refine K_draw ?_;simp(maxSteps:=9999999)(disch:=first|omega|(simp only[AN];omega))only[h3,h4,↓KP,EK,↓reduceIte,reduceCtorEq,Nat.reduceEqDiff,Nat.reduceAdd,Nat.reduceLeDiff,Nat.reduceMul]
    refine k _ ⟨by simp(maxSteps:=9999999)(disch:=first|omega|(simp only[AN];omega))only[↓KP,EK,↓reduceIte,reduceCtorEq,Nat.reduceEqDiff,Nat.reduceAdd,Nat.reduceLeDiff,Nat.reduceMul]; omega, fun x hx hm => ?_⟩ (hi2.keep (by show H2.next ≤ H2.next; omega) fun x hx => by simp only [Kh] at hx; simp(maxSteps:=9999999)(disch:=first|omega|(simp only[AN];omega))only[↓KP,EK,↓reduceIte,reduceCtorEq,Nat.reduceEqDiff,Nat.reduceAdd,Nat.reduceLeDiff,Nat.reduceMul]).held
    by_cases hxN : x < N
    · have := hi2.base x hxN hm
      rw [base x hx] at this
      simp(maxSteps:=9999999)(disch:=first|omega|(simp only[AN];omega))only[↓KP,EK,↓reduceIte,reduceCtorEq,Nat.reduceEqDiff,Nat.reduceAdd,Nat.reduceLeDiff,Nat.reduceMul]
      exact this
    · have := h7 x (by omega) hx
      simp(maxSteps:=9999999)(disch:=first|omega|(simp only[AN];omega))only[↓KP,EK,↓reduceIte,reduceCtorEq,Nat.reduceEqDiff,Nat.reduceAdd,Nat.reduceLeDiff,Nat.reduceMul]
      exact this
  · intro x H2 _ _ _ h; exact h.elim
theorem betweenE_err {h : House} {a b : Int} : enterErr h [a, h.ws.length, b, h.ws.length] 0 = if pairErr h a b ≠ 0 then pairErr h a b else if truthsE h = [] then 8 else 0 := by
  unfold enterErr pairErr indexE
  by_cases he : errE h = 0
  · have hp : (pairsOff [a, (h.ws.length : Int), b, h.ws.length] = true) ↔ ¬ (0 ≤ a ∧ a ≤ (h.ws.length : Int) - 1) ∨ ¬ (0 ≤ b ∧ b ≤ (h.ws.length : Int) - 1) := by
      simp only [pairsOff, offP, Bool.or_false, Bool.or_eq_true, decide_eq_true_eq]; omega
    simp only [he, ne_eq, not_true, if_false, if_true]
    by_cases hw : 0 ≤ a ∧ a ≤ (h.ws.length : Int) - 1
    · by_cases hw2 : 0 ≤ b ∧ b ≤ (h.ws.length : Int) - 1
      · rw [if_neg (fun e => by rcases hp.1 e with h1 | h1; exact h1 hw; exact h1 hw2)]; simp [hw, hw2]
      · rw [if_pos (hp.2 (.inr hw2))]; simp [hw, hw2]
    · rw [if_pos (hp.2 (.inl hw))]; simp [hw]
  · simp [he]
theorem four_slice (H : AH) (x y z w : Int) : IsInts (Old (H.alloc (.cells false [I x, I y, I z, I w]))) (H.alloc (.cells false [I x, I y, I z, I w])) (.slice H.next 0 4 1) [x, y, z, w] :=
  .inr ⟨_, _, [I x, I y, I z, I w], rfl, (by show H.next < H.next + 1; omega), by simp [AH.read, get_alloc_new, readN], Rows.cons (cs := [I x]) rfl rfl (Rows.cons (cs := [I y]) rfl rfl (Rows.cons (cs := [I z]) rfl rfl (Rows.single rfl rfl)))⟩
theorem pBetween_run (v1 v2 : AV) (h : House) (a b : Int) (hh : IsHouse (Old H) H v1 v2 h) (hs : Sized h)
    (k : ∀ H', Grew H H' → R (.tuple [.agg [I (betweenE h a b).1.1.1, I (betweenE h a b).1.1.2], .agg [I (betweenE h a b).1.2.1, I (betweenE h a b).1.2.2], I (betweenE h a b).2]) H') : CallQ prog (.func 25 [] []) [.agg [v1, v2], I a, I b] H R := by
  have hbE : betweenE h a b = if enterErr h [a, h.ws.length, b, h.ws.length] 0 ≠ 0 then (((0, 0), (0, 0)), enterErr h [a, h.ws.length, b, h.ws.length] 0) else (quotE (quotsOf (truthsE h) a.toNat b.toNat), 0) := by
    rw [betweenE_err, betweenE]
    by_cases h1 : pairErr h a b = 0
    · by_cases h2 : truthsE h = []
      · simp [h1, h2]
      · simp [h1, h2]
    · simp [h1]
  have hg0 : Grew H ((((H.alloc (.cells false [v1, v2])).alloc (.cells false [I 0, I 0])).alloc (.cells false [I 0, I 0])).alloc (.cells false [I a, I h.ws.length, I b, I h.ws.length])) := GW
  refine CallQ_enter (fn:=c25) rfl (Nat.le_of_ble_eq_true rfl) ?_;simp(maxSteps:=9999999)(disch:=first|omega|(simp only[AN];omega))only[c25,envFrom,hh.1.len,↓KP,EK,↓reduceIte,reduceCtorEq,Nat.reduceEqDiff,Nat.reduceAdd,Nat.reduceLeDiff,Nat.reduceMul]
  refine C_call (enter_run v1 v2 _ _ h [a, h.ws.length, b, h.ws.length] 0 (hh.grow hg0) (four_slice _ _ _ _ _) (by simp) (fun j hj hodd => ?_) rfl (fun _ _ H1 R _ hk => fine_run (hk _ (Grew.refl _))) (fun he H1 hg => ?_) (fun he hfine hne H1 N p m hg hm hheld => ?_))
  · have : j = 1 ∨ j = 3 := by simp at hj; omega
    have := hs.ws
    rcases ‹j = 1 ∨ j = 3› with rfl | rfl <;> (simp only [List.getElem_cons_succ, List.getElem_cons_zero]; omega)
  · have hgn := hg.next; simp only [AH.next_alloc] at hgn
    simp(maxSteps:=9999999)(disch:=first|omega|(simp only[AN];omega))only[he,hg.get,↓KP,EK,↓reduceIte,reduceCtorEq,Nat.reduceEqDiff,Nat.reduceAdd,Nat.reduceLeDiff,Nat.reduceMul]
    refine K_draw ?_;simp(maxSteps:=9999999)(disch:=first|omega|(simp only[AN];omega))only[hg.get,↓KP,EK,↓reduceIte,reduceCtorEq,Nat.reduceEqDiff,Nat.reduceAdd,Nat.reduceLeDiff,Nat.reduceMul]
    rw [hbE, if_pos he] at k
    refine k _ ?_
    exact GW
  · have hgn := hg.next; simp only [AH.next_alloc] at hgn
    rw [hbE, if_neg (by omega)] at k
    simp only [AH.next_alloc] at hm
    have hw : (0 ≤ a ∧ a ≤ (h.ws.length : Int) - 1) ∧ (0 ≤ b ∧ b ≤ (h.ws.length : Int) - 1) := by
      rw [betweenE_err] at he
      by_cases h1 : pairErr h a b = 0
      · unfold pairErr at h1
        by_cases h2 : indexE h a h.ws.length = 0
        · rw [if_neg (by omega)] at h1
          have := indexE_zero h1
          have := indexE_zero h2
          omega
        · rw [if_pos h2] at h1; omega
      · simp [h1] at he
    obtain ⟨a', rfl⟩ : ∃ a' : Nat, a = a' := ⟨a.toNat, by omega⟩
    obtain ⟨b', rfl⟩ : ∃ b' : Nat, b = b' := ⟨b.toNat, by omega⟩
    simp(maxSteps:=9999999)(disch:=first|omega|(simp only[AN];omega))only[hg.get,↓KP,EK,↓reduceIte,reduceCtorEq,Nat.reduceEqDiff,Nat.reduceAdd,Nat.reduceLeDiff,Nat.reduceMul]
    refine C_call (between_run a' b' hfine (by omega) hheld (by omega) (by omega) fun H2 hg2 hh2 => ?_)
    have hg2' : Grew H H2 := GrewBut.grew (hg0.trans hg) hg2 (by omega)
    have hg2n := hg2.next
    have e6 : H2.get (H.next + 1) = some (.cells false [I 0, I 0]) := by rw [hg2.get _ (by omega) (by omega)]; simp(maxSteps:=9999999)(disch:=first|omega|(simp only[AN];omega))only[hg.get,↓KP,EK,↓reduceIte,reduceCtorEq,Nat.reduceEqDiff,Nat.reduceAdd,Nat.reduceLeDiff,Nat.reduceMul]
    have e7 : H2.get (H.next + 1 + 1) = some (.cells false [I 0, I 0]) := by rw [hg2.get _ (by omega) (by omega)]; simp(maxSteps:=9999999)(disch:=first|omega|(simp only[AN];omega))only[hg.get,↓KP,EK,↓reduceIte,reduceCtorEq,Nat.reduceEqDiff,Nat.reduceAdd,Nat.reduceLeDiff,Nat.reduceMul]
    rw [lookE_zero]
    simp(maxSteps:=9999999)(disch:=first|omega|(simp only[AN];omega))only[e6,e7,↓KP,EK,↓reduceIte,reduceCtorEq,Nat.reduceEqDiff,Nat.reduceAdd,Nat.reduceLeDiff,Nat.reduceMul]
    refine K_draw ?_;simp(maxSteps:=9999999)(disch:=first|omega|(simp only[AN];omega))only[e6,e7,↓KP,EK,↓reduceIte,reduceCtorEq,Nat.reduceEqDiff,Nat.reduceAdd,Nat.reduceLeDiff,Nat.reduceMul]
    refine k _ ?_
    exact GW
end Go.Proofs.Ytgncpbkedhchfaa
namespace Go.Proofs.Ytgncpbkedhchfaa
open Go.AM Go.IntWalk
set_option maxRecDepth 100000
set_option maxHeartbeats 4000000
set_option linter.unusedSimpArgs false
variable {H : AH} {R : AV → AH → Prop}
structure Found where
  is : Bool
  a : Int
  b : Int
  best : Int × Int
def takes (s : Found) (k i : Nat) (q : Int × Int) : Bool := decide (ltE s.best q) || (s.is && (q == s.best) && (decide ((k : Int) < s.a) || (decide ((k : Int) = s.a) && decide ((i : Int) < s.b))))
def pStep (l : List (List Int)) (i : Nat) (s : Found) (k : Nat) : Found := if takes s k i (spreadE (quotE (quotsOf l k i))) then ⟨true, k, i, spreadE (quotE (quotsOf l k i))⟩ else s
def pRow (l : List (List Int)) (i m : Nat) (s : Found) : Found := (List.range m).foldl (pStep l i) s
def pAll (l : List (List Int)) (n : Nat) : Found := (List.range n).foldl (fun s i => pRow l i i s) ⟨false, 0, 0, (1, 1)⟩
theorem pRow_succ {l : List (List Int)} {i m : Nat} {s : Found} : pRow l i (m + 1) s = pStep l i (pRow l i m s) m := by
  simp only [pRow, List.range_succ, List.foldl_append, List.foldl_cons, List.foldl_nil]
theorem pAll_succ {l : List (List Int)} {n : Nat} : pAll l (n + 1) = pRow l n n (pAll l n) := by
  simp only [pAll, List.range_succ, List.foldl_append, List.foldl_cons, List.foldl_nil]
theorem pAll_next (l : List (List Int)) (n : Nat) (hn : n ≤ 3) : (if (nextAll l n n).1.1 < 0 then ((0, 0), 9) else ((nextAll l n n).1, 0) : (Int × Int) × Int) = if (pAll l n).is = true then (((pAll l n).a, (pAll l n).b), 0) else ((0, 0), 9) := by
  have key : ∀ k i : Nat, ∀ q, takes ⟨false, 0, 0, (1, 1)⟩ k i q = decide (ltE (1, 1) q) := fun k i q => by simp [takes]
  rcases (show n = 0 ∨ n = 1 ∨ n = 2 ∨ n = 3 by omega) with rfl | rfl | rfl | rfl
  · rfl
  · rfl
  · simp only [nextAll, nextRow, pAll, pRow, show List.range 2 = [0, 1] from rfl, show List.range 1 = [0] from rfl, show List.range 0 = [] from rfl, List.foldl_cons, List.foldl_nil, show List.range' (0 + 1) (2 - (0 + 1)) = [1] from rfl, show List.range' (1 + 1) (2 - (1 + 1)) = [] from rfl, nextStep, pStep, key]
    by_cases h1 : ltE (1, 1) (spreadE (quotE (quotsOf l 0 1)))
    · simp [h1]
    · simp [h1]
  · simp only [nextAll, nextRow, pAll, pRow, show List.range 3 = [0, 1, 2] from rfl, show List.range 2 = [0, 1] from rfl, show List.range 1 = [0] from rfl, show List.range 0 = [] from rfl, List.foldl_cons, List.foldl_nil, show List.range' (0 + 1) (3 - (0 + 1)) = [1, 2] from rfl, show List.range' (1 + 1) (3 - (1 + 1)) = [2] from rfl, show List.range' (2 + 1) (3 - (2 + 1)) = [] from rfl, nextStep, pStep, key]
    generalize spreadE (quotE (quotsOf l 0 1)) = x
    generalize spreadE (quotE (quotsOf l 0 2)) = y
    generalize spreadE (quotE (quotsOf l 1 2)) = z
    by_cases h1 : ltE (1, 1) x <;> by_cases h2 : ltE (1, 1) y <;> by_cases h3 : ltE (1, 1) z <;> by_cases h4 : ltE x y <;> by_cases h5 : ltE x z <;> by_cases h6 : ltE y z <;> simp [takes, h1, h2, h3, h4, h5, h6]
theorem pNext_run (v1 v2 : AV) (h : House) (hh : IsHouse (Old H) H v1 v2 h)
    (k : ∀ H', Grew H H' → R (.tuple [I (nextE h).1.1, I (nextE h).1.2, I (nextE h).2]) H') : CallQ prog (.func 27 [] []) [.agg [v1, v2]] H R := by
  have herr : enterErr h [] 0 = if errE h ≠ 0 then errE h else if truthsE h = [] then 8 else 0 := by
    simp [enterErr, pairsOff]
  refine CallQ_enter (fn:=c27) rfl (Nat.le_of_ble_eq_true rfl) ?_;simp(maxSteps:=9999999)(disch:=first|omega|(simp only[AN];omega))only[c27,envFrom,↓KP,EK,↓reduceIte,reduceCtorEq,Nat.reduceEqDiff,Nat.reduceAdd,Nat.reduceLeDiff,Nat.reduceMul]
  refine C_call (enter_run v1 v2 _ _ h [] 0 (hh.grow GW) (.inl ⟨rfl, rfl⟩) (by simp) (fun j hj _ => by simp at hj) rfl (fun _ _ H1 R _ hk => fine_run (hk _ (Grew.refl _))) (fun he H1 hg => ?_) (fun he hfine hne H1 N p m hg hm hheld => ?_))
  · have hgn := hg.next; simp only [AH.next_alloc] at hgn
    have hnE : nextE h = ((0, 0), enterErr h [] 0) := by
      rw [herr] at he ⊢
      unfold nextE
      by_cases h1 : errE h = 0
      · by_cases h2 : truthsE h = []
        · simp [h1, h2]
        · simp [h1, h2] at he
      · simp [h1]
    simp(maxSteps:=9999999)(disch:=first|omega|(simp only[AN];omega))only[he,↓KP,EK,↓reduceIte,reduceCtorEq,Nat.reduceEqDiff,Nat.reduceAdd,Nat.reduceLeDiff,Nat.reduceMul]
    rw [hnE] at k
    refine k _ ?_
    exact GW
  · have hgn := hg.next; simp only [AH.next_alloc] at hgn
    simp only [AH.next_alloc] at hm
    have hws3 := hfine.ws
    have hnE : nextE h = if (pAll (truthsE h) h.ws.length).is = true then (((pAll (truthsE h) h.ws.length).a, (pAll (truthsE h) h.ws.length).b), 0) else ((0, 0), 9) := by
      rw [← pAll_next _ _ hws3]
      rw [herr] at he
      by_cases h1 : errE h = 0
      · simp [nextE, h1, hne]
      · simp [h1] at he
    have hbox : H1.get H.next = some (.cells false [v1, v2]) := by simp(maxSteps:=9999999)(disch:=first|omega|(simp only[AN];omega))only[hg.get,↓KP,EK,↓reduceIte,reduceCtorEq,Nat.reduceEqDiff,Nat.reduceAdd,Nat.reduceLeDiff,Nat.reduceMul]
    have hfac := truthsE_factors hfine
    simp(maxSteps:=9999999)(disch:=first|omega|(simp only[AN];omega))only[hbox,hh.1.len,↓KP,EK,↓reduceIte,reduceCtorEq,Nat.reduceEqDiff,Nat.reduceAdd,Nat.reduceLeDiff,Nat.reduceMul]
    refine K_loop (fun mz ez H2 => ∃ (i : Nat) (s : Found) (tail : Env), ez = (0, .agg [v1, v2]) :: (1, .ptr H.next 0) :: (2, I s.a) :: (3, I s.b) :: (4, I 0) :: (5, .ptr p 0) :: (19, .bool false) :: (6, .ptr H1.next 0) :: (7, .bool s.is) :: (24, I h.ws.length) :: (25, I i) :: tail ∧ (GrewBut m H1 H2) ∧ (H1.next < H2.next) ∧ (Held N p m v1 v2 h 0 H2) ∧ (H2.get H1.next = some (.cells false [I s.best.1, I s.best.2])) ∧ (i ≤ h.ws.length) ∧ (s = pAll (truthsE h) i) ∧ (InR 90000 s.best) ∧ mz = h.ws.length - i) _ ⟨0, ⟨false, 0, 0, (1, 1)⟩, _, rfl, (by exact Grew.but GW), ?_, (by exact hheld.up GW), ?_, ?_, ?_, (by unfold InR; decide), rfl⟩ ?_
    iterate 4 (focus (first|(with_reducible rfl)|omega|(with_reducible(repeat first|exact Grew.refl _|assumption|apply Grew.alloc|refine Grew.set ?_ _ (by first|omega|(simp only[AN];omega)));done)|(simp(maxSteps:=9999999)(disch:=first|omega|(simp only[AN];omega))only[↓KP,EK,↓reduceIte,reduceCtorEq,Nat.reduceEqDiff,Nat.reduceAdd,Nat.reduceLeDiff,Nat.reduceMul]<;>first|omega|rfl)|(simp;done)|rfl))
    rintro mz ez H2 ⟨i, s, tail, rfl, hgb, hlt, hheld2, h6, hi, hs, hin, hmz⟩; subst mz
    have hmlt := hheld.look.mlt
    have hnle := hheld.look.nle
    simp(maxSteps:=9999999)(disch:=first|omega|(simp only[AN];omega))only[↓KP,EK,↓reduceIte,reduceCtorEq,Nat.reduceEqDiff,Nat.reduceAdd,Nat.reduceLeDiff,Nat.reduceMul]
    refine C_decide (fun hc => ?_) (fun hc => ?_)
    · have e1 : IntKind.i64.wrap ((i : Int) + 1) = ((i + 1 : Nat) : Int) := i64_in _ (by omega)
      simp(maxSteps:=9999999)(disch:=first|omega|(simp only[AN];omega))only[↓KP,EK,↓reduceIte,reduceCtorEq,Nat.reduceEqDiff,Nat.reduceAdd,Nat.reduceLeDiff,Nat.reduceMul]
      refine K_loop (fun mz ez H3 => ∃ (j : Nat) (t : Found) (tail : Env), ez = (0, .agg [v1, v2]) :: (1, .ptr H.next 0) :: (2, I t.a) :: (3, I t.b) :: (4, I 0) :: (5, .ptr p 0) :: (19, .bool false) :: (6, .ptr H1.next 0) :: (7, .bool t.is) :: (24, I h.ws.length) :: (25, I i) :: tail ∧ (tail.get 8 = some (I i)) ∧ (tail.get 28 = some (I i)) ∧ (tail.get 29 = some (I j)) ∧ (GrewBut m H1 H3) ∧ (H1.next < H3.next) ∧ (Held N p m v1 v2 h 0 H3) ∧ (H3.get H1.next = some (.cells false [I t.best.1, I t.best.2])) ∧ (j ≤ i) ∧ (t = pRow (truthsE h) i j s) ∧ (InR 90000 t.best) ∧ mz = i - j) _ ⟨0, s, _, rfl, ?_, ?_, ?_, (by exact hgb), ?_, (by exact hheld2), (by exact h6), ?_, ?_, (by exact hin), rfl⟩ ?_
      iterate 6 (focus (first|(with_reducible rfl)|omega|(with_reducible(repeat first|exact Grew.refl _|assumption|apply Grew.alloc|refine Grew.set ?_ _ (by first|omega|(simp only[AN];omega)));done)|(simp(maxSteps:=9999999)(disch:=first|omega|(simp only[AN];omega))only[↓KP,EK,↓reduceIte,reduceCtorEq,Nat.reduceEqDiff,Nat.reduceAdd,Nat.reduceLeDiff,Nat.reduceMul]<;>first|omega|rfl)|(simp;done)|rfl))
      rintro mz ez H3 ⟨j, t, tail, rfl, t8, t28, t29, hgb3, hlt3, hheld3, h63, hj, ht, hin3, hmz⟩; subst mz
      simp(maxSteps:=9999999)(disch:=first|omega|(simp only[AN];omega))only[t28,t29,↓KP,EK,↓reduceIte,reduceCtorEq,Nat.reduceEqDiff,Nat.reduceAdd,Nat.reduceLeDiff,Nat.reduceMul]
      refine C_decide (fun hc2 => ?_) (fun hc2 => ?_)
      · have e2 : IntKind.i64.wrap ((j : Int) + 1) = ((j + 1 : Nat) : Int) := i64_in _ (by omega)
        have hq := quotE_in (quotsOf_in hfac (a := j) (b := i) (by omega) (by omega)) (by
          intro e
          have := congrArg List.length e
          simp only [quotsOf, List.length_map, List.length_nil] at this
          exact hne (List.length_eq_zero_iff.1 this))
        have hz := spreadE_in hq.1 hq.2
        have hstep : pRow (truthsE h) i (j + 1) s = pStep (truthsE h) i t j := by rw [pRow_succ, ← ht]
        simp only [pStep] at hstep
        have r1 := hq.1
        have r2 := hq.2
        unfold InR at r1 r2
        have q1 := mul_in (a := (quotE (quotsOf (truthsE h) j i)).2.1) (b := (quotE (quotsOf (truthsE h) j i)).1.2) (m := 300) (n := 300) (by omega) (by omega)
        have q2 := mul_in (a := (quotE (quotsOf (truthsE h) j i)).2.2) (b := (quotE (quotsOf (truthsE h) j i)).1.1) (m := 300) (n := 300) (by omega) (by omega)
        have e3 : IntKind.i64.wrap ((quotE (quotsOf (truthsE h) j i)).2.1 * (quotE (quotsOf (truthsE h) j i)).1.2) = (quotE (quotsOf (truthsE h) j i)).2.1 * (quotE (quotsOf (truthsE h) j i)).1.2 := i64_in _ (by omega)
        have e4 : IntKind.i64.wrap ((quotE (quotsOf (truthsE h) j i)).2.2 * (quotE (quotsOf (truthsE h) j i)).1.1) = (quotE (quotsOf (truthsE h) j i)).2.2 * (quotE (quotsOf (truthsE h) j i)).1.1 := i64_in _ (by omega)
        simp(maxSteps:=9999999)(disch:=first|omega|(simp only[AN];omega))only[t8,t29,↓KP,EK,↓reduceIte,reduceCtorEq,Nat.reduceEqDiff,Nat.reduceAdd,Nat.reduceLeDiff,Nat.reduceMul]
        refine C_call (between_run j i hfine (by omega) hheld3 (by omega) (by omega) fun H4 hg4 hh4 => ?_)
        have hg4n := hg4.next
        rw [lookE_zero]
        simp(maxSteps:=9999999)(disch:=first|omega|(simp only[AN];omega))only[e3,e4,↓KP,EK,↓reduceIte,reduceCtorEq,Nat.reduceEqDiff,Nat.reduceAdd,Nat.reduceLeDiff,Nat.reduceMul]
        first|refine C_call ?_|refine C_calld ?_
        refine plow_run _ _ ⟨q1.1, by omega⟩ ⟨q2.1, by omega⟩ fun H5 hg5 => ?_
        have hg5n:=hg5.next;try simp only[AN]at hg5n
        have h65 : H5.get H1.next = some (.cells false [I t.best.1, I t.best.2]) := by
          rw [hg5.get _ (by simp(maxSteps:=9999999)(disch:=first|omega|(simp only[AN];omega))only[↓KP,EK,↓reduceIte,reduceCtorEq,Nat.reduceEqDiff,Nat.reduceAdd,Nat.reduceLeDiff,Nat.reduceMul]; omega)]; simp(maxSteps:=9999999)(disch:=first|omega|(simp only[AN];omega))only[↓KP,EK,↓reduceIte,reduceCtorEq,Nat.reduceEqDiff,Nat.reduceAdd,Nat.reduceLeDiff,Nat.reduceMul]
          rw [hg4.get _ (by omega) (by omega)]; exact h63
        have hgb5 : GrewBut m H1 H5 := ⟨by omega, fun b hb hbm => by
          rw [hg5.get _ (by simp(maxSteps:=9999999)(disch:=first|omega|(simp only[AN];omega))only[↓KP,EK,↓reduceIte,reduceCtorEq,Nat.reduceEqDiff,Nat.reduceAdd,Nat.reduceLeDiff,Nat.reduceMul]; omega)]; simp(maxSteps:=9999999)(disch:=first|omega|(simp only[AN];omega))only[↓KP,EK,↓reduceIte,reduceCtorEq,Nat.reduceEqDiff,Nat.reduceAdd,Nat.reduceLeDiff,Nat.reduceMul]
          rw [hg4.get _ (by omega) hbm, hgb3.get b hb hbm]⟩
        have hh5 : Held N p m v1 v2 h 0 H5 := hh4.up (H2 := H5) (Grew.trans GW hg5)
        have hsp : lowE ((quotE (quotsOf (truthsE h) j i)).2.1 * (quotE (quotsOf (truthsE h) j i)).1.2) ((quotE (quotsOf (truthsE h) j i)).2.2 * (quotE (quotsOf (truthsE h) j i)).1.1) = spreadE (quotE (quotsOf (truthsE h) j i)) := rfl
        rw [hsp]
        generalize spreadE (quotE (quotsOf (truthsE h) j i)) = z at hstep hz
        simp(maxSteps:=9999999)(disch:=first|omega|(simp only[AN];omega))only[h65,↓KP,EK,↓reduceIte,reduceCtorEq,Nat.reduceEqDiff,Nat.reduceAdd,Nat.reduceLeDiff,Nat.reduceMul]
        first|refine C_call ?_|refine C_calld ?_
        refine less_run t.best z hin3 hz fun H6 hg6 => ?_
        have hg6n:=hg6.next;try simp only[AN]at hg6n
        have h66 : H6.get H1.next = some (.cells false [I t.best.1, I t.best.2]) := by simp(maxSteps:=9999999)(disch:=first|omega|(simp only[AN];omega))only[hg6.get,h65,↓KP,EK,↓reduceIte,reduceCtorEq,Nat.reduceEqDiff,Nat.reduceAdd,Nat.reduceLeDiff,Nat.reduceMul]
        have h6z : H6.get H5.next = some (.cells false [I z.1, I z.2]) := by simp(maxSteps:=9999999)(disch:=first|omega|(simp only[AN];omega))only[hg6.get,↓KP,EK,↓reduceIte,reduceCtorEq,Nat.reduceEqDiff,Nat.reduceAdd,Nat.reduceLeDiff,Nat.reduceMul]
        have hgb6 : GrewBut m H1 H6 := hgb5.trans (Grew.but (Grew.trans GW hg6))
        have hh6 : Held N p m v1 v2 h 0 H6 := hh5.up (Grew.trans GW hg6)
        have hgb7 : ∀ o, GrewBut m H1 (H6.set H1.next o) := fun o => ⟨by simp(maxSteps:=9999999)(disch:=first|omega|(simp only[AN];omega))only[↓KP,EK,↓reduceIte,reduceCtorEq,Nat.reduceEqDiff,Nat.reduceAdd,Nat.reduceLeDiff,Nat.reduceMul]; omega, fun b hb hbm => by rw [get_set_other (by omega)]; exact hgb6.get b hb hbm⟩
        have hh7 : ∀ o, Held N p m v1 v2 h 0 (H6.set H1.next o) := fun o => hh6.keep (Nat.le_refl _) fun b hb => get_set_other (by omega)
        have hdn : (z == t.best) = decide (z = t.best) := by
          by_cases e : z = t.best
          · simp [e]
          · simp [e]
        obtain ⟨tis, ta, tb, tbest⟩ := t
        simp only at h66 hstep hdn hin3 hgb7
        by_cases hl : ltE tbest z
        · have htk : takes ⟨tis, ta, tb, tbest⟩ j i z = true := by simp [takes, hl]
          rw [if_pos htk] at hstep
          simp(maxSteps:=9999999)(disch:=first|omega|(simp only[AN];omega))only[hl,h66,h6z,t8,t29,↓KP,EK,↓reduceIte,reduceCtorEq,Nat.reduceEqDiff,Nat.reduceAdd,Nat.reduceLeDiff,Nat.reduceMul]
          refine K_draw ?_;simp(maxSteps:=9999999)(disch:=first|omega|(simp only[AN];omega))only[h66,h6z,t8,t29,e2,↓KP,EK,↓reduceIte,reduceCtorEq,Nat.reduceEqDiff,Nat.reduceAdd,Nat.reduceLeDiff,Nat.reduceMul]
          refine ⟨_, ?_, j + 1, ⟨true, j, i, z⟩, _, rfl, ?_, ?_, ?_, (by exact hgb7 _), ?_, (by exact hh7 _), (by simp(maxSteps:=9999999)(disch:=first|omega|(simp only[AN];omega))only[↓KP,EK,↓reduceIte,reduceCtorEq,Nat.reduceEqDiff,Nat.reduceAdd,Nat.reduceLeDiff,Nat.reduceMul]), ?_, (by exact hstep.symm), (by exact hz), rfl⟩ <;> (first|omega|(with_reducible assumption)|(with_reducible(repeat first|exact Grew.refl _|assumption|apply Grew.alloc|refine Grew.set ?_ _ (by first|omega|(simp only[AN];omega)));done)|(simp(maxSteps:=9999999)(disch:=first|omega|(simp only[AN];omega))only[t8,t28,t29,↓KP,EK,↓reduceIte,reduceCtorEq,Nat.reduceEqDiff,Nat.reduceAdd,Nat.reduceLeDiff,Nat.reduceMul]<;>first|omega|rfl))
        · cases tis with
          | false =>
            have htk : ¬ takes ⟨false, ta, tb, tbest⟩ j i z = true := by simp [takes, hl]
            rw [if_neg htk] at hstep
            simp(maxSteps:=9999999)(disch:=first|omega|(simp only[AN];omega))only[hl,h66,h6z,t8,t29,e2,↓KP,EK,↓reduceIte,reduceCtorEq,Nat.reduceEqDiff,Nat.reduceAdd,Nat.reduceLeDiff,Nat.reduceMul]
            refine ⟨_, ?_, j + 1, ⟨false, ta, tb, tbest⟩, _, rfl, ?_, ?_, ?_, (by exact hgb6), ?_, (by exact hh6), (by exact h66), ?_, (by exact hstep.symm), (by exact hin3), rfl⟩ <;> (first|omega|(with_reducible assumption)|(with_reducible(repeat first|exact Grew.refl _|assumption|apply Grew.alloc|refine Grew.set ?_ _ (by first|omega|(simp only[AN];omega)));done)|(simp(maxSteps:=9999999)(disch:=first|omega|(simp only[AN];omega))only[t8,t28,t29,↓KP,EK,↓reduceIte,reduceCtorEq,Nat.reduceEqDiff,Nat.reduceAdd,Nat.reduceLeDiff,Nat.reduceMul]<;>first|omega|rfl))
          | true =>
            by_cases hzq : z = tbest
            · have hx : eqFlatA true [.i, .i] (.agg [I z.1, I z.2]) (.agg [I tbest.1, I tbest.2]) = some true := by rw [hzq]; simp [eqFlatA, eqCells]
              have hdn' : (z == tbest) = true := by rw [hdn, hzq]; simp
              by_cases hka : (j : Int) < ta
              · have htk : takes ⟨true, ta, tb, tbest⟩ j i z = true := by simp [takes, hl, hka, hdn']
                rw [if_pos htk] at hstep
                simp(maxSteps:=9999999)(disch:=first|omega|(simp only[AN];omega))only[hl,hx,hka,h66,h6z,t8,t29,↓KP,EK,↓reduceIte,reduceCtorEq,Nat.reduceEqDiff,Nat.reduceAdd,Nat.reduceLeDiff,Nat.reduceMul]
                refine K_draw ?_;simp(maxSteps:=9999999)(disch:=first|omega|(simp only[AN];omega))only[h66,h6z,t8,t29,e2,↓KP,EK,↓reduceIte,reduceCtorEq,Nat.reduceEqDiff,Nat.reduceAdd,Nat.reduceLeDiff,Nat.reduceMul]
                refine ⟨_, ?_, j + 1, ⟨true, j, i, z⟩, _, rfl, ?_, ?_, ?_, (by exact hgb7 _), ?_, (by exact hh7 _), (by simp(maxSteps:=9999999)(disch:=first|omega|(simp only[AN];omega))only[↓KP,EK,↓reduceIte,reduceCtorEq,Nat.reduceEqDiff,Nat.reduceAdd,Nat.reduceLeDiff,Nat.reduceMul]), ?_, (by exact hstep.symm), (by exact hz), rfl⟩ <;> (first|omega|(with_reducible assumption)|(with_reducible(repeat first|exact Grew.refl _|assumption|apply Grew.alloc|refine Grew.set ?_ _ (by first|omega|(simp only[AN];omega)));done)|(simp(maxSteps:=9999999)(disch:=first|omega|(simp only[AN];omega))only[t8,t28,t29,↓KP,EK,↓reduceIte,reduceCtorEq,Nat.reduceEqDiff,Nat.reduceAdd,Nat.reduceLeDiff,Nat.reduceMul]<;>first|omega|rfl))
              · by_cases hke : (j : Int) = ta
                · by_cases hib : (i : Int) < tb
                  · have htk : takes ⟨true, ta, tb, tbest⟩ j i z = true := by simp [takes, hl, hka, eq_true hke, hib, hdn']
                    rw [if_pos htk] at hstep
                    simp(maxSteps:=9999999)(disch:=first|omega|(simp only[AN];omega))only[hl,hx,hka,eq_true hke,hib,h66,h6z,t8,t29,↓KP,EK,↓reduceIte,reduceCtorEq,Nat.reduceEqDiff,Nat.reduceAdd,Nat.reduceLeDiff,Nat.reduceMul]
                    refine K_draw ?_;simp(maxSteps:=9999999)(disch:=first|omega|(simp only[AN];omega))only[h66,h6z,t8,t29,e2,↓KP,EK,↓reduceIte,reduceCtorEq,Nat.reduceEqDiff,Nat.reduceAdd,Nat.reduceLeDiff,Nat.reduceMul]
                    refine ⟨_, ?_, j + 1, ⟨true, j, i, z⟩, _, rfl, ?_, ?_, ?_, (by exact hgb7 _), ?_, (by exact hh7 _), (by simp(maxSteps:=9999999)(disch:=first|omega|(simp only[AN];omega))only[↓KP,EK,↓reduceIte,reduceCtorEq,Nat.reduceEqDiff,Nat.reduceAdd,Nat.reduceLeDiff,Nat.reduceMul]), ?_, (by exact hstep.symm), (by exact hz), rfl⟩ <;> (first|omega|(with_reducible assumption)|(with_reducible(repeat first|exact Grew.refl _|assumption|apply Grew.alloc|refine Grew.set ?_ _ (by first|omega|(simp only[AN];omega)));done)|(simp(maxSteps:=9999999)(disch:=first|omega|(simp only[AN];omega))only[t8,t28,t29,↓KP,EK,↓reduceIte,reduceCtorEq,Nat.reduceEqDiff,Nat.reduceAdd,Nat.reduceLeDiff,Nat.reduceMul]<;>first|omega|rfl))
                  · have htk : ¬ takes ⟨true, ta, tb, tbest⟩ j i z = true := by simp [takes, hl, hka, eq_true hke, hib, hdn']
                    rw [if_neg htk] at hstep
                    simp(maxSteps:=9999999)(disch:=first|omega|(simp only[AN];omega))only[hl,hx,hka,eq_true hke,hib,h66,h6z,t8,t29,e2,↓KP,EK,↓reduceIte,reduceCtorEq,Nat.reduceEqDiff,Nat.reduceAdd,Nat.reduceLeDiff,Nat.reduceMul]
                    refine ⟨_, ?_, j + 1, ⟨true, ta, tb, tbest⟩, _, rfl, ?_, ?_, ?_, (by exact hgb6), ?_, (by exact hh6), (by exact h66), ?_, (by exact hstep.symm), (by exact hin3), rfl⟩ <;> (first|omega|(with_reducible assumption)|(with_reducible(repeat first|exact Grew.refl _|assumption|apply Grew.alloc|refine Grew.set ?_ _ (by first|omega|(simp only[AN];omega)));done)|(simp(maxSteps:=9999999)(disch:=first|omega|(simp only[AN];omega))only[t8,t28,t29,↓KP,EK,↓reduceIte,reduceCtorEq,Nat.reduceEqDiff,Nat.reduceAdd,Nat.reduceLeDiff,Nat.reduceMul]<;>first|omega|rfl))
                · have htk : ¬ takes ⟨true, ta, tb, tbest⟩ j i z = true := by simp [takes, hl, hka, hke, hdn']
                  rw [if_neg htk] at hstep
                  simp(maxSteps:=9999999)(disch:=first|omega|(simp only[AN];omega))only[hl,hx,hka,hke,h66,h6z,t8,t29,e2,↓KP,EK,↓reduceIte,reduceCtorEq,Nat.reduceEqDiff,Nat.reduceAdd,Nat.reduceLeDiff,Nat.reduceMul]
                  refine ⟨_, ?_, j + 1, ⟨true, ta, tb, tbest⟩, _, rfl, ?_, ?_, ?_, (by exact hgb6), ?_, (by exact hh6), (by exact h66), ?_, (by exact hstep.symm), (by exact hin3), rfl⟩ <;> (first|omega|(with_reducible assumption)|(with_reducible(repeat first|exact Grew.refl _|assumption|apply Grew.alloc|refine Grew.set ?_ _ (by first|omega|(simp only[AN];omega)));done)|(simp(maxSteps:=9999999)(disch:=first|omega|(simp only[AN];omega))only[t8,t28,t29,↓KP,EK,↓reduceIte,reduceCtorEq,Nat.reduceEqDiff,Nat.reduceAdd,Nat.reduceLeDiff,Nat.reduceMul]<;>first|omega|rfl))
            · have hx : eqFlatA true [.i, .i] (.agg [I z.1, I z.2]) (.agg [I tbest.1, I tbest.2]) = some false := by
                have : ¬ (z.1 = tbest.1 ∧ z.2 = tbest.2) := fun e => hzq (Prod.ext e.1 e.2)
                simp [eqFlatA, eqCells]; omega
              have hdn' : (z == tbest) = false := by rw [hdn]; simp [hzq]
              have htk : ¬ takes ⟨true, ta, tb, tbest⟩ j i z = true := by simp [takes, hl, hdn']
              rw [if_neg htk] at hstep
              simp(maxSteps:=9999999)(disch:=first|omega|(simp only[AN];omega))only[hl,hx,h66,h6z,t8,t29,e2,↓KP,EK,↓reduceIte,reduceCtorEq,Nat.reduceEqDiff,Nat.reduceAdd,Nat.reduceLeDiff,Nat.reduceMul]
              refine ⟨_, ?_, j + 1, ⟨true, ta, tb, tbest⟩, _, rfl, ?_, ?_, ?_, (by exact hgb6), ?_, (by exact hh6), (by exact h66), ?_, (by exact hstep.symm), (by exact hin3), rfl⟩ <;> (first|omega|(with_reducible assumption)|(with_reducible(repeat first|exact Grew.refl _|assumption|apply Grew.alloc|refine Grew.set ?_ _ (by first|omega|(simp only[AN];omega)));done)|(simp(maxSteps:=9999999)(disch:=first|omega|(simp only[AN];omega))only[t8,t28,t29,↓KP,EK,↓reduceIte,reduceCtorEq,Nat.reduceEqDiff,Nat.reduceAdd,Nat.reduceLeDiff,Nat.reduceMul]<;>first|omega|rfl))
      · have hje : j = i := by omega
        subst hje
        simp(maxSteps:=9999999)(disch:=first|omega|(simp only[AN];omega))only[e1,↓KP,EK,↓reduceIte,reduceCtorEq,Nat.reduceEqDiff,Nat.reduceAdd,Nat.reduceLeDiff,Nat.reduceMul]
        refine ⟨_, ?_, j + 1, t, _, rfl, (by exact hgb3), ?_, (by exact hheld3), (by exact h63), ?_, (by rw [pAll_succ, ← hs]; exact ht), (by exact hin3), rfl⟩ <;> (first|omega|(with_reducible assumption)|(with_reducible(repeat first|exact Grew.refl _|assumption|apply Grew.alloc|refine Grew.set ?_ _ (by first|omega|(simp only[AN];omega)));done)|(simp(maxSteps:=9999999)(disch:=first|omega|(simp only[AN];omega))only[↓KP,EK,↓reduceIte,reduceCtorEq,Nat.reduceEqDiff,Nat.reduceAdd,Nat.reduceLeDiff,Nat.reduceMul]<;>first|omega|rfl))
    · have hie : i = h.ws.length := by omega
      subst hie
      rw [← hs] at hnE
      have hg2 : Grew H H2 := GrewBut.grew (Grew.trans GW hg) hgb (by omega)
      simp(maxSteps:=9999999)(disch:=first|omega|(simp only[AN];omega))only[↓KP,EK,↓reduceIte,reduceCtorEq,Nat.reduceEqDiff,Nat.reduceAdd,Nat.reduceLeDiff,Nat.reduceMul]
      obtain ⟨tis, ta, tb, tbest⟩ := s
      cases tis with
      | false =>
        rw [hnE] at k
        simp(maxSteps:=9999999)(disch:=first|omega|(simp only[AN];omega))only[↓KP,EK,↓reduceIte,reduceCtorEq,Nat.reduceEqDiff,Nat.reduceAdd,Nat.reduceLeDiff,Nat.reduceMul]
        exact k _ hg2
      | true =>
        rw [hnE] at k
        simp(maxSteps:=9999999)(disch:=first|omega|(simp only[AN];omega))only[↓KP,EK,↓reduceIte,reduceCtorEq,Nat.reduceEqDiff,Nat.reduceAdd,Nat.reduceLeDiff,Nat.reduceMul]
        exact k _ hg2
end Go.Proofs.Ytgncpbkedhchfaa
namespace Go.Proofs.Ytgncpbkedhchfaa
open Go.AM Go.IntWalk
set_option maxRecDepth 100000
set_option maxHeartbeats 4000000
set_option linter.unusedSimpArgs false
variable {H : AH} {R : AV → AH → Prop}
def combs {α : Type} : List α → Nat → List (List α)
  | _, 0 => [[]]
  | [], _ + 1 => []
  | x :: l, r + 1 => (combs l r).map (x :: ·) ++ combs l (r + 1)
theorem combs_mem {α : Type} : ∀ {l : List α} {r : Nat} {s : List α}, s ∈ combs l r → s.length = r ∧ ∀ x ∈ s, x ∈ l
  | _, 0, s, h => by simp only [combs, List.mem_singleton] at h; subst h; simp
  | [], r + 1, s, h => by simp [combs] at h
  | x :: l, r + 1, s, h => by
    simp only [combs, List.mem_append, List.mem_map] at h
    rcases h with ⟨t, ht, rfl⟩ | h
    · obtain ⟨h1, h2⟩ := combs_mem ht
      exact ⟨by simp [h1], fun y hy => by
        rcases List.mem_cons.1 hy with rfl | hy
        · simp
        · simp [h2 y hy]⟩
    · obtain ⟨h1, h2⟩ := combs_mem h
      exact ⟨h1, fun y hy => by simp [h2 y hy]⟩
def bitsOf (c : List Int) : Nat := c.foldl (fun s v => s ||| 2 ^ v.toNat) 0
theorem bitsOf_snoc {c : List Int} {v : Int} : bitsOf (c ++ [v]) = bitsOf c ||| 2 ^ v.toNat := by simp [bitsOf]
theorem snoc_ind {α : Type} {P : List α → Prop} (h0 : P []) (h1 : ∀ l a, P l → P (l ++ [a])) (l : List α) : P l := by
  have : ∀ l : List α, P l.reverse := fun l => by
    induction l with
    | nil => exact h0
    | cons a l ih => rw [List.reverse_cons]; exact h1 _ _ ih
  have := this l.reverse
  rwa [List.reverse_reverse] at this
theorem bitsOf_lt {c : List Int} : (∀ v ∈ c, 0 ≤ v ∧ v < 12) → bitsOf c < 4096 := by
  induction c using snoc_ind with
  | h0 => intro _; decide
  | h1 l a ih =>
    intro h
    rw [bitsOf_snoc]
    have ha := h a (by simp)
    have h2 : 2 ^ a.toNat < 2 ^ 12 := Nat.pow_lt_pow_right (by omega) (by omega)
    exact Nat.or_lt_two_pow (n := 12) (ih fun v hv => h v (by simp [hv])) h2
theorem bitsOf_test {c : List Int} {x : Nat} : (∀ v ∈ c, 0 ≤ v) → (bitsOf c).testBit x = decide ((x : Int) ∈ c) := by
  induction c using snoc_ind with
  | h0 => intro _; simp [bitsOf]
  | h1 l a ih =>
    intro h
    have ha := h a (by simp)
    rw [bitsOf_snoc, Nat.testBit_or, ih fun v hv => h v (by simp [hv]), Nat.testBit_two_pow]
    have : (a.toNat = x) ↔ ((x : Int) = a) := by omega
    simp [this]
theorem lookE_bits {h : House} {c : List Int} (hc : ∀ v ∈ c, 0 ≤ v) : lookE h (bitsOf c) = butE h c := by
  unfold lookE butE
  congr 1
  funext x
  exact bitsOf_test hc
theorem shl_one (v : Int) (h : 0 ≤ v ∧ v < 62) : binA .shl (I 1) (I v) = some (I (2 ^ v.toNat : Nat)) := by
  have h1 : ¬ v < 0 := by omega
  have h2 : min (v.toNat) IntKind.i64.bits = v.toNat := by simp only [IntKind.bits]; omega
  show (if v < 0 then none else some (I (IntKind.i64.wrap (1 * 2 ^ (min v.toNat IntKind.i64.bits))))) = _
  rw [if_neg h1, h2]
  have h3 : (1 : Int) * 2 ^ v.toNat = ((2 ^ v.toNat : Nat) : Int) := by simp
  have h4 : 2 ^ v.toNat < 2 ^ 62 := Nat.pow_lt_pow_right (by omega) (by omega)
  rw [h3]
  generalize 2 ^ v.toNat = y at h4 ⊢
  rw [i64_in _ (by omega)]
theorem or_nat (a b : Nat) (ha : a < 4611686018427387904) (hb : b < 4611686018427387904) : binA .or (I a) (I b) = some (I (a ||| b : Nat)) := by
  show (if IntKind.i64 = IntKind.i64 then some (I (IntKind.i64.wrap (BitVec.ofInt IntKind.i64.bits (a : Int) ||| BitVec.ofInt IntKind.i64.bits (b : Int)).toNat)) else none) = _
  rw [if_pos rfl]
  have hlt : a ||| b < 2 ^ 62 := Nat.or_lt_two_pow (n := 62) ha hb
  have h1 : (BitVec.ofInt IntKind.i64.bits (a : Int) ||| BitVec.ofInt IntKind.i64.bits (b : Int)).toNat = a ||| b := by
    show (BitVec.ofInt 64 (a : Int) ||| BitVec.ofInt 64 (b : Int)).toNat = a ||| b
    rw [show BitVec.ofInt 64 (a : Int) = BitVec.ofNat 64 a from BitVec.ofInt_natCast 64 a, show BitVec.ofInt 64 (b : Int) = BitVec.ofNat 64 b from BitVec.ofInt_natCast 64 b, BitVec.toNat_or, BitVec.toNat_ofNat, BitVec.toNat_ofNat, Nat.mod_eq_of_lt (by omega), Nat.mod_eq_of_lt (by omega)]
  rw [h1, i64_in _ (by omega)]
theorem do_run (bc set : Nat) (v1 v2 : AV) (h : House) (hb : H.get bc = some (.cells false [v1, v2])) (hh : IsHouse (Old H) H v1 v2 h) (hfine : Fine h) (hset : set < 4096)
    (k : ∀ H', Grew H H' → R (.bool (decide (0 < (truthsE (lookE h set)).length))) H') : CallQ prog (.func 80 [] [.ptr bc 0]) [I set] H R := by
  refine CallQ_enter (fn:=c80) rfl (Nat.le_of_ble_eq_true rfl) ?_;simp(maxSteps:=9999999)(disch:=first|omega|(simp only[AN];omega))only[c80,envFrom,hb,↓KP,EK,↓reduceIte,reduceCtorEq,Nat.reduceEqDiff,Nat.reduceAdd,Nat.reduceLeDiff,Nat.reduceMul]
  refine C_call (look_run v1 v2 h set hh fun H1 p m hg hm hheld => ?_)
  simp(maxSteps:=9999999)(disch:=first|omega|(simp only[AN];omega))only[↓KP,EK,↓reduceIte,reduceCtorEq,Nat.reduceEqDiff,Nat.reduceAdd,Nat.reduceLeDiff,Nat.reduceMul]
  refine C_call (some_run hfine hset hheld fun H2 hg2 _ => ?_)
  simp(maxSteps:=9999999)(disch:=first|omega|(simp only[AN];omega))only[↓KP,EK,↓reduceIte,reduceCtorEq,Nat.reduceEqDiff,Nat.reduceAdd,Nat.reduceLeDiff,Nat.reduceMul]
  exact k _ (GrewBut.grew hg hg2 hm)
structure Boxes (Nf bo bm bd bl bn bc : Nat) (vl v1 v2 : AV) (many : Nat) (B : AH) : Prop where
  m : B.get bm = some (.cells false [I many])
  d : B.get bd = some (.cells false [.func 80 [] [.ptr bc 0]])
  l : B.get bl = some (.cells false [vl])
  n : B.get bn = some (.cells false [.func 104 [] [.ptr bo 0, .ptr bm 0, .ptr bd 0, .ptr bl 0, .ptr bn 0]])
  c : B.get bc = some (.cells false [v1, v2])
  lt : bo < Nf ∧ bm < Nf ∧ bd < Nf ∧ bl < Nf ∧ bn < Nf ∧ bc < Nf
  ne : bo ≠ bm ∧ bo ≠ bd ∧ bo ≠ bl ∧ bo ≠ bn ∧ bo ≠ bc
structure InHand (Nf bo : Nat) (c : List Int) (B H : AH) : Prop where
  next : Nf ≤ H.next
  same : ∀ b, b < Nf → b ≠ bo → H.get b = B.get b
  own : ∃ vo, H.get bo = some (.cells false [vo]) ∧ Mine 1 EInt (fun _ => False) Nf H vo c
def doE (h : House) (c : List Int) : Bool := decide (0 < (truthsE (butE h c)).length)
theorem nxt_run {Nf bo bm bd bl bn bc : Nat} {vl v1 v2 : AV} {many : Nat} {B : AH} {h : House} {l : List Int} (hbx : Boxes Nf bo bm bd bl bn bc vl v1 v2 many B) (hfine : Fine h) (hh : IsHouse (fun b => b < Nf ∧ b ≠ bo) B v1 v2 h) (hl : IsInts (fun b => b < Nf ∧ b ≠ bo) B vl l)
    (hlv : ∀ v ∈ l, 0 ≤ v ∧ v < 12) (hll : l.length ≤ 12) (hmany : many ≤ 12) : ∀ (r at_ : Nat) (c : List Int) (H : AH) (R : AV → AH → Prop), c.length + r = many → at_ ≤ l.length → (∀ v ∈ c, 0 ≤ v ∧ v < 12) → InHand Nf bo c B H →
      (∀ H' s, (combs (l.drop at_) r).find? (fun s => doE h (c ++ s)) = some s → H.next ≤ H'.next → InHand Nf bo (c ++ s) B H' → R (.bool true) H') →
      (∀ H', (combs (l.drop at_) r).find? (fun s => doE h (c ++ s)) = none → H.next ≤ H'.next → InHand Nf bo c B H' → R (.bool false) H') →
      CallQ prog (.func 104 [] [.ptr bo 0, .ptr bm 0, .ptr bd 0, .ptr bl 0, .ptr bn 0]) [I at_, I (bitsOf c)] H R := by
  intro r
  have lt := hbx.lt
  have ne := hbx.ne
  induction r with
  | zero =>
    intro at_ c H R hcr hat hcv hi k1 k0
    obtain ⟨vo, e0, hm⟩ := hi.own
    have em : H.get bm = some (.cells false [I many]) := by rw [hi.same _ lt.2.1 (Ne.symm ne.1)]; exact hbx.m
    have ed : H.get bd = some (.cells false [.func 80 [] [.ptr bc 0]]) := by rw [hi.same _ lt.2.2.1 (Ne.symm ne.2.1)]; exact hbx.d
    have ec : H.get bc = some (.cells false [v1, v2]) := by rw [hi.same _ lt.2.2.2.2.2 (Ne.symm ne.2.2.2.2)]; exact hbx.c
    have hlen : (c.length : Int) = many := by omega
    have hN := hi.next
    refine CallQ_enter (fn:=c104) rfl (Nat.le_of_ble_eq_true rfl) ?_;simp(maxSteps:=9999999)(disch:=first|omega|(simp only[AN];omega))only[c104,envFrom,e0,em,ed,hm.len,hlen,↓KP,EK,↓reduceIte,reduceCtorEq,Nat.reduceEqDiff,Nat.reduceAdd,Nat.reduceLeDiff,Nat.reduceMul]
    refine C_call (do_run bc (bitsOf c) v1 v2 h ec (hh.move fun b hb => ⟨by show b < H.next; omega, hi.same b hb.1 hb.2⟩) hfine (bitsOf_lt hcv) fun H1 hg => ?_)
    have hi1 : InHand Nf bo c B H1 := ⟨by have := hg.next; omega, fun b h1 h2 => by rw [hg.get b (by omega), hi.same b h1 h2], vo, by rw [hg.get _ (by omega)]; exact e0, hm.grow EInt.stays hg⟩
    rw [lookE_bits fun v hv => (hcv v hv).1]
    simp(maxSteps:=9999999)(disch:=first|omega|(simp only[AN];omega))only[↓KP,EK,↓reduceIte,reduceCtorEq,Nat.reduceEqDiff,Nat.reduceAdd,Nat.reduceLeDiff,Nat.reduceMul]
    have hf : (combs (l.drop at_) 0).find? (fun s => doE h (c ++ s)) = if doE h c = true then some [] else none := by
      simp only [combs, List.find?_cons, List.find?_nil, List.append_nil]
      cases doE h c <;> rfl
    cases hd : doE h c with
    | true =>
      rw [if_pos hd] at hf
      have := k1 H1 [] hf hg.next (by simpa using hi1)
      unfold doE at hd
      rw [hd]; exact this
    | false =>
      rw [if_neg (by simp [hd])] at hf
      have := k0 H1 hf hg.next hi1
      unfold doE at hd
      rw [hd]; exact this
  | succ r ih =>
    intro at_ c H R hcr hat hcv hi k1 k0
    obtain ⟨vo, e0, hm⟩ := hi.own
    have em : H.get bm = some (.cells false [I many]) := by rw [hi.same _ lt.2.1 (Ne.symm ne.1)]; exact hbx.m
    have hlen : ¬ (c.length : Int) = many := by omega
    refine CallQ_enter (fn:=c104) rfl (Nat.le_of_ble_eq_true rfl) ?_;simp(maxSteps:=9999999)(disch:=first|omega|(simp only[AN];omega))only[c104,envFrom,e0,em,hm.len,hlen,↓KP,EK,↓reduceIte,reduceCtorEq,Nat.reduceEqDiff,Nat.reduceAdd,Nat.reduceLeDiff,Nat.reduceMul]
    refine K_loop (fun mz ez H1 => ∃ (i : Nat) (tail : Env), ez = (0, I at_) :: (1, I (bitsOf c)) :: (2, .ptr bo 0) :: (3, .ptr bm 0) :: (4, .ptr bd 0) :: (5, .ptr bl 0) :: (6, .ptr bn 0) :: (9, .bool false) :: (14, .bool false) :: (10, I i) :: tail ∧ (H.next ≤ H1.next) ∧ (InHand Nf bo c B H1) ∧ (i ≤ l.length) ∧ ((combs (l.drop at_) (r + 1)).find? (fun s => doE h (c ++ s)) = (combs (l.drop i) (r + 1)).find? (fun s => doE h (c ++ s))) ∧ mz = l.length - i) _ ⟨at_, _, rfl, ?_, (by exact hi), ?_, ?_, rfl⟩ ?_
    iterate 3 (focus (first|(with_reducible rfl)|omega|(with_reducible(repeat first|exact Grew.refl _|assumption|apply Grew.alloc|refine Grew.set ?_ _ (by first|omega|(simp only[AN];omega)));done)|(simp(maxSteps:=9999999)(disch:=first|omega|(simp only[AN];omega))only[↓KP,EK,↓reduceIte,reduceCtorEq,Nat.reduceEqDiff,Nat.reduceAdd,Nat.reduceLeDiff,Nat.reduceMul]<;>first|omega|rfl)|(simp;done)|rfl))
    rintro mz ez H1 ⟨i, tail, rfl, hn1, hi1, hil, hfi, hmz⟩; subst mz
    obtain ⟨vo, e0, hm⟩ := hi1.own
    have hN := hi1.next
    have el : H1.get bl = some (.cells false [vl]) := by rw [hi1.same _ lt.2.2.2.1 (Ne.symm ne.2.2.1)]; exact hbx.l
    have en : H1.get bn = some (.cells false [.func 104 [] [.ptr bo 0, .ptr bm 0, .ptr bd 0, .ptr bl 0, .ptr bn 0]]) := by rw [hi1.same _ lt.2.2.2.2.1 (Ne.symm ne.2.2.2.1)]; exact hbx.n
    have hl1 : IsInts (Old H1) H1 vl l := hl.move EInt.stays fun b hb => ⟨by show b < H1.next; omega, hi1.same b hb.1 hb.2⟩
    simp(maxSteps:=9999999)(disch:=first|omega|(simp only[AN];omega))only[el,hl1.len,↓KP,EK,↓reduceIte,reduceCtorEq,Nat.reduceEqDiff,Nat.reduceAdd,Nat.reduceLeDiff,Nat.reduceMul]
    refine C_decide (fun hc => ?_) (fun hc => ?_)
    · have hi' : i < l.length := by omega
      obtain ⟨qb, qi, qro, qvs, qx, ⟨qlt, qne⟩, qy, qz⟩ := IsInts.at_ hl hi'
      have q : (∀ S, opIdxSl 1 vl (.int .i64 (i : Int)) S = some (.ptr qb qi, S)) ∧ H1.get qb = some (.cells qro qvs) ∧ qvs[qi]? = some (I l[i]) := ⟨qx, (hi1.same _ qlt qne).trans qy, qz⟩
      have hv := hlv _ (List.getElem_mem hi')
      obtain ⟨vb, H2, b1, b2, b3, b4⟩ := hm.push (bytes := 8) (cs := [I l[i]]) (a := l[i]) (F := fun _ => False) EInt.stays hN rfl (fun _ h => h.elim) rfl rfl (by omega)
      have e1 : IntKind.i64.wrap ((i : Int) + 1) = ((i + 1 : Nat) : Int) := i64_in _ (by omega)
      have s1 := shl_one l[i] (by omega)
      have hbl := bitsOf_lt hcv
      have hpl : 2 ^ l[i].toNat < 4096 := by
        have : 2 ^ l[i].toNat < 2 ^ 12 := Nat.pow_lt_pow_right (by omega) (by omega)
        omega
      have s2 := or_nat (bitsOf c) (2 ^ l[i].toNat) (by omega) (by omega)
      rw [← bitsOf_snoc] at s2
      simp(maxSteps:=9999999)(disch:=first|omega|(simp only[AN];omega))only[↓KP,EK,↓reduceIte,reduceCtorEq,Nat.reduceEqDiff,Nat.reduceAdd,Nat.reduceLeDiff,Nat.reduceMul]
      refine K_draw ?_;simp(maxSteps:=9999999)(disch:=first|omega|(simp only[AN];omega))only[e0,el,q,b1,b2.cells?,b2.isCell,b4,↓KP,EK,↓reduceIte,reduceCtorEq,Nat.reduceEqDiff,Nat.reduceAdd,Nat.reduceLeDiff,Nat.reduceMul]
      have hi3 : InHand Nf bo (c ++ [l[i]]) B (H2.set bo (.cells false [vb])) := ⟨by show Nf ≤ H2.next; omega, fun b h1 h2 => by rw [get_set_other h2, b4 b h1, hi1.same b h1 h2], vb, get_set_same _ _ _, b2.move EInt.stays (fun k hk hk' => get_set_other (by rcases hk' with h | h; exact h.elim; omega)) (Nat.le_refl _)⟩
      have hsplit : (combs (l.drop i) (r + 1)).find? (fun s => doE h (c ++ s)) = (((combs (l.drop (i + 1)) r).find? (fun s => doE h (c ++ [l[i]] ++ s))).map (l[i] :: ·)).or ((combs (l.drop (i + 1)) (r + 1)).find? (fun s => doE h (c ++ s))) := by
        rw [List.drop_eq_getElem_cons hi', combs, List.find?_append, List.find?_map]
        simp only [Function.comp_def, List.append_assoc, List.singleton_append]
      refine K_draw ?_;simp(maxSteps:=9999999)(disch:=first|omega|(simp only[AN];omega))only[en,b4,el,q,e1,s1,s2,↓KP,EK,↓reduceIte,reduceCtorEq,Nat.reduceEqDiff,Nat.reduceAdd,Nat.reduceLeDiff,Nat.reduceMul]
      refine C_calld (ih (i + 1) (c ++ [l[i]]) _ _ (by simp; omega) (by omega) (fun v hv' => ?_) hi3 (fun H4 s hs hn4 hi4 => ?_) (fun H4 hs hn4 hi4 => ?_))
      · rcases List.mem_append.1 hv' with h | h
        · exact hcv v h
        · simp only [List.mem_singleton] at h; subst h; exact hv
      · have hn4' : H2.next ≤ H4.next := hn4
        simp(maxSteps:=9999999)(disch:=first|omega|(simp only[AN];omega))only[↓KP,EK,↓reduceIte,reduceCtorEq,Nat.reduceEqDiff,Nat.reduceAdd,Nat.reduceLeDiff,Nat.reduceMul]
        refine k1 _ (l[i] :: s) ?_ (by omega) ?_
        · rw [hfi, hsplit, hs]; rfl
        · simpa using hi4
      · have hn4' : H2.next ≤ H4.next := hn4
        obtain ⟨v4, f0, f1⟩ := hi4.own
        obtain ⟨v5, g1, g2⟩ := f1.front (n := (c.length : Int)) (k := c.length) rfl (by simp)
        have e5 : IntKind.i64.wrap (((c ++ [l[i]]).length : Int) - 1) = (c.length : Int) := by rw [i64_in _ (by simp; omega)]; simp
        rw [List.take_left] at g2
        simp(maxSteps:=9999999)(disch:=first|omega|(simp only[AN];omega))only[f0,f1.len,e5,g1,g2.cells?,g2.isCell,e1,↓KP,EK,↓reduceIte,reduceCtorEq,Nat.reduceEqDiff,Nat.reduceAdd,Nat.reduceLeDiff,Nat.reduceMul]
        have hi5 : InHand Nf bo c B (H4.set bo (.cells false [v5])) := ⟨hi4.next, fun b h1 h2 => by rw [get_set_other h2, hi4.same b h1 h2], v5, get_set_same _ _ _, g2.move EInt.stays (fun k hk hk' => get_set_other (by rcases hk' with h | h; exact h.elim; omega)) (Nat.le_refl _)⟩
        refine ⟨_, ?_, i + 1, _, rfl, ?_, (by exact hi5), ?_, (by rw [hfi, hsplit, hs]; rfl), rfl⟩ <;> (first|omega|(with_reducible assumption)|(with_reducible(repeat first|exact Grew.refl _|assumption|apply Grew.alloc|refine Grew.set ?_ _ (by first|omega|(simp only[AN];omega)));done)|(simp(maxSteps:=9999999)(disch:=first|omega|(simp only[AN];omega))only[↓KP,EK,↓reduceIte,reduceCtorEq,Nat.reduceEqDiff,Nat.reduceAdd,Nat.reduceLeDiff,Nat.reduceMul]<;>first|omega|rfl))
    · have hie : i = l.length := by omega
      subst hie
      have hnone : (combs (l.drop l.length) (r + 1)).find? (fun s => doE h (c ++ s)) = none := by
        rw [List.drop_length]; rfl
      simp(maxSteps:=9999999)(disch:=first|omega|(simp only[AN];omega))only[↓KP,EK,↓reduceIte,reduceCtorEq,Nat.reduceEqDiff,Nat.reduceAdd,Nat.reduceLeDiff,Nat.reduceMul]
      exact k0 _ (hfi.trans hnone) hn1 hi1
theorem first_run (bc many : Nat) (vl v1 v2 : AV) (h : House) (l : List Int) (hb : H.get bc = some (.cells false [v1, v2])) (hbl : bc < H.next) (hh : IsHouse (Old H) H v1 v2 h) (hl : IsInts (Old H) H vl l) (hfine : Fine h)
    (hlv : ∀ v ∈ l, 0 ≤ v ∧ v < 12) (hll : l.length ≤ 12) (hmany : many ≤ 12)
    (k1 : ∀ H' v s, many ≠ 0 → (combs l many).find? (doE h) = some s → Grew H H' → v ≠ .nilslice → IsInts (Old H') H' v s → R v H') (k0 : (many = 0 ∨ (combs l many).find? (doE h) = none) → ∀ H', Grew H H' → R .nilslice H') :
    CallQ prog (.func 79 [] []) [vl, I many, .func 80 [] [.ptr bc 0]] H R := by
  have hg0 : ∀ o1 o2 o3 o4 o5 o6, Grew H ((((((H.alloc o1).alloc o2).alloc o3).alloc o4).alloc o5).set (H.next + 4) o6) := fun o1 o2 o3 o4 o5 o6 => GW
  by_cases hm : (many : Int) = 0
  · refine CallQ_enter (fn:=c79) rfl (Nat.le_of_ble_eq_true rfl) ?_;simp(maxSteps:=9999999)(disch:=first|omega|(simp only[AN];omega))only[c79,envFrom,hm,hl.cells?,hl.isCell,opBox,↓KP,EK,↓reduceIte,reduceCtorEq,Nat.reduceEqDiff,Nat.reduceAdd,Nat.reduceLeDiff,Nat.reduceMul]
    exact k0 (.inl (by omega)) _ (hg0 _ _ _ _ _ _)
  · refine CallQ_enter (fn:=c79) rfl (Nat.le_of_ble_eq_true rfl) ?_;simp(maxSteps:=9999999)(disch:=first|omega|(simp only[AN];omega))only[c79,envFrom,hm,hl.cells?,hl.isCell,opBox,↓KP,EK,↓reduceIte,reduceCtorEq,Nat.reduceEqDiff,Nat.reduceAdd,Nat.reduceLeDiff,Nat.reduceMul]
    have hg := hg0 (.cells false [vl]) (.cells false [I many]) (.cells false [.func 80 [] [.ptr bc 0]]) (.cells false [.nilslice]) (.cells false [.nilfunc]) (.cells false [.func 104 [] [.ptr (H.next + 1 + 1 + 1) 0, .ptr (H.next + 1) 0, .ptr (H.next + 1 + 1) 0, .ptr H.next 0, .ptr (H.next + 1 + 1 + 1 + 1) 0]])
    generalize hB : (((((H.alloc (.cells false [vl])).alloc (.cells false [I many])).alloc (.cells false [.func 80 [] [.ptr bc 0]])).alloc (.cells false [.nilslice])).alloc (.cells false [.nilfunc])).set (H.next + 4) (.cells false [.func 104 [] [.ptr (H.next + 1 + 1 + 1) 0, .ptr (H.next + 1) 0, .ptr (H.next + 1 + 1) 0, .ptr H.next 0, .ptr (H.next + 1 + 1 + 1 + 1) 0]]) = B at hg
    have hBn : B.next = H.next + 5 := by rw [← hB]; rfl
    have hbx : Boxes (H.next + 5) (H.next + 1 + 1 + 1) (H.next + 1) (H.next + 1 + 1) H.next (H.next + 1 + 1 + 1 + 1) bc vl v1 v2 many B :=
      ⟨by rw [← hB]; simp(maxSteps:=9999999)(disch:=first|omega|(simp only[AN];omega))only[↓KP,EK,↓reduceIte,reduceCtorEq,Nat.reduceEqDiff,Nat.reduceAdd,Nat.reduceLeDiff,Nat.reduceMul], by rw [← hB]; simp(maxSteps:=9999999)(disch:=first|omega|(simp only[AN];omega))only[↓KP,EK,↓reduceIte,reduceCtorEq,Nat.reduceEqDiff,Nat.reduceAdd,Nat.reduceLeDiff,Nat.reduceMul], by rw [← hB]; simp(maxSteps:=9999999)(disch:=first|omega|(simp only[AN];omega))only[↓KP,EK,↓reduceIte,reduceCtorEq,Nat.reduceEqDiff,Nat.reduceAdd,Nat.reduceLeDiff,Nat.reduceMul], by rw [← hB]; simp(maxSteps:=9999999)(disch:=first|omega|(simp only[AN];omega))only[↓KP,EK,↓reduceIte,reduceCtorEq,Nat.reduceEqDiff,Nat.reduceAdd,Nat.reduceLeDiff,Nat.reduceMul], by rw [hg.get _ hbl]; exact hb, by omega, by omega⟩
    have hi0 : InHand (H.next + 5) (H.next + 1 + 1 + 1) [] B B := ⟨by omega, fun _ _ _ => rfl, .nilslice, by rw [← hB]; simp(maxSteps:=9999999)(disch:=first|omega|(simp only[AN];omega))only[↓KP,EK,↓reduceIte,reduceCtorEq,Nat.reduceEqDiff,Nat.reduceAdd,Nat.reduceLeDiff,Nat.reduceMul], Mine.nil⟩
    have hmove : ∀ b, b < H.next → (b < H.next + 5 ∧ b ≠ H.next + 1 + 1 + 1) ∧ B.get b = H.get b := fun b hb => ⟨by omega, hg.get b hb⟩
    refine C_call (nxt_run hbx hfine (hh.move hmove) (hl.move EInt.stays hmove) hlv hll hmany many 0 [] B _ (by simp) (by omega) (by simp) hi0 (fun H1 s hs hn1 hi1 => ?_) (fun H1 hs hn1 hi1 => ?_))
    · obtain ⟨vo, e0, hm1⟩ := hi1.own
      have hsl := (combs_mem (List.mem_of_find?_eq_some hs)).1
      simp(maxSteps:=9999999)(disch:=first|omega|(simp only[AN];omega))only[e0,↓KP,EK,↓reduceIte,reduceCtorEq,Nat.reduceEqDiff,Nat.reduceAdd,Nat.reduceLeDiff,Nat.reduceMul]
      refine k1 H1 vo s (by omega) (by simpa using hs) ⟨by omega, fun b hb => by rw [hi1.same b (by omega) (by omega), hg.get b hb]⟩ (fun e => ?_) (by simpa using hm1.sl EInt.stays)
      subst e
      have := hm1.len H1
      simp only [List.nil_append] at this
      have h0 : opLen false .nilslice H1 = some (.int .i64 0, H1) := rfl
      rw [h0] at this
      simp only [Option.some.injEq, Prod.mk.injEq, AV.int.injEq, true_and, and_true] at this
      omega
    · simp(maxSteps:=9999999)(disch:=first|omega|(simp only[AN];omega))only[↓KP,EK,↓reduceIte,reduceCtorEq,Nat.reduceEqDiff,Nat.reduceAdd,Nat.reduceLeDiff,Nat.reduceMul]
      exact k0 (.inr (by simpa using hs)) _ ⟨by omega, fun b hb => by rw [hi1.same b (by omega) (by omega), hg.get b hb]⟩
end Go.Proofs.Ytgncpbkedhchfaa
namespace Go.Proofs.Ytgncpbkedhchfaa
open Go.AM Go.IntWalk
set_option maxRecDepth 100000
set_option maxHeartbeats 4000000
set_option linter.unusedSimpArgs false
variable {H : AH} {R : AV → AH → Prop}
theorem repeatL_length (n : Nat) : (repeatL [I 0] n).length = n := by
  induction n with
  | zero => rfl
  | succ n ih => simp [repeatL, ih]
theorem write_all : ∀ (vs xs : List AV), vs.length = xs.length → writeN vs 0 xs = some xs
  | [], [], _ => rfl
  | v :: vs, x :: xs, h => by
    simp only [writeN, write_all vs xs (by simpa using h), Option.map_some]
  | [], _ :: _, h => by simp at h
  | _ :: _, [], h => by simp at h
theorem rows_ints : ∀ {cells : List AV} {l : List Int} {F : Nat → Prop} {H : AH}, Go.AM.Rows 1 (EInt F H) cells l → cells = l.map I
  | _, _, _, _, .nil => rfl
  | _, _, _, _, .cons hz h t => by rw [h, rows_ints t]; rfl
theorem ints_rows {F : Nat → Prop} {H : AH} : ∀ (l : List Int), Go.AM.Rows 1 (EInt F H) (l.map I) l
  | [] => .nil
  | x :: l => .cons (cs := [I x]) rfl rfl (ints_rows l)
theorem make_copy {S : AH} {v : AV} {l : List Int} (hv : IsInts (Old S) S v l) (hl : l.length ≤ 1000) :
    opMakeSlice 1 8 [I 0] (I l.length) (I l.length) S = some (.slice S.next 0 l.length 1, S.alloc (.cells false (repeatL [I 0] l.length))) ∧
    copyA (S.alloc (.cells false (repeatL [I 0] l.length))) 1 (.slice S.next 0 l.length 1) v = some (I l.length, (S.alloc (.cells false (repeatL [I 0] l.length))).set S.next (.cells false (l.map I))) ∧
    IsInts (Old ((S.alloc (.cells false (repeatL [I 0] l.length))).set S.next (.cells false (l.map I)))) ((S.alloc (.cells false (repeatL [I 0] l.length))).set S.next (.cells false (l.map I))) (.slice S.next 0 l.length 1) l := by
  refine ⟨?_, ?_, ?_⟩
  · have h1 : l.length ≤ roomA ∧ 8 * l.length ≤ roomA := by unfold roomA; omega
    simp [opMakeSlice, natOf, h1]
  · obtain ⟨cells, h1, h2⟩ := (hv.grow EInt.stays ((Grew.refl S).alloc (.cells false (repeatL [I 0] l.length)))).src
    have h3 := rows_ints h2
    subst h3
    have hc : (l.map I).all AV.isCell = true := by simp [I, AV.isCell]
    have h4 : AM.lenA (.slice S.next 0 l.length 1) = some l.length := rfl
    simp only [copyA, hv.lenA, h4, Nat.min_self, copyN, h1, AH.write, get_alloc_new, write_all _ _ (show (repeatL [I 0] l.length).length = (l.map I).length by rw [repeatL_length, List.length_map]), hc, if_true]
  · refine .inr ⟨S.next, 0, l.map I, rfl, (by show S.next < S.next + 1; omega), ?_, ints_rows l⟩
    unfold AH.read
    rw [get_set_same]
    simp only [readN, Nat.zero_add, List.length_map, Nat.mul_one, Nat.le_refl, if_true, List.drop_zero]
    rw [List.take_of_length_le (by simp)]
theorem countsE_in {h : House} (hf : Fine h) : ∀ v ∈ countsE h, 0 ≤ v ∧ v < 12 := by
  intro v hv
  simp only [countsE, countsTo, cntRow, List.mem_flatMap, List.mem_range, List.mem_filterMap] at hv
  obtain ⟨d, hd, w, hw, hh⟩ := hv
  split at hh
  · simp only [Option.some.injEq] at hh
    have h3 := hf.ws
    have h4 := hf.days
    have h5 : (d : Int) * h.ws.length ≤ 3 * h.ws.length := Int.mul_le_mul_of_nonneg_right (by omega) (by omega)
    have h6 : 0 ≤ (d : Int) * h.ws.length := Int.mul_nonneg (by omega) (by omega)
    omega
  · cases hh
def pWrongList (h : House) : List Int := (((List.range ((countsE h).length + 1)).flatMap (combs (countsE h))).find? (doE h)).getD (countsE h)
theorem Wrong_run' (v1 v2 : AV) (h : House) (hh : IsHouse (Old H) H v1 v2 h)
    (k : ∀ H' v, Grew H H' → IsInts (Old H') H' v (if errE h ≠ 0 then [] else pWrongList h) → R (.tuple [v, I (errE h)]) H') : CallQ prog (.func 29 [] []) [.agg [v1, v2]] H R := by
  refine CallQ_enter (fn:=c29) rfl (Nat.le_of_ble_eq_true rfl) ?_;simp(maxSteps:=9999999)(disch:=first|omega|(simp only[AN];omega))only[c29,envFrom,↓KP,EK,↓reduceIte,reduceCtorEq,Nat.reduceEqDiff,Nat.reduceAdd,Nat.reduceLeDiff,Nat.reduceMul]
  refine C_call (Check_run v1 v2 h (hh.grow GW) fun H1 hg1 => ?_)
  have hg1' : Grew H H1 := ((Grew.refl H).alloc _).trans hg1
  have hg1n := hg1.next; simp only [AH.next_alloc] at hg1n
  have hbox1 : H1.get H.next = some (.cells false [v1, v2]) := by simp(maxSteps:=9999999)(disch:=first|omega|(simp only[AN];omega))only[hg1.get,↓KP,EK,↓reduceIte,reduceCtorEq,Nat.reduceEqDiff,Nat.reduceAdd,Nat.reduceLeDiff,Nat.reduceMul]
  by_cases he : (checkE h).2.2 = 0
  · have he' : errE h = 0 := he
    have hfine := fine_of he'
    rw [if_neg (by omega), he'] at k
    have hd4 := hfine.days
    have hw3 := hfine.ws
    simp(maxSteps:=9999999)(disch:=first|omega|(simp only[AN];omega))only[he,hbox1,hh.2.len,↓KP,EK,↓reduceIte,reduceCtorEq,Nat.reduceEqDiff,Nat.reduceAdd,Nat.reduceLeDiff,Nat.reduceMul]
    refine K_loop (fun mz ez H2 => ∃ (d : Nat) (v4 : AV) (tail : Env), ez = (0, .agg [v1, v2]) :: (1, .ptr H.next 0) :: (2, .nilslice) :: (3, I 0) :: (19, .bool false) :: (4, v4) :: (22, v2) :: (23, I h.days.length) :: (24, I d) :: tail ∧ (Grew H1 H2) ∧ (Mine 1 EInt (fun _ => False) H1.next H2 v4 (countsTo h d)) ∧ (d ≤ h.days.length) ∧ mz = h.days.length - d) _ ⟨0, .nilslice, _, rfl, ?_, (by exact Mine.nil), ?_, rfl⟩ ?_
    iterate 2 (focus (first|(with_reducible rfl)|omega|(with_reducible(repeat first|exact Grew.refl _|assumption|apply Grew.alloc|refine Grew.set ?_ _ (by first|omega|(simp only[AN];omega)));done)|(simp(maxSteps:=9999999)(disch:=first|omega|(simp only[AN];omega))only[↓KP,EK,↓reduceIte,reduceCtorEq,Nat.reduceEqDiff,Nat.reduceAdd,Nat.reduceLeDiff,Nat.reduceMul]<;>first|omega|rfl)|(simp;done)|rfl))
    rintro mz ez H2 ⟨d, v4, tail, rfl, hG, hv4, hd, hmz⟩; subst mz; have hGn := hG.next
    have hg2' := hg1'.trans hG
    simp(maxSteps:=9999999)(disch:=first|omega|(simp only[AN];omega))only[↓KP,EK,↓reduceIte,reduceCtorEq,Nat.reduceEqDiff,Nat.reduceAdd,Nat.reduceLeDiff,Nat.reduceMul]
    refine C_decide (fun hc => ?_) (fun hc => ?_)
    · have hd' : d < h.days.length := by omega
      have hlen := hfine.len _ (List.getElem_mem hd')
      have hgd : h.days.getD d [] = h.days[d] := getD_eq hd'
      have hcl := countsTo_length hfine d
      obtain ⟨p_b, p_i, p_ro, p_vs, vo, p_lt, hvo, p⟩ := hh.2.rdSl rfl hd'
      simp(maxSteps:=9999999)(disch:=first|omega|(simp only[AN];omega))only[hG.get,hg1.get,p,hvo.len,↓KP,EK,↓reduceIte,reduceCtorEq,Nat.reduceEqDiff,Nat.reduceAdd,Nat.reduceLeDiff,Nat.reduceMul]
      refine K_loop (fun mz ez H3 => ∃ (w : Nat) (v4 : AV) (tail : Env), ez = (0, .agg [v1, v2]) :: (1, .ptr H.next 0) :: (2, .nilslice) :: (3, I 0) :: (19, .bool false) :: (4, v4) :: (22, v2) :: (23, I h.days.length) :: (24, I d) :: tail ∧ (tail.get 5 = some (I d)) ∧ (tail.get 29 = some vo) ∧ (tail.get 30 = some (I h.days[d].length)) ∧ (tail.get 31 = some (I w)) ∧ (Grew H1 H3) ∧ (Mine 1 EInt (fun _ => False) H1.next H3 v4 (countsTo h d ++ cntRow h d w)) ∧ (w ≤ h.ws.length) ∧ mz = h.ws.length - w) _ ⟨0, v4, _, rfl, ?_, ?_, ?_, ?_, ?_, (by simpa [cntRow] using hv4), ?_, rfl⟩ ?_
      iterate 6 (focus (first|(with_reducible rfl)|omega|(with_reducible(repeat first|exact Grew.refl _|assumption|apply Grew.alloc|refine Grew.set ?_ _ (by first|omega|(simp only[AN];omega)));done)|(simp(maxSteps:=9999999)(disch:=first|omega|(simp only[AN];omega))only[↓KP,EK,↓reduceIte,reduceCtorEq,Nat.reduceEqDiff,Nat.reduceAdd,Nat.reduceLeDiff,Nat.reduceMul]<;>first|omega|rfl)|(simp;done)|rfl))
      rintro mz ez H3 ⟨w, v4, tail, rfl, t5, t29, t30, t31, hG3, hv4, hw, hmz⟩; subst mz; have hG3n := hG3.next
      simp(maxSteps:=9999999)(disch:=first|omega|(simp only[AN];omega))only[t30,t31,hlen,↓KP,EK,↓reduceIte,reduceCtorEq,Nat.reduceEqDiff,Nat.reduceAdd,Nat.reduceLeDiff,Nat.reduceMul]
      refine C_decide (fun hc2 => ?_) (fun hc2 => ?_)
      · have hw' : w < h.ws.length := by omega
        obtain ⟨q_b, q_i, q_ro, q_vs, q_lt, q⟩ := hvo.rdInt (k := w) rfl (by omega)
        have hgi : getI (h.days.getD d []) w = h.days[d][w] := by rw [hgd, getI_eq]
        have hrl := cntRow_length (h := h) (d := d) (m := w)
        have e1 : IntKind.i64.wrap ((w : Int) + 1) = ((w + 1 : Nat) : Int) := i64_in _ (by omega)
        have hmul : (d : Int) * h.ws.length ≤ 4 * 3 := Int.mul_le_mul (by omega) (by omega) (by omega) (by omega)
        have hmul0 : 0 ≤ (d : Int) * h.ws.length := Int.mul_nonneg (by omega) (by omega)
        have e2 : IntKind.i64.wrap ((d : Int) * h.ws.length) = (d : Int) * h.ws.length := i64_in _ (by omega)
        have e3 : IntKind.i64.wrap ((d : Int) * h.ws.length + w) = (d : Int) * h.ws.length + w := i64_in _ (by omega)
        by_cases hn : h.days[d][w] = -1
        · simp(maxSteps:=9999999)(disch:=first|omega|(simp only[AN];omega))only[t5,t29,t31,hG3.get,hg1.get,q,hn,e1,↓KP,EK,↓reduceIte,reduceCtorEq,Nat.reduceEqDiff,Nat.reduceAdd,Nat.reduceLeDiff,Nat.reduceMul]
          refine ⟨_, ?_, w + 1, v4, _, rfl, ?_, ?_, ?_, ?_, ?_, (by rw [cntRow_succ, hgi, hn]; simpa using hv4), ?_, rfl⟩ <;> (first|omega|(with_reducible assumption)|(with_reducible(repeat first|exact Grew.refl _|assumption|apply Grew.alloc|refine Grew.set ?_ _ (by first|omega|(simp only[AN];omega)));done)|(simp(maxSteps:=9999999)(disch:=first|omega|(simp only[AN];omega))only[t5,t29,t30,t31,hlen,↓KP,EK,↓reduceIte,reduceCtorEq,Nat.reduceEqDiff,Nat.reduceAdd,Nat.reduceLeDiff,Nat.reduceMul]<;>first|omega|rfl))
        · obtain ⟨vb, H5, b1, b2, b3, b4⟩ := hv4.push (bytes := 8) (cs := [I ((d : Int) * h.ws.length + w)]) (a := (d : Int) * h.ws.length + w) (F := fun _ => False) EInt.stays (by omega) rfl (fun _ h => h.elim) rfl rfl (by simp only [List.length_append]; omega)
          simp(maxSteps:=9999999)(disch:=first|omega|(simp only[AN];omega))only[t5,t29,t31,hG3.get,hg1.get,q,hn,e1,e2,e3,hh.1.len,b1,↓KP,EK,↓reduceIte,reduceCtorEq,Nat.reduceEqDiff,Nat.reduceAdd,Nat.reduceLeDiff,Nat.reduceMul]
          refine ⟨_, ?_, w + 1, vb, _, rfl, ?_, ?_, ?_, ?_, (by exact ⟨by omega, fun b hb => by simp(maxSteps:=9999999)(disch:=first|omega|(simp only[AN];omega))only[b4,hG3.get,↓KP,EK,↓reduceIte,reduceCtorEq,Nat.reduceEqDiff,Nat.reduceAdd,Nat.reduceLeDiff,Nat.reduceMul]⟩), (by rw [cntRow_succ, hgi, if_pos hn, ← List.append_assoc]; exact b2), ?_, rfl⟩ <;> (first|omega|(with_reducible assumption)|(with_reducible(repeat first|exact Grew.refl _|assumption|apply Grew.alloc|refine Grew.set ?_ _ (by first|omega|(simp only[AN];omega)));done)|(simp(maxSteps:=9999999)(disch:=first|omega|(simp only[AN];omega))only[t5,t29,t30,t31,hlen,↓KP,EK,↓reduceIte,reduceCtorEq,Nat.reduceEqDiff,Nat.reduceAdd,Nat.reduceLeDiff,Nat.reduceMul]<;>first|omega|rfl))
      · have e1 : IntKind.i64.wrap ((d : Int) + 1) = ((d + 1 : Nat) : Int) := i64_in _ (by omega)
        have hwe : w = h.ws.length := by omega
        subst hwe
        simp(maxSteps:=9999999)(disch:=first|omega|(simp only[AN];omega))only[e1,↓KP,EK,↓reduceIte,reduceCtorEq,Nat.reduceEqDiff,Nat.reduceAdd,Nat.reduceLeDiff,Nat.reduceMul]
        refine ⟨_, ?_, d + 1, v4, _, rfl, (by exact hG3), (by rw [countsTo_succ]; exact hv4), ?_, rfl⟩ <;> (first|omega|(with_reducible assumption)|(with_reducible(repeat first|exact Grew.refl _|assumption|apply Grew.alloc|refine Grew.set ?_ _ (by first|omega|(simp only[AN];omega)));done)|(simp(maxSteps:=9999999)(disch:=first|omega|(simp only[AN];omega))only[↓KP,EK,↓reduceIte,reduceCtorEq,Nat.reduceEqDiff,Nat.reduceAdd,Nat.reduceLeDiff,Nat.reduceMul]<;>first|omega|rfl))
    · have hde : d = h.days.length := by omega
      subst hde
      have hcl := countsE_length hfine
      obtain ⟨m1, m2, m3⟩ := make_copy (hv4.sl EInt.stays) (show (countsTo h h.days.length).length ≤ 1000 by have : (countsE h).length = (countsTo h h.days.length).length := rfl; omega)
      rw [show countsTo h h.days.length = countsE h from rfl] at m1 m2 m3
      have hv4l := hv4.len
      rw [show countsTo h h.days.length = countsE h from rfl] at hv4l
      have hin := countsE_in hfine
      have e0 : IntKind.i64.wrap (((countsE h).length : Int) + 1) = (((countsE h).length + 1 : Nat) : Int) := i64_in _ (by omega)
      have hg3 : Grew H ((H2.alloc (.cells false (repeatL [I 0] (countsE h).length))).set H2.next (.cells false ((countsE h).map I))) := GW
      have hbox3 : ((H2.alloc (.cells false (repeatL [I 0] (countsE h).length))).set H2.next (.cells false ((countsE h).map I))).get H.next = some (.cells false [v1, v2]) := by simp(maxSteps:=9999999)(disch:=first|omega|(simp only[AN];omega))only[hG.get,hg1.get,↓KP,EK,↓reduceIte,reduceCtorEq,Nat.reduceEqDiff,Nat.reduceAdd,Nat.reduceLeDiff,Nat.reduceMul]
      have hn3 : ((H2.alloc (.cells false (repeatL [I 0] (countsE h).length))).set H2.next (.cells false ((countsE h).map I))).next = H2.next + 1 := rfl
      simp(maxSteps:=9999999)(disch:=first|omega|(simp only[AN];omega))only[hv4l,m1,m2,e0,m3.len,↓KP,EK,↓reduceIte,reduceCtorEq,Nat.reduceEqDiff,Nat.reduceAdd,Nat.reduceLeDiff,Nat.reduceMul]
      generalize (H2.alloc (.cells false (repeatL [I 0] (countsE h).length))).set H2.next (.cells false ((countsE h).map I)) = H3 at m3 hg3 hbox3 hn3
      have hfind : ∀ (m : Nat) (s : List Int), m < (countsE h).length + 1 → (∀ x ∈ (List.range m).flatMap (combs (countsE h)), doE h x = false) → (combs (countsE h) m).find? (doE h) = some s → pWrongList h = s := fun m s hm hno hs => by
        obtain ⟨_, as, bs, e1, e2⟩ := List.find?_eq_some_iff_append.1 hs
        have hi : as.length < (combs (countsE h) m).length := by rw [e1]; simp
        have := find_here (f := combs (countsE h)) (p := doE h) (i := as.length) hm hi hno (by rw [e1, List.take_left]; intro x hx; simpa using e2 x hx) (by simp only [e1, List.getElem_append_right (Nat.le_refl _), Nat.sub_self, List.getElem_cons_zero]; exact List.find?_some hs)
        rw [pWrongList, this]
        simp only [e1, List.getElem_append_right (Nat.le_refl _), Nat.sub_self, List.getElem_cons_zero, Option.getD_some]
      have hnil : butE h [] = h := by rw [← lookE_bits (by simp)]; exact lookE_zero h
      refine K_loop (fun mz ez H4 => ∃ (m : Nat) (tail : Env), ez = (0, .agg [v1, v2]) :: (1, .ptr H.next 0) :: (2, .nilslice) :: (3, I 0) :: (19, .bool false) :: (4, v4) :: (22, v2) :: (23, I h.days.length) :: (24, I h.days.length) :: tail ∧ (tail.get 9 = some (.slice H2.next 0 (countsE h).length 1)) ∧ (tail.get 58 = some (I ((countsE h).length + 1 : Nat))) ∧ (tail.get 59 = some (I m)) ∧ (Grew H3 H4) ∧ (m ≤ (countsE h).length + 1) ∧ (∀ x ∈ (List.range m).flatMap (combs (countsE h)), doE h x = false) ∧ mz = (countsE h).length + 1 - m) _ ⟨0, _, rfl, ?_, ?_, ?_, ?_, ?_, (by simp), rfl⟩ ?_
      iterate 5 (focus (first|(with_reducible rfl)|omega|(with_reducible(repeat first|exact Grew.refl _|assumption|apply Grew.alloc|refine Grew.set ?_ _ (by first|omega|(simp only[AN];omega)));done)|(simp(maxSteps:=9999999)(disch:=first|omega|(simp only[AN];omega))only[↓KP,EK,↓reduceIte,reduceCtorEq,Nat.reduceEqDiff,Nat.reduceAdd,Nat.reduceLeDiff,Nat.reduceMul]<;>first|omega|rfl)|(simp;done)|rfl))
      rintro mz ez H4 ⟨m, tail, rfl, t9, t58, t59, hG4, hm, hno, hmz⟩; subst mz; have hG4n := hG4.next
      have hg4 := hg3.trans hG4
      have hbox4 : H4.get H.next = some (.cells false [v1, v2]) := by simp(maxSteps:=9999999)(disch:=first|omega|(simp only[AN];omega))only[hG4.get,hbox3,↓KP,EK,↓reduceIte,reduceCtorEq,Nat.reduceEqDiff,Nat.reduceAdd,Nat.reduceLeDiff,Nat.reduceMul]
      have e1 : IntKind.i64.wrap ((m : Int) + 1) = ((m + 1 : Nat) : Int) := i64_in _ (by omega)
      simp(maxSteps:=9999999)(disch:=first|omega|(simp only[AN];omega))only[t58,t59,↓KP,EK,↓reduceIte,reduceCtorEq,Nat.reduceEqDiff,Nat.reduceAdd,Nat.reduceLeDiff,Nat.reduceMul]
      refine C_decide (fun hc3 => ?_) (fun hc3 => ?_)
      · simp(maxSteps:=9999999)(disch:=first|omega|(simp only[AN];omega))only[t9,t59,↓KP,EK,↓reduceIte,reduceCtorEq,Nat.reduceEqDiff,Nat.reduceAdd,Nat.reduceLeDiff,Nat.reduceMul]
        refine C_call (first_run H.next m _ v1 v2 h (countsE h) hbox4 (by omega) (hh.grow hg4) (m3.grow EInt.stays hG4) hfine hin (by omega) (by omega) (fun H5 v s hm0 hs hg5 hvn hvs => ?_) (fun hor H5 hg5 => ?_))
        · have hw := hfind m s (by omega) hno hs
          have hx : eqNilA .slice v .nilslice = some false := by
            rcases hvs with ⟨rfl, _⟩ | ⟨b, i, cells, rfl, _⟩
            · exact absurd rfl hvn
            · rfl
          rw [hw] at k
          simp(maxSteps:=9999999)(disch:=first|omega|(simp only[AN];omega))only[hx,↓KP,EK,↓reduceIte,reduceCtorEq,Nat.reduceEqDiff,Nat.reduceAdd,Nat.reduceLeDiff,Nat.reduceMul]
          exact k _ _ (hg4.trans hg5) hvs
        · have hx : eqNilA .slice .nilslice .nilslice = some true := rfl
          have hg5n := hg5.next
          have hbox5 : H5.get H.next = some (.cells false [v1, v2]) := by simp(maxSteps:=9999999)(disch:=first|omega|(simp only[AN];omega))only[hg5.get,hbox4,↓KP,EK,↓reduceIte,reduceCtorEq,Nat.reduceEqDiff,Nat.reduceAdd,Nat.reduceLeDiff,Nat.reduceMul]
          have hsucc : (combs (countsE h) m).find? (doE h) = none → ∀ x ∈ (List.range (m + 1)).flatMap (combs (countsE h)), doE h x = false := fun hn x hx => by
            rw [List.range_succ, List.flatMap_append] at hx
            rcases List.mem_append.1 hx with h1 | h1
            · exact hno x h1
            · simp only [List.flatMap_cons, List.flatMap_nil, List.append_nil] at h1
              rw [List.find?_eq_none] at hn
              simpa using hn x h1
          by_cases hm0 : (m : Int) = 0
          · have hm0' : m = 0 := by omega
            subst hm0'
            simp(maxSteps:=9999999)(disch:=first|omega|(simp only[AN];omega))only[hx,t59,hm0,hbox5,↓KP,EK,↓reduceIte,reduceCtorEq,Nat.reduceEqDiff,Nat.reduceAdd,Nat.reduceLeDiff,Nat.reduceMul]
            refine C_call (look_run v1 v2 h 0 (hh.grow (hg4.trans hg5)) fun H6 p m hg6 hm6 hheld => ?_)
            have hg6n := hg6.next
            simp(maxSteps:=9999999)(disch:=first|omega|(simp only[AN];omega))only[↓KP,EK,↓reduceIte,reduceCtorEq,Nat.reduceEqDiff,Nat.reduceAdd,Nat.reduceLeDiff,Nat.reduceMul]
            refine C_call (some_run hfine (by omega) hheld fun H7 hg7 _ => ?_)
            have hg7' : Grew H5 H7 := GrewBut.grew hg6 hg7 hm6
            have hg7n := hg7'.next
            rw [lookE_zero]
            by_cases ht : 0 < (truthsE h).length
            · have hd : doE h [] = true := by unfold doE; rw [hnil]; exact decide_eq_true ht
              have hw := hfind 0 [] (by omega) hno (by simp [combs, hd])
              rw [hw] at k
              simp(maxSteps:=9999999)(disch:=first|omega|(simp only[AN];omega))only[ht,↓KP,EK,↓reduceIte,reduceCtorEq,Nat.reduceEqDiff,Nat.reduceAdd,Nat.reduceLeDiff,Nat.reduceMul]
              exact k _ _ ((hg4.trans hg5).trans hg7') (.inl ⟨rfl, rfl⟩)
            · have hd : doE h [] = false := by unfold doE; rw [hnil]; exact decide_eq_false ht
              have hn : (combs (countsE h) 0).find? (doE h) = none := by simp [combs, hd]
              have e1' : IntKind.i64.wrap (0 + 1) = ((0 + 1 : Nat) : Int) := rfl
              simp(maxSteps:=9999999)(disch:=first|omega|(simp only[AN];omega))only[ht,t59,hm0,e1',↓KP,EK,↓reduceIte,reduceCtorEq,Nat.reduceEqDiff,Nat.reduceAdd,Nat.reduceLeDiff,Nat.reduceMul]
              refine ⟨_, ?_, 0 + 1, _, rfl, ?_, ?_, ?_, (by exact (hG4.trans hg5).trans hg7'), ?_, (by exact hsucc hn), rfl⟩ <;> (first|omega|(with_reducible assumption)|(with_reducible(repeat first|exact Grew.refl _|assumption|apply Grew.alloc|refine Grew.set ?_ _ (by first|omega|(simp only[AN];omega))|refine Grew.trans ?_ hg7'|refine Grew.trans ?_ hg5);done)|(simp(maxSteps:=9999999)(disch:=first|omega|(simp only[AN];omega))only[t9,t58,t59,hg7'.get,hg5.get,↓KP,EK,↓reduceIte,reduceCtorEq,Nat.reduceEqDiff,Nat.reduceAdd,Nat.reduceLeDiff,Nat.reduceMul]<;>first|omega|rfl))
          · have hn : (combs (countsE h) m).find? (doE h) = none := hor.resolve_left (by omega)
            simp(maxSteps:=9999999)(disch:=first|omega|(simp only[AN];omega))only[hx,t59,hm0,e1,↓KP,EK,↓reduceIte,reduceCtorEq,Nat.reduceEqDiff,Nat.reduceAdd,Nat.reduceLeDiff,Nat.reduceMul]
            refine ⟨_, ?_, m + 1, _, rfl, ?_, ?_, ?_, (by exact hG4.trans hg5), ?_, (by exact hsucc hn), rfl⟩ <;> (first|omega|(with_reducible assumption)|(with_reducible(repeat first|exact Grew.refl _|assumption|apply Grew.alloc|refine Grew.set ?_ _ (by first|omega|(simp only[AN];omega))|refine Grew.trans ?_ hg5);done)|(simp(maxSteps:=9999999)(disch:=first|omega|(simp only[AN];omega))only[t9,t58,t59,hg5.get,↓KP,EK,↓reduceIte,reduceCtorEq,Nat.reduceEqDiff,Nat.reduceAdd,Nat.reduceLeDiff,Nat.reduceMul]<;>first|omega|rfl))
      · have hme : m = (countsE h).length + 1 := by omega
        subst hme
        have hw : pWrongList h = countsE h := by
          rw [pWrongList, List.find?_eq_none.2 fun x hx => by simp [hno x hx]]; rfl
        rw [hw] at k
        simp(maxSteps:=9999999)(disch:=first|omega|(simp only[AN];omega))only[t9,↓KP,EK,↓reduceIte,reduceCtorEq,Nat.reduceEqDiff,Nat.reduceAdd,Nat.reduceLeDiff,Nat.reduceMul]
        exact k _ _ hg4 (m3.grow EInt.stays hG4)
  · have he' : errE h ≠ 0 := he
    rw [if_pos he'] at k
    simp(maxSteps:=9999999)(disch:=first|omega|(simp only[AN];omega))only[he,↓KP,EK,↓reduceIte,reduceCtorEq,Nat.reduceEqDiff,Nat.reduceAdd,Nat.reduceLeDiff,Nat.reduceMul]
    exact k _ _ hg1' (.inl ⟨rfl, rfl⟩)
theorem combs_map {α β : Type} (f : α → β) : ∀ (l : List α) (r : Nat), combs (l.map f) r = (combs l r).map (List.map f)
  | _, 0 => by simp [combs]
  | [], r + 1 => by simp [combs]
  | x :: l, r + 1 => by
    simp only [List.map_cons, combs, combs_map f l r, combs_map f l (r + 1), List.map_append, List.map_map]
    rfl
def nextOf (a : Int) (o : List Int) : Int := match o.getLast? with
  | some x => x + 1
  | none => a
theorem upTo_cons {a b : Int} (h : a ≤ b) : upTo a b = a :: upTo (a + 1) b := by
  have := upTo_split (lo := a) (f := a) (hi := b) (by omega) h
  rw [upTo_nil] at this
  simpa using this
theorem upTo_none {a b : Int} (h : b < a) : upTo a b = [] := by
  unfold upTo
  rw [show (b + 1 - a).toNat = 0 from by omega]; rfl
theorem flatMap_same {α β : Type} {f g : α → List β} : ∀ {l : List α}, (∀ x ∈ l, f x = g x) → l.flatMap f = l.flatMap g
  | [], _ => rfl
  | x :: l, h => by rw [List.flatMap_cons, List.flatMap_cons, h x (by simp), flatMap_same fun y hy => h y (by simp [hy])]
theorem combs_snoc (b : Int) : ∀ (k : Nat) (a : Int) (m : Nat), (b + 1 - a).toNat = k → combs (upTo a b) (m + 1) = (combs (upTo a b) m).flatMap fun o => (upTo (nextOf a o) b).map fun f => o ++ [f]
  | 0, a, m, hk => by
    rw [upTo_none (by omega)]
    cases m with
    | zero => simp [combs, nextOf, upTo_none (show b < a by omega)]
    | succ m => simp [combs]
  | k + 1, a, m, hk => by
    rw [upTo_cons (by omega)]
    have ih := combs_snoc b k (a + 1)
    cases m with
    | zero =>
      have h0 := ih 0 (by omega)
      have hn : ∀ a : Int, nextOf a [] = a := fun _ => rfl
      simp only [combs, List.map_cons, List.map_nil, List.flatMap_cons, List.flatMap_nil, List.append_nil, hn, List.nil_append] at h0 ⊢
      rw [h0, upTo_cons (show a ≤ b by omega)]
      rfl
    | succ m =>
      have h1 := ih m (by omega)
      have h2 := ih (m + 1) (by omega)
      rw [combs, h2]
      conv => rhs; rw [combs]
      rw [List.flatMap_append, List.flatMap_map]
      congr 1
      · rw [h1, List.map_flatMap]
        congr 1
        funext o
        have : nextOf a (a :: o) = nextOf (a + 1) o := by
          unfold nextOf
          cases o with
          | nil => rfl
          | cons x o => (simp only [List.getLast?_cons_cons, List.getLast?_cons]; rfl)
        rw [this, List.map_map]
        rfl
      · refine flatMap_same fun o ho => ?_
        have hol := (combs_mem ho).1
        have : nextOf a o = nextOf (a + 1) o := by
          unfold nextOf
          cases o with
          | nil => simp at hol
          | cons x o =>
            simp only [List.getLast?_cons]
        rw [this]
theorem choices_combs (n : Nat) : ∀ m, choicesE n m = combs (upTo 0 ((n : Int) - 1)) m
  | 0 => by simp [choicesE, combs]
  | m + 1 => by
    rw [choicesE_succ, choices_combs n m, combs_snoc ((n : Int) - 1) _ 0 m rfl, choStep]
    refine flatMap_same fun o ho => ?_
    have hol := (combs_mem ho).1
    have : firstOf o m = nextOf 0 o := by
      unfold firstOf nextOf
      rw [List.getLast?_eq_getElem?]
      by_cases hm : 0 < m
      · rw [if_pos hm, List.getElem?_eq_getElem (by omega), getI_eq (by omega)]
        simp only [hol]
      · have h0 : o = [] := List.length_eq_zero_iff.1 (by omega)
        subst h0
        rw [if_neg hm]; rfl
    rw [choRow, this]
theorem own_all (all : List Int) : (upTo 0 ((all.length : Int) - 1)).map (fun i => getI all i.toNat) = all := by
  refine List.ext_getElem (by simp [upTo]) fun i h1 h2 => ?_
  simp [upTo, getI_eq h2]
theorem cand_combs (h : House) (m : Nat) : candE h m = combs (countsE h) m := by
  have : candE h m = (combs (upTo 0 (((countsE h).length : Int) - 1)) m).map (List.map fun i => getI (countsE h) i.toNat) := by
    rw [candE, choices_combs]; rfl
  rw [this, ← combs_map, own_all]
theorem combs_all {α : Type} : ∀ (l : List α) (r : Nat), l.length < r → combs l r = []
  | _, 0, h => by simp at h
  | [], r + 1, _ => rfl
  | x :: l, r + 1, h => by
    simp only [List.length_cons] at h
    simp [combs, combs_all l r (by omega), combs_all l (r + 1) (by omega)]
theorem combs_full {α : Type} : ∀ (l : List α), combs l l.length = [l]
  | [] => rfl
  | x :: l => by simp [combs, combs_full l, combs_all l (l.length + 1) (by omega)]
theorem pWrong_eq (h : House) : pWrongList h = wrongList h := by
  have h1 : doE h = hasTruth h := rfl
  have h2 : candE h = combs (countsE h) := funext (cand_combs h)
  rw [pWrongList, wrongList, h1, h2, List.range_succ, List.flatMap_append, List.find?_append]
  cases hf : ((List.range (countsE h).length).flatMap (combs (countsE h))).find? (hasTruth h) with
  | some s => rfl
  | none =>
    simp only [Option.none_or, List.flatMap_cons, List.flatMap_nil, List.append_nil, combs_full, List.find?_cons, List.find?_nil, Option.getD_none]
    cases hasTruth h (countsE h) <;> rfl
theorem Wrong_run (v1 v2 : AV) (h : House) (hh : IsHouse (Old H) H v1 v2 h)
    (k : ∀ H' v, Grew H H' → IsInts (Old H') H' v (wrongE h).1 → R (.tuple [v, I (wrongE h).2]) H') : CallQ prog (.func 29 [] []) [.agg [v1, v2]] H R := by
  refine Wrong_run' v1 v2 h hh fun H' v hg hv => ?_
  have hw : wrongE h = (if errE h ≠ 0 then [] else pWrongList h, errE h) := by
    rw [pWrong_eq, wrongE]
    by_cases he : errE h = 0
    · simp [he]
    · simp [he]
  rw [hw] at k
  exact k H' v hg hv
end Go.Proofs.Ytgncpbkedhchfaa
