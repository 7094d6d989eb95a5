/- The row FactorTrue: counts as any past makes them deny nothing of that past, for every house and past. -/
import Derived.RangeFuncCalls
import Derived.Laws.StructEq
import Derived.ChangeKeysEq
import Derived.Laws.Append
set_option linter.unusedVariables false
set_option linter.unusedSimpArgs false
namespace Go.AM
inductive AV where
  | bool (b : Bool)
  | int (k : IntKind) (n : Int)
  | str (s : ByteArray)
  | ptr (b i : Nat)
  | nilptr
  | slice (b i len sz : Nat)
  | nilslice
  | map (b : Nat)
  | nilmap
  | func (f : Nat) (first captured : List AV)
  | yield (l : Nat)
  | nilfunc
  | iface (t : TypeId) (v : AV)
  | niliface
  | agg (cs : List AV)
  | tuple (vs : List AV)
  deriving Inhabited
def AV.cells? : AV → Option (List AV)
  | .agg cs => some cs
  | .tuple _ => none
  | v => some [v]
def AV.isCell : AV → Bool
  | .agg _ => false
  | .tuple _ => false
  | _ => true
inductive AOpd where
  | s (t : Nat)
  | c (v : AV)
  deriving Inhabited
inductive ABin where
  | add | sub | mul | quo | rem | and | or | xor | andNot | shl | shr
  | eql | neq | lss | leq | gtr | geq
  deriving DecidableEq, Inhabited
inductive SK where
  | i | b | s
  deriving DecidableEq, Inhabited
inductive NK where
  | ptr | slice | map | func
  deriving DecidableEq, Inhabited
inductive AOp where
  | move (x : AOpd)
  | pick (c a b : AOpd)
  | alloc (zero : List AV)
  | box (x : AOpd)
  | build (zero : List AV) (parts : List (Nat × Nat × AOpd))
  | mkslice (len sz : Nat) (zero : List AV) (parts : List (Nat × Nat × AOpd))
  | load (a : AOpd)
  | loadN (n : Nat) (a : AOpd)
  | store (n : Nat) (a x : AOpd)
  | nilCheck (x : AOpd)
  | bin (op : BinOp) (x y : AOpd)
  | eqFlat (g : Bool) (ks : List SK) (neg : Bool) (x y : AOpd)
  | eqNil (k : NK) (neg : Bool) (x y : AOpd)
  | un (op : UnOp) (x : AOpd)
  | toInt (k : IntKind) (x : AOpd)
  | strId (x : AOpd)
  | func (f : Nat) (first captured : List AOpd)
  | makeMap
  | makeSlice (sz bytes : Nat) (zero : List AV) (len cap : AOpd)
  | sliceStr (x : AOpd) (lo hi : Option AOpd)
  | sliceSl (sz : Nat) (x : AOpd) (lo hi : Option AOpd)
  | sliceArr (n sz : Nat) (x : AOpd) (lo hi : Option AOpd)
  | off (n : Nat) (x : AOpd)
  | idxSl (sz : Nat) (x i : AOpd)
  | idxArr (len sz : Nat) (x i : AOpd)
  | part (off : Nat) (x : AOpd)
  | partN (off n : Nat) (x : AOpd)
  | at (len sz : Nat) (isAgg : Bool) (x i : AOpd)
  | byteAt (x i : AOpd)
  | lookup (g : Bool) (ks : List SK) (zero : AV) (ok : Bool) (m k : AOpd)
  | update (g : Bool) (ks : List SK) (m k v : AOpd)
  | rangeStr (x : AOpd)
  | nextStr (it : AOpd)
  | extract (i : Nat) (x : AOpd)
  | call (f : AOpd) (args : List AOpd)
  | len (isStr : Bool) (x : AOpd)
  | lenMap (x : AOpd)
  | append (sz bytes : Nat) (s x : AOpd)
  | copy (sz : Nat) (d s : AOpd)
  | maxInt (x : AOpd) (xs : List AOpd)
  | minInt (x : AOpd) (xs : List AOpd)
  deriving Inhabited
structure AOper where
  dst : Option Nat
  op : AOp
  guard : Option (Nat × Bool)
  id : Nat
  pre : List Nat
  deriving Inhabited
inductive ACode where
  | skip
  | reg (ops : List AOper) (keep : List Nat)
  | draw (ops : List AOper) (keep : List Nat)
  | seq (a b : ACode)
  | cond (c : AOpd) (a b : ACode)
  | block (id : Nat) (body : ACode)
  | loop (body : ACode)
  | range (f : AOpd) (params : List Nat) (assign body : ACode)
  | exit (id : Nat)
  | ret
  deriving Inhabited
inductive AExit where
  | normal
  | exit (id : Nat)
  | ret
  deriving DecidableEq, Inhabited
abbrev Env := List (Nat × AV)
def Env.get : Env → Nat → Option AV
  | [], _ => none
  | (k, v) :: e, t => if k = t then some v else Env.get e t
def Env.put : Env → Nat → AV → Env
  | [], t, v => [(t, v)]
  | (k, u) :: e, t, v => if k = t then (k, v) :: e else (k, u) :: Env.put e t v
def hasNat : List Nat → Nat → Bool
  | [], _ => false
  | k :: l, t => if k = t then true else hasNat l t
def Env.keep : Env → List Nat → Env
  | [], _ => []
  | (k, u) :: e, l => if hasNat l k then (k, u) :: Env.keep e l else Env.keep e l
inductive LState where
  | ready | busy | done | over
  deriving DecidableEq, Inhabited
structure ALoop where
  state : LState
  pending : AExit
  env : Env
  params : List Nat
  assign : ACode
  body : ACode
  deriving Inhabited
inductive AObj where
  | dead
  | cells (ro : Bool) (vs : List AV)
  | map (es : List (AV × AV))
  | strIter (s : ByteArray) (pos : Nat)
  | loop (l : ALoop)
  deriving Inhabited
inductive Tr (α : Type) where
  | leaf
  | node (v : Option α) (l r : Tr α)
namespace Tr
variable {α : Type}
def get : Tr α → Nat → Option α
  | .leaf, _ => none
  | .node v l r, n => if n = 0 then v else if n % 2 = 1 then get l (n / 2) else get r (n / 2 - 1)
def val : Tr α → Option α
  | .leaf => none
  | .node v _ _ => v
def lft : Tr α → Tr α
  | .leaf => .leaf
  | .node _ l _ => l
def rgt : Tr α → Tr α
  | .leaf => .leaf
  | .node _ _ r => r
def setF : Nat → Tr α → Nat → α → Tr α
  | 0, t, _, v => .node (some v) t.lft t.rgt
  | f + 1, t, n, v =>
    if n = 0 then .node (some v) t.lft t.rgt
    else if n % 2 = 1 then .node t.val (setF f t.lft (n / 2) v) t.rgt
    else .node t.val t.lft (setF f t.rgt (n / 2 - 1) v)
def set (t : Tr α) (n : Nat) (v : α) : Tr α := setF n t n v
theorem get_lft (t : Tr α) (k : Nat) : t.lft.get k = t.get (2 * k + 1) := by
  cases t with
  | leaf => rfl
  | node v l r =>
    have h1 : (2 * k + 1) % 2 = 1 := by omega
    have h2 : (2 * k + 1) / 2 = k := by omega
    simp [lft, get, h1, h2]
theorem get_rgt (t : Tr α) (k : Nat) : t.rgt.get k = t.get (2 * k + 2) := by
  cases t with
  | leaf => rfl
  | node v l r =>
    have h1 : (2 * k + 2) % 2 = 0 := by omega
    have h2 : (2 * k + 2) / 2 - 1 = k := by omega
    simp only [rgt, get, h1, h2]
    simp
theorem get_zero (t : Tr α) : t.get 0 = t.val := by cases t <;> simp [get, val]
theorem get_setF : ∀ (f : Nat) (t : Tr α) (n : Nat) (v : α) (k : Nat), n ≤ f → (setF f t n v).get k = if k = n then some v else t.get k
  | 0, t, n, v, k, h => by
    obtain rfl : n = 0 := by omega
    simp only [setF, get]
    by_cases hk : k = 0
    · simp [hk]
    · simp only [hk, if_false]
      by_cases h2 : k % 2 = 1
      · rw [if_pos h2, get_lft]; congr 1; omega
      · rw [if_neg h2, get_rgt]; congr 1; omega
  | f + 1, t, n, v, k, h => by
    simp only [setF]
    by_cases hn : n = 0
    · subst hn
      simp only [if_true, get]
      by_cases hk : k = 0
      · simp [hk]
      · simp only [hk, if_false]
        by_cases h2 : k % 2 = 1
        · rw [if_pos h2, get_lft]; congr 1; omega
        · rw [if_neg h2, get_rgt]; congr 1; omega
    · rw [if_neg hn]
      by_cases h2 : n % 2 = 1
      · rw [if_pos h2]
        simp only [get]
        by_cases hk : k = 0
        · subst hk; rw [if_pos rfl, if_neg (by omega), get_zero]
        · simp only [hk, if_false]
          by_cases h3 : k % 2 = 1
          · rw [if_pos h3, get_setF f _ _ _ _ (by omega), get_lft]
            by_cases h4 : k = n
            · rw [if_pos (by omega), if_pos h4]
            · rw [if_neg (by omega), if_neg h4]; congr 1; omega
          · rw [if_neg h3, if_neg (by omega), get_rgt]; congr 1; omega
      · rw [if_neg h2]
        simp only [get]
        by_cases hk : k = 0
        · subst hk; rw [if_pos rfl, if_neg (by omega), get_zero]
        · simp only [hk, if_false]
          by_cases h3 : k % 2 = 1
          · rw [if_pos h3, if_neg (by omega), get_lft]; congr 1; omega
          · rw [if_neg h3, get_setF f _ _ _ _ (by omega), get_rgt]
            by_cases h4 : k = n
            · rw [if_pos (by omega), if_pos h4]
            · rw [if_neg (by omega), if_neg h4]; congr 1; omega
theorem get_set (t : Tr α) (n : Nat) (v : α) (k : Nat) : (t.set n v).get k = if k = n then some v else t.get k := get_setF n t n v k (Nat.le_refl _)
end Tr
structure AH where
  next : Nat
  tr : Tr AObj
def AH.get (H : AH) (b : Nat) : Option AObj := H.tr.get b
def AH.set (H : AH) (b : Nat) (o : AObj) : AH := { H with tr := H.tr.set b o }
def AH.alloc (H : AH) (o : AObj) : AH := { next := H.next + 1, tr := H.tr.set H.next o }
theorem AH.get_set (H : AH) (b : Nat) (o : AObj) (k : Nat) : (H.set b o).get k = if k = b then some o else H.get k := Tr.get_set _ _ _ _
theorem AH.get_alloc (H : AH) (o : AObj) (k : Nat) : (H.alloc o).get k = if k = H.next then some o else H.get k := Tr.get_set _ _ _ _
@[simp] theorem AH.next_set (H : AH) (b : Nat) (o : AObj) : (H.set b o).next = H.next := rfl
@[simp] theorem AH.next_alloc (H : AH) (o : AObj) : (H.alloc o).next = H.next + 1 := rfl
def readN (vs : List AV) (i n : Nat) : Option (List AV) :=
  if i + n ≤ vs.length then some ((vs.drop i).take n) else none
def AH.read (H : AH) (b i n : Nat) : Option (List AV) :=
  match H.get b with
  | some (.cells _ vs) => readN vs i n
  | _ => none
def AH.read1 (H : AH) (b i : Nat) : Option AV :=
  match H.get b with
  | some (.cells _ vs) => vs[i]?
  | _ => none
def writeN : List AV → Nat → List AV → Option (List AV)
  | vs, _, [] => some vs
  | [], _, _ :: _ => none
  | v :: vs, 0, x :: xs => (writeN vs 0 xs).map (x :: ·)
  | v :: vs, i + 1, xs => (writeN vs i xs).map (v :: ·)
def AH.write (H : AH) (b i : Nat) (xs : List AV) : Option AH :=
  match H.get b with
  | some (.cells false vs) =>
    match writeN vs i xs with
    | some vs' => if xs.all AV.isCell then some (H.set b (.cells false vs')) else none
    | none => none
  | _ => none
def fillA (cells : List AV) : List (Nat × Nat × AV) → Option (List AV)
  | [] => some cells
  | (o, n, v) :: rest =>
    match v.cells? with
    | some cs =>
      if cs.length = n ∧ o + n ≤ cells.length then
        match writeN cells o cs with
        | some cells' => fillA cells' rest
        | none => none
      else none
    | none => none
def repeatL (zero : List AV) : Nat → List AV
  | 0 => []
  | n + 1 => zero ++ repeatL zero n
def eqCells : List SK → List AV → List AV → Option Bool
  | [], [], [] => some true
  | .i :: ks, .int j a :: xs, .int k b :: ys => if j = k then (eqCells ks xs ys).map (a == b && ·) else none
  | .b :: ks, .bool a :: xs, .bool b :: ys => (eqCells ks xs ys).map (a == b && ·)
  | .s :: ks, .str a :: xs, .str b :: ys => (eqCells ks xs ys).map (a.toList == b.toList && ·)
  | _, _, _ => none
def eqFlatA (g : Bool) (ks : List SK) (x y : AV) : Option Bool :=
  match g, x, y with
  | true, .agg xs, .agg ys => eqCells ks xs ys
  | false, x, y => eqCells ks [x] [y]
  | _, _, _ => none
def eqNilA : NK → AV → AV → Option Bool
  | .ptr, .nilptr, .nilptr => some true
  | .ptr, .nilptr, .ptr _ _ => some false
  | .ptr, .ptr _ _, .nilptr => some false
  | .slice, .nilslice, .nilslice => some true
  | .slice, .nilslice, .slice _ _ _ _ => some false
  | .slice, .slice _ _ _ _, .nilslice => some false
  | .map, .nilmap, .nilmap => some true
  | .map, .nilmap, .map _ => some false
  | .map, .map _, .nilmap => some false
  | .func, .nilfunc, .nilfunc => some true
  | .func, .nilfunc, .func _ _ _ => some false
  | .func, .func _ _ _, .nilfunc => some false
  | .func, .nilfunc, .yield _ => some false
  | .func, .yield _, .nilfunc => some false
  | _, _, _ => none
def binA (op : BinOp) (x y : AV) : Option AV :=
  match x, y with
  | .int j a, .int k b =>
    match op with
    | .shl => if b < 0 then none else some (.int j (j.wrap (a * 2 ^ (min b.toNat j.bits))))
    | .shr => if b < 0 then none else some (.int j (a.fdiv (2 ^ (min b.toNat j.bits))))
    | _ =>
      if j = k then
        match op with
        | .add => some (.int j (j.wrap (a + b)))
        | .sub => some (.int j (j.wrap (a - b)))
        | .mul => some (.int j (j.wrap (a * b)))
        | .quo => if b = 0 then none else some (.int j (j.wrap (a.tdiv b)))
        | .rem => if b = 0 then none else some (.int j (a.tmod b))
        | .and => some (.int j (j.wrap (BitVec.ofInt j.bits a &&& BitVec.ofInt j.bits b).toNat))
        | .or => some (.int j (j.wrap (BitVec.ofInt j.bits a ||| BitVec.ofInt j.bits b).toNat))
        | .xor => some (.int j (j.wrap (BitVec.ofInt j.bits a ^^^ BitVec.ofInt j.bits b).toNat))
        | .andNot => some (.int j (j.wrap (BitVec.ofInt j.bits a &&& ~~~(BitVec.ofInt j.bits b)).toNat))
        | .eql => some (.bool (a == b))
        | .neq => some (.bool (a != b))
        | .lss => some (.bool (decide (a < b)))
        | .leq => some (.bool (decide (a ≤ b)))
        | .gtr => some (.bool (decide (a > b)))
        | .geq => some (.bool (decide (a ≥ b)))
        | _ => none
      else none
  | .str a, .str b =>
    match op with
    | .add => if ((a.size + b.size : Nat) : Int) > IntKind.i64.max then none else some (.str (a ++ b))
    | .eql => some (.bool (a.toList == b.toList))
    | .neq => some (.bool !(a.toList == b.toList))
    | .lss => some (.bool (Op.bytesLess a.toList b.toList))
    | .leq => some (.bool (Op.bytesLess a.toList b.toList || a.toList == b.toList))
    | .gtr => some (.bool !(Op.bytesLess a.toList b.toList || a.toList == b.toList))
    | .geq => some (.bool !(Op.bytesLess a.toList b.toList))
    | _ => none
  | _, _ => none
def AOpd.val (e : Env) : AOpd → Option AV
  | .s t => e.get t
  | .c v => some v
def vals (e : Env) : List AOpd → Option (List AV)
  | [] => some []
  | x :: xs =>
    match x.val e with
    | some v => match vals e xs with
      | some vs => some (v :: vs)
      | none => none
    | none => none
def partVals (e : Env) : List (Nat × Nat × AOpd) → Option (List (Nat × Nat × AV))
  | [] => some []
  | (o, n, x) :: xs =>
    match x.val e with
    | some v => match partVals e xs with
      | some vs => some ((o, n, v) :: vs)
      | none => none
    | none => none
def natOf : AV → Option Nat
  | .int .i64 n => if 0 ≤ n then some n.toNat else none
  | _ => none
def srcCells (H : AH) (sz n : Nat) : AV → Option (List AV)
  | .slice b i len z => if z = sz ∧ n ≤ len then H.read b i (n * sz) else none
  | .nilslice => if n = 0 then some [] else none
  | .str s => if sz = 1 ∧ n ≤ s.size then some ((s.toList.take n).map fun b => .int .u8 b.toNat) else none
  | _ => none
def lenA : AV → Option Nat
  | .slice _ _ len _ => some len
  | .nilslice => some 0
  | .str s => some s.size
  | _ => none
def roomA : Nat := 140737488355328
def appendA (H : AH) (sz bytes : Nat) (s x : AV) : Option (AV × AH) :=
  match lenA x with
  | none => none
  | some n =>
    match srcCells H sz n x with
    | none => none
    | some new =>
      match s with
      | .nilslice =>
        if n = 0 then some (.nilslice, H)
        else if n ≤ roomA ∧ n * bytes ≤ roomA then some (.slice H.next 0 n sz, H.alloc (.cells false new)) else none
      | .slice b i len z =>
        if n = 0 then some (.slice b i len z, H)
        else
          match H.get b with
          | some (.cells false vs) =>
            match readN vs i (len * sz) with
            | some old =>
              if z = sz ∧ len + n ≤ roomA ∧ (len + n) * bytes ≤ roomA ∧ new.all AV.isCell = true then
                some (.slice H.next 0 (len + n) sz, (H.set b .dead).alloc (.cells false (old ++ new)))
              else none
            | none => none
          | _ => none
      | _ => none
def copyN (H : AH) (sz n : Nat) (d s : AV) : Option (AV × AH) :=
  match srcCells H sz n s with
  | none => none
  | some new =>
    match d with
    | .nilslice => some (.int .i64 n, H)
    | .slice b i _ z =>
      if z = sz then
        match H.write b i new with
        | some H' => some (.int .i64 n, H')
        | none => none
      else none
    | _ => none
def copyA (H : AH) (sz : Nat) (d s : AV) : Option (AV × AH) :=
  match lenA s, lenA d with
  | some ns, some nd => copyN H sz (min ns nd) d s
  | _, _ => none
def findA (g : Bool) (ks : List SK) (k : AV) : List (AV × AV) → Option (Option AV)
  | [] => some none
  | (k', v) :: es =>
    match eqFlatA g ks k k' with
    | some true => some (some v)
    | some false => findA g ks k es
    | none => none
def putA (g : Bool) (ks : List SK) (k v : AV) : List (AV × AV) → Option (List (AV × AV))
  | [] => some [(k, v)]
  | (k', v') :: es =>
    match eqFlatA g ks k k' with
    | some true => some ((k, v) :: es)
    | some false => (putA g ks k v es).map ((k', v') :: ·)
    | none => none
def max2A : AV → List AV → Option AV
  | v, [] => some v
  | .int j a, .int k b :: vs => if j = k then max2A (.int j (if b > a then b else a)) vs else none
  | _, _ => none
def min2A : AV → List AV → Option AV
  | v, [] => some v
  | .int j a, .int k b :: vs => if j = k then min2A (.int j (if b < a then b else a)) vs else none
  | _, _ => none
abbrev ACall := AV → List AV → AH → Option (AV × AH)
abbrev ORes := Option (AV × AH)
def pureV (H : AH) : Option AV → ORes
  | some v => some (v, H)
  | none => none
def with1 (x : Option AV) (f : AV → ORes) : ORes :=
  match x with
  | some v => f v
  | none => none
def withL (x : Option (List AV)) (f : List AV → ORes) : ORes :=
  match x with
  | some v => f v
  | none => none
def withP (x : Option (List (Nat × Nat × AV))) (f : List (Nat × Nat × AV) → ORes) : ORes :=
  match x with
  | some v => f v
  | none => none
def opPick (c a b : AV) (H : AH) : ORes :=
  match c with
  | .bool t => some (if t then a else b, H)
  | _ => none
def opAlloc (cs : List AV) (H : AH) : ORes := some (.ptr H.next 0, H.alloc (.cells false cs))
def opBox (v : AV) (H : AH) : ORes :=
  match v.cells? with
  | some cs => opAlloc cs H
  | none => none
def opBuild (zero : List AV) (ps : List (Nat × Nat × AV)) (H : AH) : ORes :=
  match fillA zero ps with
  | some cs => some (.agg cs, H)
  | none => none
def opMkslice (len sz : Nat) (zero : List AV) (ps : List (Nat × Nat × AV)) (H : AH) : ORes :=
  match fillA zero ps with
  | some cs => some (.slice H.next 0 len sz, H.alloc (.cells false cs))
  | none => none
def opLoad (v : AV) (H : AH) : ORes :=
  match v with
  | .ptr b i => pureV H (H.read1 b i)
  | _ => none
def aggOf (H : AH) : Option (List AV) → ORes
  | some cs => some (.agg cs, H)
  | none => none
def opLoadN (n : Nat) (v : AV) (H : AH) : ORes :=
  match v with
  | .ptr b i => aggOf H (H.read b i n)
  | _ => none
def unitOf : Option AH → ORes
  | some H => some (.tuple [], H)
  | none => none
def opStore (n : Nat) (a v : AV) (H : AH) : ORes :=
  match a with
  | .ptr b i =>
    match v.cells? with
    | some cs => if cs.length = n then unitOf (H.write b i cs) else none
    | none => none
  | _ => none
def opNilCheck (v : AV) (H : AH) : ORes :=
  match v with
  | .ptr b i => some (.ptr b i, H)
  | .func f a b => some (.func f a b, H)
  | .yield l => some (.yield l, H)
  | .iface t v => some (.iface t v, H)
  | _ => none
def boolOf (H : AH) (neg : Bool) : Option Bool → ORes
  | some t => some (.bool (t != neg), H)
  | none => none
def opUn (op : UnOp) (v : AV) (H : AH) : ORes :=
  match op, v with
  | .neg, .int k n => some (.int k (k.wrap (0 - n)), H)
  | .not, .bool b => some (.bool !b, H)
  | _, _ => none
def opToInt (k : IntKind) (v : AV) (H : AH) : ORes :=
  match v with
  | .int _ n => some (.int k (k.wrap n), H)
  | _ => none
def opStrId (v : AV) (H : AH) : ORes :=
  match v with
  | .str s => some (.str s, H)
  | _ => none
def opMakeSlice (sz bytes : Nat) (zero : List AV) (l c : AV) (H : AH) : ORes :=
  match natOf l, natOf c with
  | some l, some c =>
    if l ≤ c ∧ c ≤ roomA ∧ bytes * c ≤ roomA ∧ zero.length = sz then some (.slice H.next 0 l sz, H.alloc (.cells false (repeatL zero c))) else none
  | _, _ => none
def optNat (d : Nat) : Option AV → Option Nat
  | none => some d
  | some v => natOf v
def opSliceStr (v : AV) (lo hi : Option AV) (H : AH) : ORes :=
  match v with
  | .str s => match optNat 0 lo, optNat s.size hi with
    | some l, some h => if l ≤ h ∧ h ≤ s.size then some (.str (s.extract l h), H) else none
    | _, _ => none
  | _ => none
def opSliceSl (sz : Nat) (v : AV) (lo hi : Option AV) (H : AH) : ORes :=
  match v with
  | .slice b i len z => match optNat 0 lo, optNat len hi with
    | some l, some h => if z = sz ∧ l ≤ h ∧ h ≤ len then some (.slice b (i + l * sz) (h - l) sz, H) else none
    | _, _ => none
  | .nilslice => match optNat 0 lo, optNat 0 hi with
    | some 0, some 0 => some (.nilslice, H)
    | _, _ => none
  | _ => none
def opSliceArr (n sz : Nat) (v : AV) (lo hi : Option AV) (H : AH) : ORes :=
  match v with
  | .ptr b i => match optNat 0 lo, optNat n hi with
    | some l, some h =>
      match H.get b with
      | some (.cells false vs) => if l ≤ h ∧ h ≤ n ∧ i + n * sz ≤ vs.length then some (.slice b (i + l * sz) (h - l) sz, H) else none
      | _ => none
    | _, _ => none
  | _ => none
def opOff (n : Nat) (v : AV) (H : AH) : ORes :=
  match v with
  | .ptr b i => some (.ptr b (i + n), H)
  | _ => none
def opIdxSl (sz : Nat) (v i : AV) (H : AH) : ORes :=
  match v with
  | .slice b j len _ => match natOf i with
    | some k => if k < len then some (.ptr b (j + k * sz), H) else none
    | none => none
  | _ => none
def opIdxArr (len sz : Nat) (v i : AV) (H : AH) : ORes :=
  match v with
  | .ptr b j => match natOf i with
    | some k => if k < len then some (.ptr b (j + k * sz), H) else none
    | none => none
  | _ => none
def opPart (o : Nat) (v : AV) (H : AH) : ORes :=
  match v with
  | .agg cs => pureV H cs[o]?
  | _ => none
def opPartN (o n : Nat) (v : AV) (H : AH) : ORes :=
  match v with
  | .agg cs => aggOf H (readN cs o n)
  | _ => none
def opAt (len sz : Nat) (isAgg : Bool) (v i : AV) (H : AH) : ORes :=
  match v with
  | .agg cs => match natOf i with
    | some k => if k < len then (if isAgg then aggOf H (readN cs (k * sz) sz) else pureV H cs[k * sz]?) else none
    | none => none
  | _ => none
def opByteAt (v i : AV) (H : AH) : ORes :=
  match v with
  | .str s => match natOf i with
    | some k => match s.toList[k]? with
      | some b => some (.int .u8 b.toNat, H)
      | none => none
    | none => none
  | _ => none
def opLookup (g : Bool) (ks : List SK) (zero : AV) (ok : Bool) (m k : AV) (H : AH) : ORes :=
  match eqFlatA g ks k k with
  | none => none
  | some _ =>
    match m with
    | .map b =>
      match H.get b with
      | some (.map es) => match findA g ks k es with
        | some (some v) => some (if ok then .tuple [v, .bool true] else v, H)
        | some none => some (if ok then .tuple [zero, .bool false] else zero, H)
        | none => none
      | _ => none
    | .nilmap => some (if ok then .tuple [zero, .bool false] else zero, H)
    | _ => none
def opUpdate (g : Bool) (ks : List SK) (m k v : AV) (H : AH) : ORes :=
  match m with
  | .map b =>
    match eqFlatA g ks k k with
    | some true =>
      match H.get b with
      | some (.map es) => match putA g ks k v es with
        | some es' => some (.tuple [], H.set b (.map es'))
        | none => none
      | _ => none
    | _ => none
  | _ => none
def opRangeStr (v : AV) (H : AH) : ORes :=
  match v with
  | .str s => some (.ptr H.next 0, H.alloc (.strIter s 0))
  | _ => none
def opNextStr (v : AV) (H : AH) : ORes :=
  match v with
  | .ptr b 0 =>
    match H.get b with
    | some (.strIter s pos) =>
      if pos < s.size then
        some (.tuple [.bool true, .int .i64 pos, .int .i32 (Utf8.decode s pos).1], H.set b (.strIter s (pos + (Utf8.decode s pos).2)))
      else some (.tuple [.bool false], H)
    | _ => none
  | _ => none
def opExtract (i : Nat) (v : AV) (H : AH) : ORes :=
  match v with
  | .tuple vs => pureV H vs[i]?
  | _ => none
def opLen (isStr : Bool) (v : AV) (H : AH) : ORes :=
  match isStr, v with
  | true, .str s => some (.int .i64 s.size, H)
  | false, .slice _ _ len _ => some (.int .i64 len, H)
  | false, .nilslice => some (.int .i64 0, H)
  | _, _ => none
def opLenMap (v : AV) (H : AH) : ORes :=
  match v with
  | .nilmap => some (.int .i64 0, H)
  | .map b => match H.get b with
    | some (.map es) => some (.int .i64 es.length, H)
    | _ => none
  | _ => none
def optVal (e : Env) : Option AOpd → Option (Option AV)
  | none => some none
  | some x => match x.val e with
    | some v => some (some v)
    | none => none
def withO (x : Option (Option AV)) (f : Option AV → ORes) : ORes :=
  match x with
  | some v => f v
  | none => none
def aop (call : ACall) (e : Env) (H : AH) : AOp → ORes
  | .move x => pureV H (x.val e)
  | .pick c a b => with1 (c.val e) fun c => with1 (a.val e) fun a => with1 (b.val e) fun b => opPick c a b H
  | .alloc zero => opAlloc zero H
  | .box x => with1 (x.val e) fun v => opBox v H
  | .build zero parts => withP (partVals e parts) fun ps => opBuild zero ps H
  | .mkslice len sz zero parts => withP (partVals e parts) fun ps => opMkslice len sz zero ps H
  | .load a => with1 (a.val e) fun v => opLoad v H
  | .loadN n a => with1 (a.val e) fun v => opLoadN n v H
  | .store n a x => with1 (a.val e) fun a => with1 (x.val e) fun v => opStore n a v H
  | .nilCheck x => with1 (x.val e) fun v => opNilCheck v H
  | .bin op x y => with1 (x.val e) fun v => with1 (y.val e) fun u => pureV H (binA op v u)
  | .eqFlat g ks neg x y => with1 (x.val e) fun v => with1 (y.val e) fun u => boolOf H neg (eqFlatA g ks v u)
  | .eqNil k neg x y => with1 (x.val e) fun v => with1 (y.val e) fun u => boolOf H neg (eqNilA k v u)
  | .un op x => with1 (x.val e) fun v => opUn op v H
  | .toInt k x => with1 (x.val e) fun v => opToInt k v H
  | .strId x => with1 (x.val e) fun v => opStrId v H
  | .func f first captured => withL (vals e first) fun a => withL (vals e captured) fun b => some (.func f a b, H)
  | .makeMap => some (.map H.next, H.alloc (.map []))
  | .makeSlice sz bytes zero len cap => with1 (len.val e) fun l => with1 (cap.val e) fun c => opMakeSlice sz bytes zero l c H
  | .sliceStr x lo hi => with1 (x.val e) fun v => withO (optVal e lo) fun lo => withO (optVal e hi) fun hi => opSliceStr v lo hi H
  | .sliceSl sz x lo hi => with1 (x.val e) fun v => withO (optVal e lo) fun lo => withO (optVal e hi) fun hi => opSliceSl sz v lo hi H
  | .sliceArr n sz x lo hi => with1 (x.val e) fun v => withO (optVal e lo) fun lo => withO (optVal e hi) fun hi => opSliceArr n sz v lo hi H
  | .off n x => with1 (x.val e) fun v => opOff n v H
  | .idxSl sz x i => with1 (x.val e) fun v => with1 (i.val e) fun i => opIdxSl sz v i H
  | .idxArr len sz x i => with1 (x.val e) fun v => with1 (i.val e) fun i => opIdxArr len sz v i H
  | .part o x => with1 (x.val e) fun v => opPart o v H
  | .partN o n x => with1 (x.val e) fun v => opPartN o n v H
  | .at len sz g x i => with1 (x.val e) fun v => with1 (i.val e) fun i => opAt len sz g v i H
  | .byteAt x i => with1 (x.val e) fun v => with1 (i.val e) fun i => opByteAt v i H
  | .lookup g ks zero ok m k => with1 (m.val e) fun m => with1 (k.val e) fun k => opLookup g ks zero ok m k H
  | .update g ks m k v => with1 (m.val e) fun m => with1 (k.val e) fun k => with1 (v.val e) fun v => opUpdate g ks m k v H
  | .rangeStr x => with1 (x.val e) fun v => opRangeStr v H
  | .nextStr x => with1 (x.val e) fun v => opNextStr v H
  | .extract i x => with1 (x.val e) fun v => opExtract i v H
  | .call f args => with1 (f.val e) fun f => withL (vals e args) fun vs => call f vs H
  | .len s x => with1 (x.val e) fun v => opLen s v H
  | .lenMap x => with1 (x.val e) fun v => opLenMap v H
  | .append sz bytes s x => with1 (s.val e) fun s => with1 (x.val e) fun x => appendA H sz bytes s x
  | .copy sz d s => with1 (d.val e) fun d => with1 (s.val e) fun s => copyA H sz d s
  | .maxInt x xs => with1 (x.val e) fun v => withL (vals e xs) fun vs => pureV H (max2A v vs)
  | .minInt x xs => with1 (x.val e) fun v => withL (vals e xs) fun vs => pureV H (min2A v vs)
inductive Cls where
  | pure | load | alloc | eff
  deriving DecidableEq, Inhabited
def AOp.cls : AOp → Cls
  | .load _ | .loadN _ _ | .lookup _ _ _ _ _ _ | .lenMap _ | .sliceArr _ _ _ _ _ => .load
  | .alloc _ | .box _ | .mkslice _ _ _ _ | .makeMap | .makeSlice _ _ _ _ _ => .alloc
  | .store _ _ _ | .call _ _ | .append _ _ _ _ | .copy _ _ _ | .update _ _ _ _ _ | .rangeStr _ | .nextStr _ => .eff
  | _ => .pure
def AOper.wanted (o : AOper) (e : Env) : Option Bool :=
  match o.guard with
  | none => some true
  | some (t, want) => match e.get t with
    | some (.bool b) => some (b == want)
    | some (.tuple []) => some false
    | _ => none
def putDst (e : Env) (dst : Option Nat) (v : AV) : Env :=
  match dst with
  | some t => e.put t v
  | none => e
def aops (call : ACall) : List AOper → Env → AH → Option (Env × AH)
  | [], e, H => some (e, H)
  | o :: os, e, H =>
    match o.wanted e with
    | some true =>
      match aop call e H o.op with
      | some (v, H') => aops call os (putDst e o.dst v) H'
      | none => none
    | some false => aops call os (putDst e o.dst (.tuple [])) H
    | none => none
mutual
def eqA : AV → AV → Bool
  | .bool a, .bool b => a == b
  | .int j a, .int k b => decide (j = k) && decide (a = b)
  | .str a, .str b => decide (a.data.toList = b.data.toList)
  | .ptr a i, .ptr b j => decide (a = b) && decide (i = j)
  | .nilptr, .nilptr => true
  | .slice a i l z, .slice b j m y => decide (a = b) && decide (i = j) && decide (l = m) && decide (z = y)
  | .nilslice, .nilslice => true
  | .map a, .map b => decide (a = b)
  | .nilmap, .nilmap => true
  | .func f a b, .func g c d => decide (f = g) && eqAs a c && eqAs b d
  | .yield a, .yield b => decide (a = b)
  | .nilfunc, .nilfunc => true
  | .iface t v, .iface u w => decide (t = u) && eqA v w
  | .niliface, .niliface => true
  | .agg a, .agg b => eqAs a b
  | .tuple a, .tuple b => eqAs a b
  | _, _ => false
def eqAs : List AV → List AV → Bool
  | [], [] => true
  | a :: as, b :: bs => eqA a b && eqAs as bs
  | _, _ => false
end
mutual
theorem eqA_eq : ∀ {a b : AV}, eqA a b = true → a = b
  | .bool a, b, h => by cases b <;> simp_all [eqA]
  | .int j a, b, h => by cases b <;> simp_all [eqA]
  | .str a, b, h => by
    cases b <;> simp only [eqA, Bool.false_eq_true] at h
    rename_i b
    obtain ⟨⟨a⟩⟩ := a
    obtain ⟨⟨b⟩⟩ := b
    simp at h
    rw [h]
  | .ptr a i, b, h => by cases b <;> simp_all [eqA]
  | .nilptr, b, h => by cases b <;> simp_all [eqA]
  | .slice a i l z, b, h => by cases b <;> simp_all [eqA]
  | .nilslice, b, h => by cases b <;> simp_all [eqA]
  | .map a, b, h => by cases b <;> simp_all [eqA]
  | .nilmap, b, h => by cases b <;> simp_all [eqA]
  | .func f a c, b, h => by
    cases b <;> simp only [eqA, Bool.false_eq_true, Bool.and_eq_true, decide_eq_true_eq] at h
    obtain ⟨⟨rfl, h1⟩, h2⟩ := h
    rw [eqAs_eq h1, eqAs_eq h2]
  | .yield a, b, h => by cases b <;> simp_all [eqA]
  | .nilfunc, b, h => by cases b <;> simp_all [eqA]
  | .iface t v, b, h => by
    cases b <;> simp only [eqA, Bool.false_eq_true, Bool.and_eq_true, decide_eq_true_eq] at h
    obtain ⟨rfl, h1⟩ := h
    rw [eqA_eq h1]
  | .niliface, b, h => by cases b <;> simp_all [eqA]
  | .agg a, b, h => by
    cases b <;> simp only [eqA, Bool.false_eq_true] at h
    rw [eqAs_eq h]
  | .tuple a, b, h => by
    cases b <;> simp only [eqA, Bool.false_eq_true] at h
    rw [eqAs_eq h]
theorem eqAs_eq : ∀ {a b : List AV}, eqAs a b = true → a = b
  | [], b, h => by cases b <;> simp_all [eqAs]
  | a :: as, b, h => by
    cases b <;> simp only [eqAs, Bool.false_eq_true, Bool.and_eq_true] at h
    rw [eqA_eq h.1, eqAs_eq h.2]
end
mutual
theorem eqA_refl : ∀ (a : AV), eqA a a = true
  | .bool a | .int _ _ | .str _ | .ptr _ _ | .nilptr | .slice _ _ _ _ | .nilslice | .map _ | .nilmap | .yield _ | .nilfunc | .niliface => by simp [eqA]
  | .func f a c => by simp [eqA, eqAs_refl a, eqAs_refl c]
  | .iface t v => by simp [eqA, eqA_refl v]
  | .agg a => by simp [eqA, eqAs_refl a]
  | .tuple a => by simp [eqA, eqAs_refl a]
theorem eqAs_refl : ∀ (a : List AV), eqAs a a = true
  | [] => by simp [eqAs]
  | a :: as => by simp [eqAs, eqA_refl a, eqAs_refl as]
end
structure Step where
  o : AOper
  env : Env
  want : Bool
  v : AV
  before : AH
  after : AH
def aopsT (call : ACall) : List AOper → Env → AH → Option (List Step × Env × AH)
  | [], e, H => some ([], e, H)
  | o :: os, e, H =>
    match o.wanted e with
    | some true =>
      match aop call e H o.op with
      | some (v, H') => match aopsT call os (putDst e o.dst v) H' with
        | some (l, r) => some (⟨o, e, true, v, H, H'⟩ :: l, r)
        | none => none
      | none => none
    | some false => match aopsT call os (putDst e o.dst (.tuple [])) H with
      | some (l, r) => some (⟨o, e, false, .tuple [], H, H⟩ :: l, r)
      | none => none
    | none => none
def AOper.isEff (o : AOper) : Bool := decide (o.op.cls = .eff)
def admits (o : AOper) (over todo : List AOper) : Bool :=
  (todo.all fun e => !hasNat o.pre e.id) && (over.all fun e => !hasNat e.pre o.id)
def stableIn (call : ACall) (S : AH) (over todo : List AOper) (s : Step) : Bool :=
  if s.want && decide (s.o.op.cls = .load) && admits s.o over todo then
    match aop call s.env S s.o.op with
    | some (v, _) => eqA v s.v
    | none => false
  else true
def stable (call : ACall) (all : List Step) : List AOper → List Step → AH → Bool
  | over, [], last => all.all (stableIn call last over [])
  | over, s :: ss, last =>
    if s.o.isEff then all.all (stableIn call s.before over (s.o :: (ss.filter (·.o.isEff)).map (·.o))) && stable call all (over ++ [s.o]) ss last
    else stable call all over ss last
def adraw (call : ACall) (ops : List AOper) (e : Env) (H : AH) : Option (Env × AH) :=
  match aopsT call ops e H with
  | some (l, e', H') => if stable call l [] l H' then some (e', H') else none
  | none => none
abbrev CRes := Option (AExit × Env × AH)
def aloop : Nat → (Env → AH → CRes) → Env → AH → CRes
  | 0, _, _, _ => none
  | k + 1, f, e, H =>
    match f e H with
    | some (.normal, e', H') => aloop k f e' H'
    | r => r
def code (call : ACall) (k : Nat) : ACode → Env → AH → CRes
  | .skip, e, H => some (.normal, e, H)
  | .reg ops kp, e, H =>
    match aops call ops e H with
    | some (e', H') => some (.normal, e'.keep kp, H')
    | none => none
  | .draw ops kp, e, H =>
    match adraw call ops e H with
    | some (e', H') => some (.normal, e'.keep kp, H')
    | none => none
  | .seq a b, e, H =>
    match code call k a e H with
    | some (.normal, e', H') => code call k b e' H'
    | r => r
  | .cond c a b, e, H =>
    match c.val e with
    | some (.bool t) => if t then code call k a e H else code call k b e H
    | _ => none
  | .block id body, e, H =>
    match code call k body e H with
    | some (.exit i, e', H') => if i = id then some (.normal, e', H') else some (.exit i, e', H')
    | r => r
  | .loop body, e, H => aloop k (code call k body) e H
  | .range f params assign body, e, H =>
    match f.val e with
    | some (.func g first captured) =>
      match call (.func g first captured) [.yield H.next] (H.alloc (.loop { state := .ready, pending := .normal, env := e, params, assign, body })) with
      | some (_, H2) =>
        match H2.get H.next with
        | some (.loop L) => if L.state = .busy then none else some (L.pending, e, H2.set H.next (.loop { L with state := .over }))
        | _ => none
      | none => none
    | _ => none
  | .exit id, e, H => some (.exit id, e, H)
  | .ret, e, H => some (.ret, e, H)
inductive ARes where
  | slot (t : Nat)
  | cell (a : Nat)
  | cellN (n a : Nat)
  deriving Inhabited
structure AFunc where
  nt : Nat
  body : ACode
  res : List ARes
  deriving Inhabited
def resVals (e : Env) (H : AH) : List ARes → Option (List AV)
  | [] => some []
  | r :: rs =>
    let v := match r with
      | .slot t => e.get t
      | .cell a => match e.get a with
        | some (.ptr b i) => H.read1 b i
        | _ => none
      | .cellN n a => match e.get a with
        | some (.ptr b i) => match H.read b i n with
          | some cs => some (.agg cs)
          | none => none
        | _ => none
    match v with
    | some v => match resVals e H rs with
      | some vs => some (v :: vs)
      | none => none
    | none => none
def oneOf : List AV → AV
  | [v] => v
  | vs => .tuple vs
def envFrom : Nat → List AV → Env
  | _, [] => []
  | i, v :: vs => (i, v) :: envFrom (i + 1) vs
def bindAll (e : Env) : List Nat → List AV → Env
  | t :: ts, v :: vs => bindAll (e.put t v) ts vs
  | _, _ => e
def acallv (P : Nat → Option AFunc) : Nat → ACall
  | 0, _, _, _ => none
  | n + 1, .func f first captured, args, H =>
    match P f with
    | some fn =>
      if (first ++ args ++ captured).length ≤ fn.nt then
        match code (acallv P n) n fn.body (envFrom 0 (first ++ args ++ captured)) H with
        | some (.normal, e, H') => match resVals e H' fn.res with
          | some vs => some (oneOf vs, H')
          | none => none
        | some (.ret, e, H') => match resVals e H' fn.res with
          | some vs => some (oneOf vs, H')
          | none => none
        | _ => none
      else none
    | none => none
  | n + 1, .yield l, args, H =>
    match H.get l with
    | some (.loop L) =>
      if args.length = L.params.length then
        match code (acallv P n) n L.assign (bindAll L.env L.params args) H with
        | some (.normal, e1, H1) =>
          match H1.get l with
          | some (.loop L1) =>
            if L1.state = .ready then
              match code (acallv P n) n L.body e1 (H1.set l (.loop { L1 with state := .busy })) with
              | some (.normal, _, H2) => match H2.get l with
                | some (.loop L2) => some (.bool true, H2.set l (.loop { L2 with state := .ready, pending := .normal }))
                | _ => none
              | some (x, _, H2) => match H2.get l with
                | some (.loop L2) => some (.bool false, H2.set l (.loop { L2 with state := .done, pending := x }))
                | _ => none
              | none => none
            else none
          | _ => none
        | _ => none
      else none
    | _ => none
  | _ + 1, _, _, _ => none
end Go.AM
namespace Go.AM
def cvs : Value → Option AV
  | .bool b => some (.bool b)
  | .int k n => some (.int k n)
  | .string s => some (.str s)
  | .pointer none => some .nilptr
  | .slice none 0 0 => some .nilslice
  | .map none => some .nilmap
  | .nilFunc => some .nilfunc
  | .nilIface => some .niliface
  | _ => none
def cvl : List Value → Option (List AV)
  | [] => some []
  | v :: vs => match cvs v with
    | some a => match cvl vs with
      | some l => some (a :: l)
      | none => none
    | none => none
def cv : Value → Option AV
  | .agg cs => (cvl cs.toList).map .agg
  | v => cvs v
def cOpd (nt : Nat) : Operand → Option AOpd
  | .tmp t => if t < nt then some (.s t) else none
  | .const v => (cv v).map .c
  | .func f => some (.c (.func f [] []))
  | .global _ => none
def cOpds (nt : Nat) : List Operand → Option (List AOpd)
  | [] => some []
  | x :: xs => match cOpd nt x with
    | some a => match cOpds nt xs with
      | some l => some (a :: l)
      | none => none
    | none => none
def cOpt (nt : Nat) : Option Operand → Option (Option AOpd)
  | none => some none
  | some x => (cOpd nt x).map some
def sizeT (P : Program) (t : TypeId) : Option Nat := (P.info? t).map (·.size)
def bytesT (P : Program) (t : TypeId) : Option Nat := (P.info? t).map (·.bytes)
def zeroT (P : Program) (t : TypeId) : Option Value := (P.info? t).bind (·.zero)
def zeroL (P : Program) (t : TypeId) : Option (List AV) := (zeroT P t).bind fun v => cvl v.cells.toList
def aggT (P : Program) (t : TypeId) : Option Bool :=
  match P.underlying t with
  | some (.struct _) | some (.array _ _) => some true
  | some _ => some false
  | none => none
def kindsFs (P : Program) (f : TypeId → Option (List SK)) : List Field → Nat → Nat → Option (List SK)
  | [], o, n => if o = n then some [] else none
  | x :: fs, o, n =>
    match sizeT P x.type, f x.type with
    | some z, some ks =>
      if x.name != "_" ∧ x.offset = o then
        match kindsFs P f fs (o + z) n with
        | some l => some (ks ++ l)
        | none => none
      else none
    | _, _ => none
def repeatK (ks : List SK) : Nat → List SK
  | 0 => []
  | n + 1 => ks ++ repeatK ks n
def kindsT (P : Program) : Nat → TypeId → Option (List SK)
  | 0, _ => none
  | d + 1, t =>
    match P.underlying t, sizeT P t with
    | some (.int _), some 1 => some [.i]
    | some .bool, some 1 => some [.b]
    | some .string, some 1 => some [.s]
    | some (.struct fs), some n => if P.stoodInHeld t then none else kindsFs P (kindsT P d) fs.toList 0 n
    | some (.array len e), some n =>
      match sizeT P e, kindsT P d e with
      | some z, some ks => if n = len * z then some (repeatK ks len) else none
      | _, _ => none
    | _, _ => none
def cParts (nt : Nat) (place : Nat → Option (Nat × Nat)) : List (Nat × Operand) → Option (List (Nat × Nat × AOpd))
  | [] => some []
  | (i, x) :: ps =>
    match place i, cOpd nt x with
    | some (o, n), some a => match cParts nt place ps with
      | some l => some ((o, n, a) :: l)
      | none => none
    | _, _ => none
def fieldPlaces (P : Program) (fs : Array Field) (i : Nat) : Option (Nat × Nat) :=
  match fs[i]? with
  | some f => (sizeT P f.type).map fun n => (f.offset, n)
  | none => none
def eqDepth : Nat := 20
def cEql (P : Program) (nt : Nat) (op : BinOp) (neg : Bool) (t : TypeId) (x y : Operand) : Option AOp :=
  match cOpd nt x, cOpd nt y with
  | some a, some b =>
    match P.underlying t with
    | some (.int _) | some .string => some (.bin op a b)
    | some .bool => (kindsT P eqDepth t).map fun ks => .eqFlat false ks neg a b
    | some (.struct _) | some (.array _ _) =>
      if P.eqGuardType P.depth t then none else (kindsT P eqDepth t).map fun ks => .eqFlat true ks neg a b
    | some (.pointer _) => some (.eqNil .ptr neg a b)
    | some (.slice _) => some (.eqNil .slice neg a b)
    | some (.map _ _) => some (.eqNil .map neg a b)
    | some (.func _ _ _) => some (.eqNil .func neg a b)
    | _ => none
  | _, _ => none
def cBuiltin (P : Program) (nt : Nat) (b : Builtin) (argTypes : Array TypeId) (args : List Operand) : Option AOp :=
  match b, cOpds nt args with
  | .len, some [x] =>
    match argTypes[0]? with
    | some t =>
      match P.underlying t with
      | some .string => some (.len true x)
      | some (.slice _) => some (.len false x)
      | some (.array n _) => some (.move (.c (.int .i64 n)))
      | some (.map _ _) => some (.lenMap x)
      | _ => none
    | none => none
  | .append, some [s, x] =>
    match argTypes[0]?, argTypes[1]? with
    | some t, some u =>
      match P.underlying t, P.underlying u with
      | some (.slice e), some (.slice _) | some (.slice e), some .string =>
        match sizeT P e, bytesT P e, zeroT P e with
        | some z, some by_, some zv => if z = 0 ∨ zv.cells.size ≠ z then none else some (.append z by_ s x)
        | _, _, _ => none
      | _, _ => none
    | _, _ => none
  | .copy, some [d, s] =>
    match argTypes[0]? with
    | some t =>
      match P.underlying t with
      | some (.slice e) => match sizeT P e with
        | some z => if z = 0 then none else some (.copy z d s)
        | none => none
      | _ => none
    | none => none
  | .max, some (x :: xs) => some (.maxInt x xs)
  | .min, some (x :: xs) => some (.minInt x xs)
  | _, _ => none
def cOp (P : Program) (nt : Nat) : Op → Option AOp
  | .move x | .assign x => (cOpd nt x).map .move
  | .pick c a b => match cOpd nt c, cOpd nt a, cOpd nt b with
    | some c, some a, some b => some (.pick c a b)
    | _, _, _ => none
  | .alloc t => (zeroL P t).map .alloc
  | .box _ x => (cOpd nt x).map .box
  | .build t ps =>
    match zeroL P t, P.underlying t with
    | some z, some (.struct fs) => if fs.toList.all fun f => (sizeT P f.type).isSome then (cParts nt (fieldPlaces P fs) ps.toList).map (.build z) else none
    | some z, some (.array _ e) => match sizeT P e with
      | some n => (cParts nt (fun i => some (i * n, n)) ps.toList).map (.build z)
      | none => none
    | _, _ => none
  | .buildSlice t len ps =>
    match P.underlying t with
    | some (.slice e) =>
      match sizeT P e, zeroL P e with
      | some n, some z =>
        if z.length = n ∧ 0 < n ∧ len * n ≤ 2 ^ 24 then (cParts nt (fun i => some (i * n, n)) ps.toList).map (.mkslice len n (repeatL z len)) else none
      | _, _ => none
    | _ => none
  | .load t a =>
    match aggT P t, sizeT P t, cOpd nt a with
    | some true, some n, some a => some (.loadN n a)
    | some false, _, some a => some (.load a)
    | _, _, _ => none
  | .store t a x =>
    match sizeT P t, cOpd nt a, cOpd nt x with
    | some n, some a, some x => some (.store n a x)
    | _, _, _ => none
  | .nilCheck x => (cOpd nt x).map .nilCheck
  | .binOp .eql t x y _ => cEql P nt .eql false t x y
  | .binOp .neq t x y _ => cEql P nt .neq true t x y
  | .binOp op _ x y _ => match cOpd nt x, cOpd nt y with
    | some a, some b => some (.bin op a b)
    | _, _ => none
  | .unOp op _ x => (cOpd nt x).map (.un op)
  | .convert src dst x =>
    match P.underlying src, P.underlying dst, cOpd nt x with
    | some (.int _), some (.int k), some a => some (.toInt k a)
    | some .string, some .string, some a => some (.strId a)
    | _, _, _ => none
  | .makeFunc (.func f) first captured => match cOpds nt first.toList, cOpds nt captured.toList with
    | some a, some b => some (.func f a b)
    | _, _ => none
  | .makeMap _ none => some .makeMap
  | .makeSlice t l c =>
    match P.underlying t with
    | some (.slice e) =>
      match sizeT P e, bytesT P e, zeroL P e, cOpd nt l, cOpd nt c with
      | some n, some by_, some z, some l, some c => if z.length = n ∧ 0 < n then some (.makeSlice n by_ z l c) else none
      | _, _, _, _, _ => none
    | _ => none
  | .slice t x lo hi none =>
    match P.underlying t, cOpd nt x, cOpt nt lo, cOpt nt hi with
    | some .string, some x, some lo, some hi => some (.sliceStr x lo hi)
    | some (.slice e), some x, some lo, some hi => (sizeT P e).map fun n => .sliceSl n x lo hi
    | some (.array len e), some x, some lo, some hi => (sizeT P e).map fun n => .sliceArr len n x lo hi
    | _, _, _, _ => none
  | .fieldAddr s x f =>
    match P.underlying s, cOpd nt x with
    | some (.struct fs), some x => match fs[f]? with
      | some f => match sizeT P f.type with
        | some n => if n = 0 then none else some (.off f.offset x)
        | none => none
      | none => none
    | _, _ => none
  | .field t x f =>
    match P.underlying t, cOpd nt x with
    | some (.struct fs), some x => match fs[f]? with
      | some f => match aggT P f.type, sizeT P f.type with
        | some true, some n => some (.partN f.offset n x)
        | some false, _ => some (.part f.offset x)
        | _, _ => none
      | none => none
    | _, _ => none
  | .indexAddr t x i =>
    match P.underlying t, cOpd nt x, cOpd nt i with
    | some (.slice e), some x, some i => (sizeT P e).map fun n => .idxSl n x i
    | some (.array len e), some x, some i => (sizeT P e).map fun n => .idxArr len n x i
    | _, _, _ => none
  | .index t x i =>
    match P.underlying t, cOpd nt x, cOpd nt i with
    | some .string, some x, some i => some (.byteAt x i)
    | some (.array len e), some x, some i => match sizeT P e, aggT P e with
      | some n, some g => some (.at len n g x i)
      | _, _ => none
    | _, _, _ => none
  | .lookup t m k ok =>
    match P.underlying t, cOpd nt m, cOpd nt k with
    | some (.map kt e), some m, some k => match kindsT P eqDepth kt, (zeroT P e).bind cv, aggT P kt with
      | some ks, some z, some g => some (.lookup g ks z ok m k)
      | _, _, _ => none
    | _, _, _ => none
  | .mapUpdate t m k v =>
    match P.underlying t, cOpd nt m, cOpd nt k, cOpd nt v with
    | some (.map kt _), some m, some k, some v => match kindsT P eqDepth kt, aggT P kt with
      | some ks, some g => some (.update g ks m k v)
      | _, _ => none
    | _, _, _, _ => none
  | .range t x =>
    match P.underlying t, cOpd nt x with
    | some .string, some x => some (.rangeStr x)
    | _, _ => none
  | .next it true => (cOpd nt it).map .nextStr
  | .extract x i => (cOpd nt x).map (.extract i)
  | .call c =>
    match c.callee with
    | .value f => match cOpd nt f, cOpds nt c.args.toList with
      | some f, some as => some (.call f as)
      | _, _ => none
    | .builtin b => cBuiltin P nt b c.argTypes c.args.toList
    | _ => none
  | _ => none
def cDst (nt : Nat) : Option Nat → Bool
  | none => true
  | some t => decide (t < nt)
def cOper (P : Program) (nt : Nat) (ops : Array Oper) (id : Nat) (pre : List Nat) (o : Oper) : Option AOper :=
  match cOp P nt o.op with
  | some op =>
    if cDst nt o.dst then
      match o.guard with
      | none => some { dst := o.dst, op, guard := none, id, pre }
      | some (j, want) => match (ops[j]?).bind (·.dst) with
        | some t => if t < nt then some { dst := o.dst, op, guard := some (t, want), id, pre } else none
        | none => none
    else none
  | none => none
def cOpers (P : Program) (nt : Nat) (ops : Array Oper) : Nat → List Oper → Option (List AOper)
  | _, [] => some []
  | i, o :: os => match cOper P nt ops i [] o with
    | some a => match cOpers P nt ops (i + 1) os with
      | some l => some (a :: l)
      | none => none
    | none => none
def insNat (x : Nat) (l : List Nat) : List Nat := if hasNat l x then l else x :: l
def befores (ops : List Oper) : List (List Nat) :=
  (ops.foldl (fun (acc : List (List Nat)) o =>
    (o.after.toList.foldl (fun l e => if Region.binds .any e then (insNat e.on (((acc.reverse)[e.on]?).getD [])).foldl (fun l x => insNat x l) l else l) []) :: acc) []).reverse
def canonGo (bs : List (List Nat)) (eff : List Bool) : Nat → List Nat → List Nat → List Nat
  | 0, _, acc => acc.reverse
  | f + 1, todo, acc =>
    let ready := todo.filter fun i => ((bs[i]?).getD []).all fun j => hasNat acc j
    match ready.find? fun i => !((eff[i]?).getD true) with
    | some i => canonGo bs eff f (todo.filter (· != i)) (i :: acc)
    | none => match ready with
      | i :: _ => canonGo bs eff f (todo.filter (· != i)) (i :: acc)
      | [] => acc.reverse
def AOpd.reads : AOpd → List Nat
  | .s t => [t]
  | .c _ => []
def readsL : List AOpd → List Nat
  | [] => []
  | x :: xs => x.reads ++ readsL xs
def readsO : Option AOpd → List Nat
  | none => []
  | some x => x.reads
def readsP : List (Nat × Nat × AOpd) → List Nat
  | [] => []
  | (_, _, x) :: xs => x.reads ++ readsP xs
def AOp.reads : AOp → List Nat
  | .move x | .box x | .load x | .loadN _ x | .nilCheck x | .un _ x | .toInt _ x | .strId x | .off _ x | .part _ x | .partN _ _ x
  | .rangeStr x | .nextStr x | .extract _ x | .len _ x | .lenMap x => x.reads
  | .pick c a b => c.reads ++ (a.reads ++ b.reads)
  | .alloc _ | .makeMap => []
  | .build _ ps | .mkslice _ _ _ ps => readsP ps
  | .store _ a x | .bin _ a x | .eqFlat _ _ _ a x | .eqNil _ _ a x | .idxSl _ a x | .idxArr _ _ a x | .at _ _ _ a x | .byteAt a x | .lookup _ _ _ _ a x | .append _ _ a x | .copy _ a x => a.reads ++ x.reads
  | .makeSlice _ _ _ a x => a.reads ++ x.reads
  | .func _ a b => readsL a ++ readsL b
  | .sliceStr x lo hi | .sliceSl _ x lo hi | .sliceArr _ _ x lo hi => x.reads ++ (readsO lo ++ readsO hi)
  | .update _ _ a b c => a.reads ++ (b.reads ++ c.reads)
  | .call f xs | .maxInt f xs | .minInt f xs => f.reads ++ readsL xs
def AOper.reads (o : AOper) : List Nat :=
  match o.guard with
  | none => o.op.reads
  | some (t, _) => t :: o.op.reads
def clash (a b : AOper) : Bool :=
  (match a.dst with
   | some t => hasNat b.reads t || decide (b.dst = some t)
   | none => false) ||
  (match b.dst with
   | some t => hasNat a.reads t
   | none => false)
def pairOk (a b : AOper) : Bool :=
  hasNat b.pre a.id || (!clash a b && !(a.isEff && (b.isEff || decide (b.op.cls = .alloc))))
def pairsOk : List AOper → Bool
  | [] => true
  | a :: as => as.all (pairOk a) && pairsOk as
def cDraw (P : Program) (nt : Nat) (ops : Array Oper) : Option (List AOper) :=
  let bs := befores ops.toList
  let eff := ops.toList.map fun o => match cOp P nt o.op with
    | some op => decide (op.cls = .eff)
    | none => true
  let order := canonGo bs eff ops.size (List.range ops.size) []
  let l := order.map fun i => (ops[i]?).bind fun o => cOper P nt ops i ((bs[i]?).getD []) o
  if l.all (·.isSome) then some (l.filterMap id) else none
def nodupN : List Nat → Bool
  | [] => true
  | x :: xs => !hasNat xs x && nodupN xs
def edgesOk (ops : Array Oper) : List AOper → List Nat → Bool
  | [], _ => true
  | a :: as, seen => (match ops[a.id]? with
      | some o => o.after.toList.all fun e => !Region.binds .any e || hasNat seen e.on
      | none => false) && edgesOk ops as (a.id :: seen)
def drawOk (ops : Array Oper) (l : List AOper) : Bool :=
  ((List.range ops.size).all fun i => l.any fun a => decide (a.id = i)) && nodupN (l.map (·.id)) && edgesOk ops l [] &&
  (l.all fun a => match ops[a.id]? with
    | some o => a.pre.all fun k => o.after.toList.any fun e => Region.binds .any e && (decide (e.on = k) || l.any fun b => decide (b.id = e.on) && hasNat b.pre k)
    | none => false) &&
  pairsOk l
def cCode (P : Program) (nt : Nat) (kp : List Nat) : Code → Option ACode
  | .skip => some .skip
  | .label _ => some .skip
  | .region _ ops false => (cOpers P nt ops 0 ops.toList).map (.reg · kp)
  | .region _ ops true => match cDraw P nt ops with
    | some l => if drawOk ops l then some (.draw l kp) else none
    | none => none
  | .seq a b => match cCode P nt kp a, cCode P nt kp b with
    | some a, some b => some (.seq a b)
    | _, _ => none
  | .cond c a b => match cOpd nt c, cCode P nt kp a, cCode P nt kp b with
    | some c, some a, some b => some (.cond c a b)
    | _, _, _ => none
  | .block id a => (cCode P nt kp a).map (.block id)
  | .loop a => (cCode P nt kp a).map .loop
  | .scope a => cCode P nt kp a
  | .rangeFunc f ps a b => match cOpd nt f, cCode P nt kp a, cCode P nt kp b with
    | some f, some a, some b => if ps.all (· < nt) then some (.range f ps.toList a b) else none
    | _, _, _ => none
  | .exit id => some (.exit id)
  | .ret => some .ret
  | _ => none
def cRes (P : Program) (nt : Nat) : List ResultVar → Option (List ARes)
  | [] => some []
  | .tmp t :: rs => if t < nt then (cRes P nt rs).map (.slot t :: ·) else none
  | .cell a t :: rs =>
    if a < nt then match aggT P t, sizeT P t with
      | some true, some n => (cRes P nt rs).map (.cellN n a :: ·)
      | some false, _ => (cRes P nt rs).map (.cell a :: ·)
      | _, _ => none
    else none
def opdSlots : Operand → List Nat
  | .tmp t => [t]
  | _ => []
def exposed (ops : Array Oper) : List Oper → List Nat → List Nat → List Nat
  | [], _, acc => acc
  | o :: os, defd, acc =>
    let rs := o.op.operands.toList.flatMap opdSlots ++ (match o.guard with
      | some (j, _) => ((ops[j]?).bind (·.dst)).toList
      | none => [])
    let acc := rs.foldl (fun acc t => if hasNat defd t then acc else insNat t acc) acc
    exposed ops os (match o.dst with
      | some t => insNat t defd
      | none => defd) acc
def livesC : Code → List Nat → List Nat
  | .region _ ops _, acc => exposed ops ops.toList [] acc
  | .seq a b, acc => livesC b (livesC a acc)
  | .cond c a b, acc => livesC b (livesC a ((opdSlots c).foldl (fun acc t => insNat t acc) acc))
  | .block _ a, acc | .loop a, acc | .scope a, acc => livesC a acc
  | .rangeFunc f _ a b, acc => livesC b (livesC a ((opdSlots f).foldl (fun acc t => insNat t acc) acc))
  | _, acc => acc
def insSorted (x : Nat) : List Nat → List Nat
  | [] => [x]
  | y :: ys => if x ≤ y then x :: y :: ys else y :: insSorted x ys
def sortNat : List Nat → List Nat
  | [] => []
  | x :: xs => insSorted x (sortNat xs)
def keepOf (fn : Func) (c : Code) : List Nat :=
  sortNat (fn.results.toList.foldl (fun acc r => match r with
    | .tmp t => insNat t acc
    | .cell a _ => insNat a acc) (livesC c []))
def cFunc (P : Program) (fn : Func) : Option AFunc :=
  match fn.body with
  | some c => match cCode P fn.ntmps (keepOf fn c) c, cRes P fn.ntmps fn.results.toList with
    | some b, some r => some { nt := fn.ntmps, body := b, res := r }
    | _, _ => none
  | none => none
end Go.AM
namespace Go.AM
abbrev CM := Nat → Option (Nat × Nat × Nat)
mutual
inductive VR (m : CM) : AV → Value → Prop where
  | bool (b : Bool) : VR m (.bool b) (.bool b)
  | int (k : IntKind) (n : Int) : VR m (.int k n) (.int k n)
  | str (s : ByteArray) : VR m (.str s) (.string s)
  | ptr {b i c o n : Nat} (h : m b = some (c, o, n)) : VR m (.ptr b i) (.pointer (some ⟨c, o + i, none⟩))
  | nilptr : VR m .nilptr (.pointer none)
  | slice {b i len sz c o n cap : Nat} (h : m b = some (c, o, n)) (hl : len ≤ cap) (hc : o + i + cap * sz ≤ n) : VR m (.slice b i len sz) (.slice (some ⟨c, o + i, none⟩) len cap)
  | slice0 {b i sz : Nat} {x : Nat × Nat × Nat} (a : Addr) (h : m b = some x) : VR m (.slice b i 0 sz) (.slice (some a) 0 0)
  | nilslice : VR m .nilslice (.slice none 0 0)
  | map {b c n : Nat} (h : m b = some (c, 0, n)) : VR m (.map b) (.map (some c))
  | nilmap : VR m .nilmap (.map none)
  | func (f : Nat) {xs ys : List AV} {us vs : List Value} (h1 : VRs m xs us) (h2 : VRs m ys vs) : VR m (.func f xs ys) (.func (.func f) ⟨us⟩ ⟨vs⟩)
  | yield {l c n : Nat} (h : m l = some (c, 0, n)) : VR m (.yield l) (.func (.yield c) #[] #[])
  | nilfunc : VR m .nilfunc .nilFunc
  | iface (t : TypeId) {v : AV} {u : Value} (h : VR m v u) : VR m (.iface t v) (.iface t u)
  | niliface : VR m .niliface .nilIface
  | agg {xs : List AV} {us : List Value} (h : VRs m xs us) : VR m (.agg xs) (.agg ⟨us⟩)
  | tuple {xs : List AV} {us : List Value} (h : VRs m xs us) : VR m (.tuple xs) (.tuple ⟨us⟩)
inductive VRs (m : CM) : List AV → List Value → Prop where
  | nil : VRs m [] []
  | cons {x : AV} {u : Value} {xs : List AV} {us : List Value} (h : VR m x u) (t : VRs m xs us) : VRs m (x :: xs) (u :: us)
end
def CM.le (m m' : CM) : Prop := ∀ b x, m b = some x → m' b = some x
theorem leR (m : CM) : CM.le m m := fun _ _ h => h
theorem leT {m m' m'' : CM} (h : CM.le m m') (h' : CM.le m' m'') : CM.le m m'' := fun _ _ hx => h' _ _ (h _ _ hx)
mutual
theorem VR.mono {m m' : CM} (hm : m.le m') : ∀ {v : AV} {u : Value}, VR m v u → VR m' v u
  | _, _, .bool b => .bool b
  | _, _, .int k n => .int k n
  | _, _, .str s => .str s
  | _, _, .ptr h => .ptr (hm _ _ h)
  | _, _, .nilptr => .nilptr
  | _, _, .slice h hl hc => .slice (hm _ _ h) hl hc
  | _, _, .slice0 a h => .slice0 a (hm _ _ h)
  | _, _, .nilslice => .nilslice
  | _, _, .map h => .map (hm _ _ h)
  | _, _, .nilmap => .nilmap
  | _, _, .func f h1 h2 => .func f (VRs.mono hm h1) (VRs.mono hm h2)
  | _, _, .yield h => .yield (hm _ _ h)
  | _, _, .nilfunc => .nilfunc
  | _, _, .iface t h => .iface t (VR.mono hm h)
  | _, _, .niliface => .niliface
  | _, _, .agg h => .agg (VRs.mono hm h)
  | _, _, .tuple h => .tuple (VRs.mono hm h)
theorem VRs.mono {m m' : CM} (hm : m.le m') : ∀ {v : List AV} {u : List Value}, VRs m v u → VRs m' v u
  | _, _, .nil => .nil
  | _, _, .cons h t => .cons (VR.mono hm h) (VRs.mono hm t)
end
theorem VRs.length {m : CM} : ∀ {xs : List AV} {us : List Value}, VRs m xs us → us.length = xs.length
  | _, _, .nil => rfl
  | _, _, .cons _ t => by simp [VRs.length t]
theorem VRs.get {m : CM} : ∀ {xs : List AV} {us : List Value}, VRs m xs us → ∀ (i : Nat) (v : AV), xs[i]? = some v → ∃ u, us[i]? = some u ∧ VR m v u
  | _, _, .nil, i, v, h => by simp at h
  | _, _, .cons h t, 0, v, hv => by simp at hv; subst hv; exact ⟨_, rfl, h⟩
  | _, _, .cons h t, i + 1, v, hv => by
    obtain ⟨u, h1, h2⟩ := VRs.get t i v (by simpa using hv)
    exact ⟨u, by simpa using h1, h2⟩
theorem VRs.of_get {m : CM} : ∀ {xs : List AV} {us : List Value}, us.length = xs.length → (∀ (i : Nat) (v : AV), xs[i]? = some v → ∃ u, us[i]? = some u ∧ VR m v u) → VRs m xs us
  | [], [], _, _ => .nil
  | [], _ :: _, h, _ => by simp at h
  | _ :: _, [], h, _ => by simp at h
  | x :: xs, u :: us, h, hg => by
    refine .cons ?_ (VRs.of_get (by simpa using h) fun i v hv => ?_)
    · obtain ⟨u', h1, h2⟩ := hg 0 x (by simp)
      simp at h1; subst h1; exact h2
    · obtain ⟨u', h1, h2⟩ := hg (i + 1) v (by simpa using hv)
      exact ⟨u', by simpa using h1, h2⟩
theorem VRs.append {m : CM} : ∀ {xs ys : List AV} {us vs : List Value}, VRs m xs us → VRs m ys vs → VRs m (xs ++ ys) (us ++ vs)
  | _, _, _, _, .nil, h => h
  | _, _, _, _, .cons h t, h' => .cons h (VRs.append t h')
theorem VRs.take {m : CM} : ∀ (n : Nat) {xs : List AV} {us : List Value}, VRs m xs us → VRs m (xs.take n) (us.take n)
  | 0, _, _, _ => by simpa using VRs.nil
  | _ + 1, _, _, .nil => .nil
  | n + 1, _, _, .cons h t => .cons h (VRs.take n t)
theorem VRs.drop {m : CM} : ∀ (n : Nat) {xs : List AV} {us : List Value}, VRs m xs us → VRs m (xs.drop n) (us.drop n)
  | 0, _, _, h => h
  | _ + 1, _, _, .nil => .nil
  | n + 1, _, _, .cons _ t => VRs.drop n t
theorem cvs_vr {m : CM} : ∀ {v : Value} {a : AV}, cvs v = some a → VR m a v
  | .bool b, a, h => by simp [cvs] at h; subst h; exact .bool b
  | .int k n, a, h => by simp [cvs] at h; subst h; exact .int k n
  | .string s, a, h => by simp [cvs] at h; subst h; exact .str s
  | .pointer none, a, h => by simp [cvs] at h; subst h; exact .nilptr
  | .slice none 0 0, a, h => by simp [cvs] at h; subst h; exact .nilslice
  | .map none, a, h => by simp [cvs] at h; subst h; exact .nilmap
  | .nilFunc, a, h => by simp [cvs] at h; subst h; exact .nilfunc
  | .nilIface, a, h => by simp [cvs] at h; subst h; exact .niliface
  | .float _ _, a, h => by simp [cvs] at h
  | .complex _ _ _, a, h => by simp [cvs] at h
  | .pointer (some _), a, h => by simp [cvs] at h
  | .slice (some _) _ _, a, h => by simp [cvs] at h
  | .slice none (_ + 1) _, a, h => by simp [cvs] at h
  | .slice none 0 (_ + 1), a, h => by simp [cvs] at h
  | .map (some _), a, h => by simp [cvs] at h
  | .chan _, a, h => by simp [cvs] at h
  | .func _ _ _, a, h => by simp [cvs] at h
  | .iface _ _, a, h => by simp [cvs] at h
  | .agg _, a, h => by simp [cvs] at h
  | .tuple _, a, h => by simp [cvs] at h
theorem cvl_vrs {m : CM} : ∀ {vs : List Value} {as : List AV}, cvl vs = some as → VRs m as vs
  | [], as, h => by simp [cvl] at h; subst h; exact .nil
  | v :: vs, as, h => by
    simp only [cvl] at h
    split at h
    · rename_i a ha
      split at h
      · rename_i l hl
        simp at h; subst h
        exact .cons (cvs_vr ha) (cvl_vrs hl)
      · simp at h
    · simp at h
theorem cv_vr {m : CM} {v : Value} {a : AV} (h : cv v = some a) : VR m a v := by
  cases v with
  | agg cs =>
    simp only [cv, Option.map_eq_some_iff] at h
    obtain ⟨l, hl, rfl⟩ := h
    exact .agg (cvl_vrs (vs := cs.toList) hl)
  | _ => exact cvs_vr h
theorem VR.cells {m : CM} {v : AV} {u : Value} (h : VR m v u) {cs : List AV} (hc : v.cells? = some cs) : VRs m cs u.cells.toList := by
  cases h <;> simp [AV.cells?] at hc <;> subst hc <;> first
    | (rename_i h; exact h)
    | (refine .cons ?_ .nil; constructor <;> assumption)
    | exact .cons (.slice0 _ (by assumption)) .nil
    | exact .cons (.ptr (by assumption)) .nil
theorem VR.isCell {m : CM} {v : AV} {u : Value} (h : VR m v u) (hc : v.isCell = true) : u.oneCell' = true := by
  cases h <;> simp_all [AV.isCell, Value.oneCell']
def EnvR (m : CM) (e : Env) (tmps : Array Value) : Prop := ∀ t v, e.get t = some v → t < tmps.size ∧ VR m v (tmps.getD t undef)
theorem EnvR.mono {m m' : CM} (hm : m.le m') {e : Env} {tmps : Array Value} (h : EnvR m e tmps) : EnvR m' e tmps :=
  fun t v hv => ⟨(h t v hv).1, (h t v hv).2.mono hm⟩
theorem Env.get_put (e : Env) (t : Nat) (v : AV) (k : Nat) : (e.put t v).get k = if t = k then some v else e.get k := by
  induction e with
  | nil => simp [Env.put, Env.get]
  | cons p e ih =>
    obtain ⟨k', u⟩ := p
    simp only [Env.put]
    by_cases h1 : k' = t
    · subst h1
      simp only [if_true, Env.get]
      by_cases h2 : k' = k <;> simp [h2]
    · simp only [h1, if_false, Env.get, ih]
      by_cases h2 : k' = k
      · subst h2
        have : ¬ t = k' := fun h => h1 h.symm
        simp [this]
      · simp [h2]
theorem Env.get_keep' (e : Env) (l : List Nat) (k : Nat) : (e.keep l).get k = if hasNat l k then e.get k else none := by
  induction e with
  | nil => simp [Env.keep, Env.get]
  | cons p e ih =>
    obtain ⟨k', u⟩ := p
    simp only [Env.keep]
    by_cases h2 : k' = k
    · subst h2
      by_cases h1 : hasNat l k' = true
      · simp [h1, Env.get]
      · simp only [h1, Bool.false_eq_true, if_false, ih]
    · by_cases h1 : hasNat l k' = true
      · simp only [h1, if_true, Env.get, h2, if_false, ih]
      · simp only [h1, Bool.false_eq_true, if_false, ih, Env.get, h2]
theorem EnvR.keep {m : CM} {e : Env} {tmps : Array Value} (h : EnvR m e tmps) (l : List Nat) : EnvR m (e.keep l) tmps := fun t v hv => by
  rw [Env.get_keep'] at hv
  split at hv
  · exact h t v hv
  · simp at hv
theorem EnvR.put {m : CM} {e : Env} {tmps : Array Value} (h : EnvR m e tmps) {t : Nat} (ht : t < tmps.size) {v : AV} {u : Value} (hv : VR m v u) :
    EnvR m (e.put t v) (tmps.setIfInBounds t u) := fun k w hw => by
  rw [Env.get_put] at hw
  by_cases hk : t = k
  · subst hk
    simp only [if_true, Option.some.injEq] at hw
    subst hw
    refine ⟨by simpa using ht, ?_⟩
    simp [Array.getD, ht, hv]
  · simp only [hk, if_false] at hw
    obtain ⟨h1, h2⟩ := h k w hw
    refine ⟨by simpa using h1, ?_⟩
    have : (tmps.setIfInBounds t u).getD k undef = tmps.getD k undef := by
      simp [Array.getElem?_setIfInBounds_ne hk]
    rw [this]; exact h2
theorem EnvR.putDst {m : CM} {e : Env} {a : Act} (h : EnvR m e a.tmps) {d : Option Nat} (hd : cDst a.tmps.size d = true) {v : AV} {u : Value} (hv : VR m v u) :
    EnvR m (AM.putDst e d v) (a.put d u).tmps := by
  cases d with
  | none => exact h
  | some t =>
    simp only [cDst, decide_eq_true_eq] at hd
    exact h.put hd hv
theorem Act.put_size (a : Act) (d : Option Nat) (u : Value) : (a.put d u).tmps.size = a.tmps.size := by
  cases d <;> simp [Act.put]
theorem opd_vr {m : CM} {e : Env} {a : Act} {nt : Nat} (h : EnvR m e a.tmps) {x : Operand} {y : AOpd} (hc : cOpd nt x = some y) {v : AV} (hv : y.val e = some v) : VR m v (a.eval x) := by
  cases x with
  | tmp t =>
    simp only [cOpd] at hc
    split at hc
    · simp at hc; subst hc
      exact (h t v hv).2
    · simp at hc
  | const c =>
    simp only [cOpd, Option.map_eq_some_iff] at hc
    obtain ⟨b, hb, rfl⟩ := hc
    simp only [AOpd.val, Option.some.injEq] at hv
    subst hv
    exact cv_vr hb
  | func f =>
    simp [cOpd] at hc; subst hc
    simp only [AOpd.val, Option.some.injEq] at hv
    subst hv
    exact .func f .nil .nil
  | global g => simp [cOpd] at hc
theorem opds_vrs {m : CM} {e : Env} {a : Act} {nt : Nat} (h : EnvR m e a.tmps) : ∀ {xs : List Operand} {ys : List AOpd}, cOpds nt xs = some ys → ∀ {vs : List AV}, vals e ys = some vs → VRs m vs (xs.map a.eval)
  | [], ys, hc, vs, hv => by
    simp [cOpds] at hc; subst hc
    simp [vals] at hv; subst hv
    exact .nil
  | x :: xs, ys, hc, vs, hv => by
    simp only [cOpds] at hc
    split at hc
    · rename_i y hy
      split at hc
      · rename_i l hl
        simp at hc; subst hc
        simp only [vals] at hv
        split at hv
        · rename_i v hv1
          split at hv
          · rename_i vs' hvs
            simp at hv; subst hv
            exact .cons (opd_vr h hy hv1) (opds_vrs h hl hvs)
          · simp at hv
        · simp at hv
      · simp at hc
    · simp at hc
theorem opt_vr {m : CM} {e : Env} {a : Act} {nt : Nat} (h : EnvR m e a.tmps) {x : Option Operand} {y : Option AOpd} (hc : cOpt nt x = some y) {v : Option AV} (hv : optVal e y = some v) :
    (x = none ∧ v = none) ∨ ∃ o w, x = some o ∧ v = some w ∧ VR m w (a.eval o) := by
  cases x with
  | none =>
    simp [cOpt] at hc; subst hc
    simp [optVal] at hv; subst hv
    exact .inl ⟨rfl, rfl⟩
  | some o =>
    simp only [cOpt, Option.map_eq_some_iff] at hc
    obtain ⟨b, hb, rfl⟩ := hc
    simp only [optVal] at hv
    split at hv
    · rename_i w hw
      simp at hv; subst hv
      exact .inr ⟨o, w, rfl, rfl, opd_vr h hb hw⟩
    · simp at hv
def PendR : AExit → Option Code → Prop
  | .normal, none => True
  | .ret, some .ret => True
  | .exit id, some (.exit id') => id = id'
  | _, _ => False
def StateR : LState → LoopState → Prop
  | .ready, .ready => True
  | .busy, .busy => True
  | .done, .done => True
  | .over, .exhausted => True
  | _, _ => False
structure LoopR (P : Program) (m : CM) (L : ALoop) (L' : Loop) : Prop where
  state : StateR L.state L'.state
  pending : PendR L.pending L'.pending
  env : EnvR m L.env L'.tmps
  params : L'.params.toList = L.params
  below : ∀ t ∈ L.params, t < L'.tmps.size
  assign : ∃ kp, cCode P L'.tmps.size kp L'.assign = some L.assign
  body : ∃ kp, cCode P L'.tmps.size kp L'.body = some L.body
inductive MapR (m : CM) : List (AV × AV) → List MapEntry → Prop where
  | nil : MapR m [] []
  | cons {k v : AV} {e : MapEntry} {es : List (AV × AV)} {es' : List MapEntry} (hk : VR m k e.key) (hv : VR m v e.val) (t : MapR m es es') : MapR m ((k, v) :: es) (e :: es')
def CellsR (m : CM) (vs : List AV) (o : Nat) (arr : Array Value) : Prop := ∀ i v, vs[i]? = some v → ∃ u, arr[o + i]? = some u ∧ VR m v u
def ObjR (P : Program) (N : Nat) (m : CM) : Option AObj → Nat → Nat → Nat → Array Obj → Prop
  | some (.cells true vs), c, o, _, heap => c < N ∧ ∃ arr e fz, heap[c]? = some (.cells arr e fz) ∧ CellsR m vs o arr
  | some (.cells false vs), c, o, n, heap => N ≤ c ∧ ∃ arr e lo hi, heap[c]? = some (.cells arr e (lo, hi)) ∧ arr.size = n ∧ (hi ≤ lo ∨ n ≤ lo) ∧ o + vs.length ≤ n ∧ CellsR m vs o arr
  | some (.map es), c, o, _, heap => N ≤ c ∧ o = 0 ∧ ∃ es' clk, heap[c]? = some (.map es' clk) ∧ MapR m es es'.toList
  | some (.strIter s pos), c, o, _, heap => N ≤ c ∧ o = 0 ∧ heap[c]? = some (.stringIter s pos)
  | some (.loop L), c, o, _, heap => N ≤ c ∧ o = 0 ∧ ∃ L', heap[c]? = some (.loop L') ∧ LoopR P m L L'
  | _, _, _, _, _ => True
def AObj.live : AObj → Bool
  | .dead => false
  | .cells ro _ => !ro
  | _ => true
def Live (H : AH) (b : Nat) : Prop := ∃ o, H.get b = some o ∧ o.live = true
structure Rel (P : Program) (base : Array Obj) (m : CM) (H : AH) (w : World) : Prop where
  old : ∀ c, c < base.size → w.heap[c]? = base[c]?
  size : base.size ≤ w.heap.size
  top : ∀ b, H.next ≤ b → m b = none
  blk : ∀ b c o n, m b = some (c, o, n) → c < w.heap.size ∧ ObjR P base.size m (H.get b) c o n w.heap
  inj : ∀ b b' c o o' n n', m b = some (c, o, n) → m b' = some (c, o', n') → Live H b → Live H b' → b = b'
def Free (m : CM) (c : Nat) : Prop := ∀ b o n, m b ≠ some (c, o, n)
structure Ext (m : CM) (H : AH) (w : World) (m' : CM) (H' : AH) (w' : World) : Prop where
  le : m.le m'
  next : H.next ≤ H'.next
  heap : w.heap.size ≤ w'.heap.size
  free : ∀ c, c < w.heap.size → Free m c → Free m' c ∧ w'.heap[c]? = w.heap[c]?
  unreal : ∀ b, b < H.next → m b = none → m' b = none ∧ H'.get b = H.get b
  loops : ∀ b, (∃ L, H.get b = some (.loop L)) → b < H.next → ∃ L, H'.get b = some (.loop L)
  os : w'.os = w.os ∧ w'.output = w.output
theorem Ext.refl (m : CM) (H : AH) (w : World) : Ext m H w m H w :=
  ⟨leR m, Nat.le_refl _, Nat.le_refl _, fun _ _ h => ⟨h, rfl⟩, fun _ _ h => ⟨h, rfl⟩, fun _ h _ => h, rfl, rfl⟩
theorem Ext.trans {m m' m'' : CM} {H H' H'' : AH} {w w' w'' : World} (h : Ext m H w m' H' w') (h' : Ext m' H' w' m'' H'' w'') : Ext m H w m'' H'' w'' :=
  ⟨leT h.le h'.le, Nat.le_trans h.next h'.next, Nat.le_trans h.heap h'.heap,
   fun c hc hf => ⟨(h'.free c (Nat.lt_of_lt_of_le hc h.heap) (h.free c hc hf).1).1, ((h'.free c (Nat.lt_of_lt_of_le hc h.heap) (h.free c hc hf).1).2).trans (h.free c hc hf).2⟩,
   fun b hb hn => ⟨(h'.unreal b (Nat.lt_of_lt_of_le hb h.next) (h.unreal b hb hn).1).1, ((h'.unreal b (Nat.lt_of_lt_of_le hb h.next) (h.unreal b hb hn).1).2).trans (h.unreal b hb hn).2⟩,
   fun b hl hb => h'.loops b (h.loops b hl hb) (Nat.lt_of_lt_of_le hb h.next), h'.os.1.trans h.os.1, h'.os.2.trans h.os.2⟩
theorem LoopR.mono {P : Program} {m m' : CM} (hm : CM.le m m') {L : ALoop} {L' : Loop} (h : LoopR P m L L') : LoopR P m' L L' :=
  ⟨h.state, h.pending, h.env.mono hm, h.params, h.below, h.assign, h.body⟩
theorem MapR.mono {m m' : CM} (hm : CM.le m m') : ∀ {es : List (AV × AV)} {es' : List MapEntry}, MapR m es es' → MapR m' es es'
  | _, _, .nil => .nil
  | _, _, .cons hk hv t => .cons (hk.mono hm) (hv.mono hm) (MapR.mono hm t)
theorem CellsR.mono {m m' : CM} (hm : CM.le m m') {vs : List AV} {o : Nat} {arr : Array Value} (h : CellsR m vs o arr) : CellsR m' vs o arr :=
  fun i v hv => let ⟨u, h1, h2⟩ := h i v hv; ⟨u, h1, h2.mono hm⟩
theorem ObjR.mono {P : Program} {N : Nat} {m m' : CM} (hm : CM.le m m') {ob : Option AObj} {c o n : Nat} {heap heap' : Array Obj} (hh : heap'[c]? = heap[c]?)
    (h : ObjR P N m ob c o n heap) : ObjR P N m' ob c o n heap' := by
  cases ob with
  | none => trivial
  | some x =>
    cases x with
    | dead => trivial
    | cells ro vs =>
      cases ro with
      | true =>
        obtain ⟨h1, arr, e, fz, h2, h3⟩ := h
        exact ⟨h1, arr, e, fz, hh.trans h2, h3.mono hm⟩
      | false =>
        obtain ⟨h1, arr, e, lo, hi, h2, h3, h4, h5, h6⟩ := h
        exact ⟨h1, arr, e, lo, hi, hh.trans h2, h3, h4, h5, h6.mono hm⟩
    | map es =>
      obtain ⟨h1, h2, es', clk, h3, h4⟩ := h
      exact ⟨h1, h2, es', clk, hh.trans h3, h4.mono hm⟩
    | strIter s pos =>
      obtain ⟨h1, h2, h3⟩ := h
      exact ⟨h1, h2, hh.trans h3⟩
    | loop L =>
      obtain ⟨h1, h2, L', h3, h4⟩ := h
      exact ⟨h1, h2, L', hh.trans h3, h4.mono hm⟩
def CM.add (m : CM) (b : Nat) (x : Nat × Nat × Nat) : CM := fun k => if k = b then some x else m k
theorem CM.add_le {m : CM} {b : Nat} {x : Nat × Nat × Nat} (h : m b = none) : CM.le m (CM.add m b x) := fun k y hy => by
  unfold CM.add
  by_cases hk : k = b
  · subst hk; rw [h] at hy; cases hy
  · rw [if_neg hk]; exact hy
@[simp] theorem CM.add_same (m : CM) (b : Nat) (x : Nat × Nat × Nat) : CM.add m b x b = some x := by simp [CM.add]
theorem CM.add_ne (m : CM) {b k : Nat} (x : Nat × Nat × Nat) (h : k ≠ b) : CM.add m b x k = m k := by simp [CM.add, h]
theorem alloc_get (w : World) (o : Obj) (k : Nat) : (w.alloc o).heap[k]? = if k = w.heap.size then some o else w.heap[k]? := by
  show (w.heap.push o)[k]? = _
  rw [Array.getElem?_push]
theorem alloc_get_ne (w : World) (o : Obj) {k : Nat} (h : k ≠ w.heap.size) : (w.alloc o).heap[k]? = w.heap[k]? := by
  rw [alloc_get, if_neg h]
theorem Rel.drew {P : Program} {base : Array Obj} {m : CM} {H : AH} {w w' : World} (h : Rel P base m H w) (hw : w'.heap = w.heap) : Rel P base m H w' :=
  ⟨fun c hc => by rw [hw]; exact h.old c hc, by rw [hw]; exact h.size, h.top, fun b c o n hb => by rw [hw]; exact h.blk b c o n hb, h.inj⟩
theorem Ext.drew {m : CM} {H : AH} {w w' : World} (hw : w'.heap = w.heap) (hos : w'.os = w.os ∧ w'.output = w.output := by exact ⟨rfl, rfl⟩) : Ext m H w m H w' :=
  ⟨leR m, Nat.le_refl _, by rw [hw]; exact Nat.le_refl _, fun _ _ h => ⟨h, by rw [hw]⟩, fun _ _ h => ⟨h, rfl⟩, fun _ h _ => h, hos⟩
theorem Rel.realize {P : Program} {base : Array Obj} {m : CM} {H : AH} {w : World} (h : Rel P base m H w) {b : Nat} (hb : b < H.next) (hm : m b = none) {n : Nat} {oC : Obj}
    (hob : ObjR P base.size (CM.add m b (w.heap.size, 0, n)) (H.get b) w.heap.size 0 n (w.heap.push oC)) :
    Rel P base (CM.add m b (w.heap.size, 0, n)) H (w.alloc oC) := by
  have hle := CM.add_le (x := (w.heap.size, 0, n)) hm
  refine ⟨fun c hc => ?_, ?_, fun k hk => ?_, fun k c o n' hk => ?_, fun k k' c o o' n1 n2 h1 h2 l1 l2 => ?_⟩
  · have : c ≠ w.heap.size := by have := h.size; omega
    rw [alloc_get_ne _ _ this, h.old c hc]
  · have := h.size; simp; omega
  · have : k ≠ b := by omega
    rw [CM.add_ne _ _ this]; exact h.top k hk
  · by_cases hkb : k = b
    · subst hkb
      rw [CM.add_same] at hk
      simp only [Option.some.injEq, Prod.mk.injEq] at hk
      obtain ⟨rfl, rfl, rfl⟩ := hk
      exact ⟨by simp, hob⟩
    · rw [CM.add_ne _ _ hkb] at hk
      obtain ⟨h1, h2⟩ := h.blk k c o n' hk
      refine ⟨by simp; omega, h2.mono hle ?_⟩
      have : c ≠ w.heap.size := by omega
      exact alloc_get_ne _ _ this
  · by_cases hk1 : k = b
    · by_cases hk2 : k' = b
      · rw [hk1, hk2]
      · subst hk1
        rw [CM.add_same] at h1
        rw [CM.add_ne _ _ hk2] at h2
        simp only [Option.some.injEq, Prod.mk.injEq] at h1
        have := (h.blk _ _ _ _ h2).1
        omega
    · rw [CM.add_ne _ _ hk1] at h1
      by_cases hk2 : k' = b
      · subst hk2
        rw [CM.add_same] at h2
        simp only [Option.some.injEq, Prod.mk.injEq] at h2
        have := (h.blk _ _ _ _ h1).1
        omega
      · rw [CM.add_ne _ _ hk2] at h2
        exact h.inj k k' c o o' n1 n2 h1 h2 l1 l2
theorem Ext.realize {m : CM} {H : AH} {w : World} {b : Nat} (_hm : m b = none) {n : Nat} {oC : Obj} (hall : ∀ k c o n, m k = some (c, o, n) → c < w.heap.size) :
    (CM.le m (CM.add m b (w.heap.size, 0, n))) ∧ (∀ c, c < w.heap.size → Free m c → Free (CM.add m b (w.heap.size, 0, n)) c ∧ (w.alloc oC).heap[c]? = w.heap[c]?) := by
  refine ⟨CM.add_le _hm, fun c hc hf => ⟨fun k o n' hk => ?_, ?_⟩⟩
  · by_cases hkb : k = b
    · subst hkb
      rw [CM.add_same] at hk
      simp only [Option.some.injEq, Prod.mk.injEq] at hk
      omega
    · rw [CM.add_ne _ _ hkb] at hk
      exact hf k o n' hk
  · have : c ≠ w.heap.size := by omega
    exact alloc_get_ne _ _ this
theorem Rel.unreal {P : Program} {base : Array Obj} {m : CM} {H : AH} {w : World} (h : Rel P base m H w) (o : AObj) : Rel P base m (H.alloc o) w := by
  refine ⟨h.old, h.size, fun b hb => h.top b (by simp at hb; omega), fun b c o' n hb => ?_, fun b b' c o1 o2 n1 n2 h1 h2 l1 l2 => ?_⟩
  · have hne : b ≠ H.next := fun e => by rw [h.top b (by omega)] at hb; cases hb
    rw [AH.get_alloc, if_neg hne]; exact h.blk b c o' n hb
  · have hne : b ≠ H.next := fun e => by rw [h.top b (by omega)] at h1; cases h1
    have hne' : b' ≠ H.next := fun e => by rw [h.top b' (by omega)] at h2; cases h2
    obtain ⟨x, hx, hl⟩ := l1
    obtain ⟨x', hx', hl'⟩ := l2
    rw [AH.get_alloc, if_neg hne] at hx
    rw [AH.get_alloc, if_neg hne'] at hx'
    exact h.inj b b' c o1 o2 n1 n2 h1 h2 ⟨x, hx, hl⟩ ⟨x', hx', hl'⟩
theorem Ext.unreal' {m : CM} {H : AH} {w : World} (o : AObj) (hm : m H.next = none) : Ext m H w m (H.alloc o) w :=
  ⟨leR m, by simp, Nat.le_refl _, fun _ _ h => ⟨h, rfl⟩, fun b hb h => ⟨h, by rw [AH.get_alloc, if_neg (by omega)]⟩, fun b hl hb => by rw [AH.get_alloc, if_neg (by omega)]; exact hl, rfl, rfl⟩
theorem Rel.alloc {P : Program} {base : Array Obj} {m : CM} {H : AH} {w : World} (h : Rel P base m H w) {oA : AObj} {oC : Obj} {n : Nat}
    (hob : ∀ m', CM.le m m' → ObjR P base.size m' (some oA) w.heap.size 0 n (w.heap.push oC)) :
    Rel P base (CM.add m H.next (w.heap.size, 0, n)) (H.alloc oA) (w.alloc oC) ∧ Ext m H w (CM.add m H.next (w.heap.size, 0, n)) (H.alloc oA) (w.alloc oC) := by
  have hm : m H.next = none := h.top _ (Nat.le_refl _)
  have h1 := h.unreal oA
  refine ⟨h1.realize (by simp) hm ?_, ?_⟩
  · rw [AH.get_alloc, if_pos rfl]; exact hob _ (CM.add_le hm)
  · obtain ⟨e1, e2⟩ := Ext.realize (H := H) (w := w) (n := n) (oC := oC) hm (fun k c o n hk => (h.blk k c o n hk).1)
    refine ⟨e1, by simp, by simp, e2, fun b hb hn => ⟨?_, by rw [AH.get_alloc, if_neg (by omega)]⟩, fun b hl hb => by rw [AH.get_alloc, if_neg (by omega)]; exact hl, rfl, rfl⟩
    rw [CM.add_ne _ _ (by omega)]; exact hn
theorem Rel.turn {P : Program} {base : Array Obj} {m : CM} {H : AH} {w w' : World} (h : Rel P base m H w) {b c o n : Nat} (hb : m b = some (c, o, n)) (hl : Live H b) (hN : base.size ≤ c) {oA : AObj}
    (hheap : ∀ k, k ≠ c → w'.heap[k]? = w.heap[k]?) (hs : w'.heap.size = w.heap.size) (hob : ObjR P base.size m (some oA) c o n w'.heap) (hlp : ∀ L, H.get b = some (.loop L) → ∃ L', oA = .loop L' := by intro L hL; simp_all) (hos : w'.os = w.os ∧ w'.output = w.output := by exact ⟨rfl, rfl⟩) :
    Rel P base m (H.set b oA) w' ∧ Ext m H w m (H.set b oA) w' := by
  have hro : ∀ k c' o' n', m k = some (c', o', n') → k ≠ b → c' = c → ¬ Live H k := fun k c' o' n' hk hkb hc hlk =>
    hkb (h.inj k b c' o' o n' n hk (by rw [hc]; exact hb) hlk hl)
  refine ⟨⟨fun k hk => ?_, by rw [hs]; exact h.size, fun k hk => h.top k hk, fun k c' o' n' hk => ?_, fun k k' c' o1 o2 n1 n2 h1 h2 l1 l2 => ?_⟩, ?_⟩
  · rw [hheap k (by omega)]; exact h.old k hk
  · obtain ⟨h1, h2⟩ := h.blk k c' o' n' hk
    refine ⟨by rw [hs]; exact h1, ?_⟩
    rw [AH.get_set]
    by_cases hkb : k = b
    · subst hkb
      rw [hb] at hk
      simp only [Option.some.injEq, Prod.mk.injEq] at hk
      obtain ⟨rfl, rfl, rfl⟩ := hk
      rw [if_pos rfl]; exact hob
    · rw [if_neg hkb]
      by_cases hc : c' = c
      · have hnl := hro k c' o' n' hk hkb hc
        cases hg : H.get k with
        | none => trivial
        | some x =>
          rw [hg] at h2
          cases x with
          | dead => trivial
          | cells ro vs =>
            cases ro with
            | true =>
              obtain ⟨h3, _⟩ := h2
              omega
            | false => exact absurd ⟨_, hg, rfl⟩ hnl
          | map es => exact absurd ⟨_, hg, rfl⟩ hnl
          | strIter s p => exact absurd ⟨_, hg, rfl⟩ hnl
          | loop L => exact absurd ⟨_, hg, rfl⟩ hnl
      · exact h2.mono (leR m) (hheap c' hc)
  · have key : ∀ k, Live (H.set b oA) k → Live H k := fun k ⟨x, hx, hlx⟩ => by
      rw [AH.get_set] at hx
      by_cases hkb : k = b
      · rw [hkb]; exact hl
      · rw [if_neg hkb] at hx; exact ⟨x, hx, hlx⟩
    exact h.inj k k' c' o1 o2 n1 n2 h1 h2 (key k l1) (key k' l2)
  · refine ⟨leR m, Nat.le_refl _, by rw [hs]; exact Nat.le_refl _, fun k hk hf => ⟨hf, hheap k fun e => ?_⟩, fun k hk hn => ⟨hn, ?_⟩, fun k hk hlt => ?_, hos⟩
    · subst e; exact hf b o n hb
    · rw [AH.get_set, if_neg]
      intro e; subst e; rw [hb] at hn; cases hn
    · rw [AH.get_set]
      by_cases hkb : k = b
      · subst hkb
        obtain ⟨L, hL⟩ := hk
        obtain ⟨L', rfl⟩ := hlp L hL
        exact ⟨L', by rw [if_pos rfl]⟩
      · rw [if_neg hkb]; exact hk
end Go.AM
namespace Go.AM
section
variable {P : Program} {w : World}
theorem run_underlying' {t : TypeId} {d : TypeDesc} (h : P.underlying t = some d) : (underlying t).run P w = .ok d w := by
  simp [underlying, h]
theorem run_sizeOf' {t : TypeId} {n : Nat} (h : sizeT P t = some n) : (sizeOf t).run P w = .ok n w := by
  simp only [sizeT, Option.map_eq_some_iff] at h
  obtain ⟨i, hi, rfl⟩ := h
  simp [sizeOf, typeInfo, hi]
theorem run_typeInfo' {t : TypeId} {i : TypeInfo} (h : P.info? t = some i) : (typeInfo t).run P w = .ok i w := by
  simp [typeInfo, h]
theorem run_zeroValue' {t : TypeId} {v : Value} (h : zeroT P t = some v) : (zeroValue t).run P w = .ok v w := by
  simp only [zeroT, Option.bind_eq_some_iff] at h
  obtain ⟨i, hi, hz⟩ := h
  simp [zeroValue, typeInfo, hi, hz]
theorem run_isAgg' {t : TypeId} {b : Bool} (h : aggT P t = some b) : (isAgg t).run P w = .ok b w := by
  simp only [aggT] at h
  split at h
  · rename_i hd; simp at h; subst h; simp [isAgg, run_underlying' hd]
  · rename_i hd; simp at h; subst h; simp [isAgg, run_underlying' hd]
  · rename_i d h1 h2 hd
    simp at h; subst h
    unfold isAgg
    simp only [Sem.run_bind, run_underlying' hd, Result.andThen_ok]
    rfl
  · simp at h
theorem addr_add (c o n : Nat) : (⟨c, o, none⟩ : Addr).add n = ⟨c, o + n, none⟩ := by
  unfold Addr.add
  split
  · subst_vars; rfl
  · rfl
theorem cell_of {c : Nat} {arr : Array Value} {e : TypeId} {fz : Nat × Nat} (h : w.heap[c]? = some (.cells arr e fz)) (j : Nat) : w.cell? ⟨c, j, none⟩ = arr[j]? := by
  simp [World.cell?, h]
theorem frozen_of {c : Nat} {arr : Array Value} {e : TypeId} {lo hi : Nat} (h : w.heap[c]? = some (.cells arr e (lo, hi))) (j : Nat) : w.frozen? ⟨c, j, none⟩ = (decide (lo ≤ j) && decide (j < hi)) := by
  simp [World.frozen?, h]
theorem Rel.cell {base : Array Obj} {m : CM} {H : AH} (h : Rel P base m H w) {b c o n i : Nat} (hb : m b = some (c, o, n)) {ro : Bool} {vs : List AV} (hg : H.get b = some (.cells ro vs)) {v : AV} (hv : vs[i]? = some v) :
    ∃ u, w.cell? ⟨c, o + i, none⟩ = some u ∧ VR m v u := by
  obtain ⟨_, h2⟩ := h.blk b c o n hb
  rw [hg] at h2
  cases ro with
  | true =>
    obtain ⟨_, arr, e, fz, h3, h4⟩ := h2
    obtain ⟨u, h5, h6⟩ := h4 i v hv
    exact ⟨u, by rw [cell_of h3]; exact h5, h6⟩
  | false =>
    obtain ⟨_, arr, e, lo, hi, h3, _, _, _, h4⟩ := h2
    obtain ⟨u, h5, h6⟩ := h4 i v hv
    exact ⟨u, by rw [cell_of h3]; exact h5, h6⟩
theorem run_load_cell {a : Addr} {u : Value} (h : w.cell? a = some u) : (load a).run P w = .ok u w := by
  rw [run_load, h]
theorem run_loadCellsFrom {m : CM} (c k : Nat) : ∀ (vs : List AV) (i : Nat) (acc : Array Value), (∀ j v, vs[j]? = some v → ∃ u, w.cell? ⟨c, k + i + j, none⟩ = some u ∧ VR m v u) →
    ∃ us, VRs m vs us ∧ (loadCellsFrom ⟨c, k, none⟩ i vs.length acc).run P w = .ok (acc ++ us.toArray) w
  | [], i, acc, _ => ⟨[], .nil, by simp [loadCellsFrom]⟩
  | v :: vs, i, acc, h => by
    obtain ⟨u, hu, hv⟩ := h 0 v rfl
    obtain ⟨us, hus, hr⟩ := run_loadCellsFrom c k vs (i + 1) (acc.push u) (fun j v' hv' => by
      have := h (j + 1) v' (by simpa using hv')
      rwa [show k + (i + 1) + j = k + i + (j + 1) from by omega])
    refine ⟨u :: us, .cons hv hus, ?_⟩
    simp only [List.length_cons, loadCellsFrom, Sem.run_bind, addr_add]
    rw [run_load_cell (by simpa using hu)]
    simp only [Result.andThen_ok]
    rw [hr]
    congr 1
    simp
theorem Rel.loadCells {base : Array Obj} {m : CM} {H : AH} (h : Rel P base m H w) {b c o n i k : Nat} (hb : m b = some (c, o, n)) {cs : List AV} (hr : H.read b i k = some cs) :
    ∃ us, VRs m cs us ∧ (Go.loadCells ⟨c, o + i, none⟩ k).run P w = .ok us.toArray w := by
  unfold AH.read at hr
  split at hr
  · rename_i ro vs hg
    unfold readN at hr
    split at hr
    · rename_i hle
      simp only [Option.some.injEq] at hr
      subst hr
      obtain ⟨us, h1, h2⟩ := run_loadCellsFrom (P := P) (w := w) (m := m) c (o + i) ((vs.drop i).take k) 0 #[] (fun j v hv => by
        rw [List.getElem?_take] at hv
        split at hv
        · rw [List.getElem?_drop] at hv
          obtain ⟨u, h3, h4⟩ := h.cell hb hg hv
          exact ⟨u, by rw [show o + i + 0 + j = o + (i + j) from by omega]; exact h3, h4⟩
        · simp at hv)
      refine ⟨us, h1, ?_⟩
      have hl : ((vs.drop i).take k).length = k := by simp; omega
      rw [hl] at h2
      simpa [Go.loadCells] using h2
    · simp at hr
  · simp at hr
theorem read_length {H : AH} {b i k : Nat} {cs : List AV} (hr : H.read b i k = some cs) : cs.length = k := by
  unfold AH.read at hr
  split at hr
  · unfold readN at hr
    split at hr
    · simp at hr; subst hr; simp; omega
    · simp at hr
  · simp at hr
theorem run_store_cell {c j : Nat} {arr : Array Value} {e : TypeId} {lo hi : Nat} (h : w.heap[c]? = some (.cells arr e (lo, hi))) (hj : j < arr.size) (hf : hi ≤ lo ∨ arr.size ≤ lo) {v : Value} (hv : v.oneCell' = true) :
    ∃ w', (store ⟨c, j, none⟩ v).run P w = .ok () w' ∧ w'.heap.size = w.heap.size ∧ (∀ k, k ≠ c → w'.heap[k]? = w.heap[k]?) ∧ w'.heap[c]? = some (.cells (arr.setIfInBounds j v) e (lo, hi)) ∧ w'.os = w.os ∧ w'.output = w.output := by
  refine ⟨w.setCell ⟨c, j, none⟩ v, ?_, by simp, fun k hk => ?_, ?_, rfl, rfl⟩
  · rw [run_store P w _ v _ hv, cell_of h]
    have : arr[j]? = some arr[j] := by simp [hj]
    simp only [this]
    have hfz : w.frozen? ⟨c, j, none⟩ = false := by
      rw [frozen_of h]
      rcases hf with hf | hf
      · by_cases h1 : lo ≤ j
        · have : ¬ j < hi := by omega
          simp [this]
        · simp [h1]
      · have : ¬ lo ≤ j := by omega
        simp [this]
    simp [hfz]
  · simp only [World.setCell, Array.getElem?_modify]
    have hk' : ¬ c = k := fun e => hk e.symm
    simp [hk']
  · simp [World.setCell, Array.getElem?_modify, h]
theorem run_storeCells {c k : Nat} {e : TypeId} {lo hi : Nat} : ∀ (us : List Value) (i : Nat) (w : World) (arr : Array Value), w.heap[c]? = some (.cells arr e (lo, hi)) → k + i + us.length ≤ arr.size → (hi ≤ lo ∨ arr.size ≤ lo) → (∀ u ∈ us, u.oneCell' = true) →
    ∃ w' arr', (storeCells ⟨c, k, none⟩ us i).run P w = .ok () w' ∧ w'.heap.size = w.heap.size ∧ (∀ x, x ≠ c → w'.heap[x]? = w.heap[x]?) ∧ w'.heap[c]? = some (.cells arr' e (lo, hi)) ∧
      arr'.size = arr.size ∧ (w'.os = w.os ∧ w'.output = w.output) ∧ ∀ j, arr'[j]? = if k + i ≤ j ∧ j < k + i + us.length then us[j - (k + i)]? else arr[j]?
  | [], i, w, arr, h, _, _, _ => ⟨w, arr, by simp [storeCells], rfl, fun _ _ => rfl, h, rfl, ⟨rfl, rfl⟩, fun j => by
      rw [if_neg (by simp only [List.length_nil]; omega)]⟩
  | u :: us, i, w, arr, h, hle, hf, hc => by
    simp only [List.length_cons] at hle
    obtain ⟨w1, h1, h2, h3, h4, ho1, ho2⟩ := run_store_cell (P := P) (j := k + i) h (by omega) hf (hc u (by simp))
    obtain ⟨w2, arr2, h5, h6, h7, h8, h9, ho3, h10⟩ := run_storeCells (k := k) us (i + 1) w1 (arr.setIfInBounds (k + i) u) h4 (by rw [Array.size_setIfInBounds]; omega) (by simpa using hf) (fun u' hu' => hc u' (by simp [hu']))
    refine ⟨w2, arr2, ?_, h6.trans h2, fun x hx => (h7 x hx).trans (h3 x hx), h8, by simpa using h9, ⟨ho3.1.trans ho1, ho3.2.trans ho2⟩, fun j => ?_⟩
    · simp only [storeCells, Sem.run_bind, addr_add]
      rw [h1]
      exact h5
    · rw [h10]
      by_cases hj : j = k + i
      · subst hj
        rw [if_neg (by omega), if_pos (by simp), Array.getElem?_setIfInBounds]
        have : k + i < arr.size := by omega
        simp [this]
      · by_cases h11 : k + (i + 1) ≤ j ∧ j < k + (i + 1) + us.length
        · rw [if_pos h11, if_pos (by simp only [List.length_cons]; omega)]
          have : j - (k + i) = (j - (k + (i + 1))) + 1 := by omega
          rw [this, List.getElem?_cons_succ]
        · rw [if_neg h11, if_neg (by simp only [List.length_cons]; omega), Array.getElem?_setIfInBounds_ne (fun e => hj e.symm)]
theorem writeN_length : ∀ {vs : List AV} {i : Nat} {xs vs' : List AV}, writeN vs i xs = some vs' → vs'.length = vs.length ∧ (xs = [] ∨ i + xs.length ≤ vs.length)
  | vs, i, [], vs', h => by
    cases vs <;> simp [writeN] at h <;> subst h <;> simp
  | [], _, x :: xs, _, h => by simp [writeN] at h
  | v :: vs, 0, x :: xs, vs', h => by
    simp only [writeN, Option.map_eq_some_iff] at h
    obtain ⟨l, hl, rfl⟩ := h
    obtain ⟨h1, h2⟩ := writeN_length hl
    refine ⟨by simp [h1], .inr ?_⟩
    rcases h2 with rfl | h2 <;> simp at * <;> omega
  | v :: vs, i + 1, x :: xs, vs', h => by
    simp only [writeN, Option.map_eq_some_iff] at h
    obtain ⟨l, hl, rfl⟩ := h
    obtain ⟨h1, h2⟩ := writeN_length hl
    refine ⟨by simp [h1], .inr ?_⟩
    rcases h2 with h2 | h2 <;> simp at * <;> omega
theorem writeN_get : ∀ {vs : List AV} {i : Nat} {xs vs' : List AV}, writeN vs i xs = some vs' → ∀ j, vs'[j]? = if i ≤ j ∧ j < i + xs.length then xs[j - i]? else vs[j]?
  | vs, i, [], vs', h, j => by
    have : vs' = vs := by cases vs <;> simp_all [writeN]
    rw [this, if_neg (by simp only [List.length_nil]; omega)]
  | [], _, x :: xs, _, h, j => by simp [writeN] at h
  | v :: vs, 0, x :: xs, vs', h, j => by
    simp only [writeN, Option.map_eq_some_iff] at h
    obtain ⟨l, hl, rfl⟩ := h
    cases j with
    | zero => simp
    | succ j =>
      have := writeN_get hl j
      simp only [List.getElem?_cons_succ, this, List.length_cons]
      by_cases h1 : j < xs.length
      · rw [if_pos (by omega), if_pos (by omega)]; simp
      · rw [if_neg (by omega), if_neg (by omega)]
  | v :: vs, i + 1, x :: xs, vs', h, j => by
    simp only [writeN, Option.map_eq_some_iff] at h
    obtain ⟨l, hl, rfl⟩ := h
    cases j with
    | zero => simp
    | succ j =>
      have := writeN_get hl j
      simp only [List.getElem?_cons_succ, this, List.length_cons]
      by_cases h1 : i ≤ j ∧ j < i + (xs.length + 1)
      · rw [if_pos h1, if_pos (by omega)]; congr 1; omega
      · rw [if_neg h1, if_neg (by omega)]
theorem VRs.oneCell {m : CM} : ∀ {xs : List AV} {us : List Value}, VRs m xs us → xs.all AV.isCell = true → ∀ u ∈ us, u.oneCell' = true
  | _, _, .nil, _, u, hu => by simp at hu
  | _, _, .cons h t, hc, u, hu => by
    simp only [List.all_cons, Bool.and_eq_true] at hc
    simp only [List.mem_cons] at hu
    rcases hu with rfl | hu
    · exact h.isCell hc.1
    · exact VRs.oneCell t hc.2 u hu
theorem Rel.write {base : Array Obj} {m : CM} {H H' : AH} (h : Rel P base m H w) {b c o n i : Nat} (hb : m b = some (c, o, n)) {xs : List AV} (hw : H.write b i xs = some H') {us : List Value} (hx : VRs m xs us) :
    ∃ w', (storeCells ⟨c, o + i, none⟩ us).run P w = .ok () w' ∧ Rel P base m H' w' ∧ Ext m H w m H' w' := by
  unfold AH.write at hw
  split at hw
  · rename_i vs hg
    split at hw
    · rename_i vs' hvs
      split at hw
      · rename_i hall
        simp only [Option.some.injEq] at hw
        subst hw
        obtain ⟨h1, h2⟩ := h.blk b c o n hb
        rw [hg] at h2
        obtain ⟨hN, arr, e, lo, hi, h3, h4, h5, h6, h7⟩ := h2
        obtain ⟨hl1, hl2⟩ := writeN_length hvs
        have hlen := VRs.length hx
        have hle : o + i + 0 + us.length ≤ arr.size ∨ us = [] := by
          rcases hl2 with rfl | hl2
          · right; cases hx; rfl
          · left; omega
        rcases hle with hle | rfl
        · obtain ⟨w', arr', r1, r2, r3, r4, r5, r7, r6⟩ := run_storeCells (P := P) (c := c) (k := o + i) us 0 w arr h3 hle (by rw [h4]; exact h5) (VRs.oneCell hx hall)
          have hob : CellsR m vs' o arr' := fun j v hv => by
            rw [r6]
            rw [writeN_get hvs] at hv
            by_cases hj : i ≤ j ∧ j < i + xs.length
            · rw [if_pos hj] at hv
              rw [if_pos (by omega)]
              obtain ⟨u, hu1, hu2⟩ := VRs.get hx _ _ hv
              exact ⟨u, by rw [show o + j - (o + i + 0) = j - i from by omega]; exact hu1, hu2⟩
            · rw [if_neg hj] at hv
              rw [if_neg (by omega)]
              exact h7 j v hv
          obtain ⟨q1, q2⟩ := h.turn (w' := w') hb ⟨_, hg, rfl⟩ hN r3 r2 (oA := .cells false vs') ⟨hN, arr', e, lo, hi, r4, by rw [r5, h4], h5, by rw [hl1]; exact h6, hob⟩ (hos := r7)
          exact ⟨w', r1, q1, q2⟩
        · cases hx
          have : vs' = vs := by cases vs <;> simp_all [writeN]
          subst this
          obtain ⟨q1, q2⟩ := h.turn (w' := w) hb ⟨_, hg, rfl⟩ hN (fun _ _ => rfl) rfl (oA := .cells false vs') ⟨hN, arr, e, lo, hi, h3, h4, h5, h6, h7⟩
          exact ⟨w, by simp [storeCells], q1, q2⟩
      · simp at hw
    · simp at hw
  · simp at hw
theorem Rel.newCells {base : Array Obj} {m : CM} {H : AH} (h : Rel P base m H w) {cs : List AV} {arr : Array Value} (e : TypeId) (hc : ∀ (i : Nat) (v : AV), cs[i]? = some v → ∃ u, arr[i]? = some u ∧ VR m v u) (hle : cs.length ≤ arr.size) :
    Rel P base (CM.add m H.next (w.heap.size, 0, arr.size)) (H.alloc (.cells false cs)) (w.alloc (.cells arr e)) ∧ Ext m H w (CM.add m H.next (w.heap.size, 0, arr.size)) (H.alloc (.cells false cs)) (w.alloc (.cells arr e)) := by
  refine h.alloc fun m' hm' => ⟨h.size, arr, e, 0, 0, ?_, rfl, .inl (Nat.le_refl _), by omega, fun i v hv => ?_⟩
  · simp
  · obtain ⟨u, h1, h2⟩ := hc i v hv
    exact ⟨u, by simpa using h1, h2.mono hm'⟩
theorem VRs.cellsGet {m : CM} {cs : List AV} {arr : Array Value} (h : VRs m cs arr.toList) : (∀ (i : Nat) (v : AV), cs[i]? = some v → ∃ u, arr[i]? = some u ∧ VR m v u) ∧ cs.length ≤ arr.size := by
  refine ⟨fun i v hv => ?_, ?_⟩
  · obtain ⟨u, h1, h2⟩ := VRs.get h i v hv
    exact ⟨u, by simpa using h1, h2⟩
  · have := VRs.length h; simp at this; omega
end
end Go.AM
namespace Go.AM
def Out (P : Program) (base : Array Obj) (m : CM) (H : AH) (w : World) (s : Sem Next) (v : AV) (H' : AH) : Prop :=
  ∃ nx u w' m', s.run P w = .ok nx w' ∧ (nx = .value u ∨ (nx = .skip ∧ u = undef)) ∧ VR m' v u ∧ Rel P base m' H' w' ∧ Ext m H w m' H' w'
def Val (P : Program) (base : Array Obj) (m : CM) (H : AH) (w : World) (s : Sem Value) (v : AV) (H' : AH) : Prop :=
  ∃ u w' m', s.run P w = .ok u w' ∧ VR m' v u ∧ Rel P base m' H' w' ∧ Ext m H w m' H' w'
section
variable {P : Program} {base : Array Obj} {m : CM} {H H' : AH} {w : World} {nt : Nat} {e : Env} {a : Act} {v : AV}
theorem Val.out {s : Sem Value} (h : Val P base m H w s v H') : Out P base m H w (do pure (.value (← s))) v H' := by
  obtain ⟨u, w', m', h1, h2, h3, h4⟩ := h
  exact ⟨.value u, u, w', m', by simp [h1], .inl rfl, h2, h3, h4⟩
theorem Val.same {s : Sem Value} {u : Value} (hr : Rel P base m H w) (h1 : s.run P w = .ok u w) (h2 : VR m v u) : Val P base m H w s v H :=
  ⟨u, w, m, h1, h2, hr, Ext.refl _ _ _⟩
theorem Out.same {s : Sem Next} {u : Value} (hr : Rel P base m H w) (h1 : s.run P w = .ok (.value u) w) (h2 : VR m v u) : Out P base m H w s v H :=
  ⟨.value u, u, w, m, h1, .inl rfl, h2, hr, Ext.refl _ _ _⟩
def MadeV (P : Program) (N : Nat) (m : CM) (w : World) (s : Sem Value) (mk : Nat → AV) (obj : AObj) : Prop :=
  ∃ u oC k, s.run P w = .ok u (w.alloc oC) ∧ ∀ b m', CM.le m m' → m' b = some (w.heap.size, 0, k) → VR m' (mk b) u ∧ ObjR P N m' (some obj) w.heap.size 0 k (w.heap.push oC)
theorem MadeV.val {s : Sem Value} {mk : Nat → AV} {obj : AObj} (h : MadeV P base.size m w s mk obj) (hr : Rel P base m H w) : Val P base m H w s (mk H.next) (H.alloc obj) := by
  obtain ⟨u, oC, k, h1, h2⟩ := h
  have hm : m H.next = none := hr.top _ (Nat.le_refl _)
  have h3 := h2 H.next (CM.add m H.next (w.heap.size, 0, k)) (CM.add_le hm) (CM.add_same _ _ _)
  have h4 := hr.unreal obj
  have e0 := Ext.unreal' (H := H) (w := w) obj hm
  obtain ⟨e1, e2⟩ := Ext.realize (H := H) (w := w) (n := k) (oC := oC) hm (fun k c o n hk => (hr.blk k c o n hk).1)
  refine ⟨u, w.alloc oC, _, h1, h3.1, h4.realize (by simp) hm (by rw [AH.get_alloc, if_pos rfl]; exact h3.2), ⟨e1, by simp, by simp, e2, fun b hb hn => ⟨?_, by rw [AH.get_alloc, if_neg (by omega)]⟩, e0.loops, rfl, rfl⟩⟩
  rw [CM.add_ne _ _ (by omega)]; exact hn
theorem with1_eq {x : Option AV} {f : AV → ORes} {r : AV × AH} (h : with1 x f = some r) : ∃ v, x = some v ∧ f v = some r := by
  cases x with
  | none => simp [with1] at h
  | some v => exact ⟨v, rfl, h⟩
theorem withL_eq {x : Option (List AV)} {f : List AV → ORes} {r : AV × AH} (h : withL x f = some r) : ∃ v, x = some v ∧ f v = some r := by
  cases x with
  | none => simp [withL] at h
  | some v => exact ⟨v, rfl, h⟩
theorem withP_eq {x : Option (List (Nat × Nat × AV))} {f : List (Nat × Nat × AV) → ORes} {r : AV × AH} (h : withP x f = some r) : ∃ v, x = some v ∧ f v = some r := by
  cases x with
  | none => simp [withP] at h
  | some v => exact ⟨v, rfl, h⟩
theorem withO_eq {x : Option (Option AV)} {f : Option AV → ORes} {r : AV × AH} (h : withO x f = some r) : ∃ v, x = some v ∧ f v = some r := by
  cases x with
  | none => simp [withO] at h
  | some v => exact ⟨v, rfl, h⟩
theorem pureV_eq {x : Option AV} {r : AV × AH} (h : pureV H x = some r) : x = some r.1 ∧ r.2 = H := by
  cases x with
  | none => simp [pureV] at h
  | some v => simp [pureV] at h; subst h; exact ⟨rfl, rfl⟩
theorem val_load {t : TypeId} {x : AV} {u : Value} (hr : Rel P base m H w) (ht : aggT P t = some false) (hx : VR m x u) (h : opLoad x H = some (v, H')) :
    Val P base m H w (Instr.loadAt t u) v H' := by
  cases hx <;> simp only [opLoad, reduceCtorEq] at h
  rename_i b i c o n hb
  obtain ⟨h1, rfl⟩ := pureV_eq h
  unfold AH.read1 at h1
  split at h1
  · rename_i ro vs hg
    obtain ⟨u', hu1, hu2⟩ := hr.cell hb hg h1
    refine Val.same hr ?_ hu2
    simp only [Instr.loadAt, Instr.sureAddr, loadVar, Sem.run_bind, Sem.run_pure, Result.andThen_ok, run_isAgg' ht]
    simpa using run_load_cell hu1
  · simp at h1
theorem aggOf_eq {x : Option (List AV)} {r : AV × AH} (h : aggOf H x = some r) : ∃ cs, x = some cs ∧ r = (.agg cs, H) := by
  cases x with
  | none => simp [aggOf] at h
  | some v => simp [aggOf] at h; exact ⟨v, rfl, h.symm⟩
theorem val_loadN {t : TypeId} {n : Nat} {x : AV} {u : Value} (hr : Rel P base m H w) (ht : aggT P t = some true) (hn : sizeT P t = some n) (hx : VR m x u) (h : opLoadN n x H = some (v, H')) :
    Val P base m H w (Instr.loadAt t u) v H' := by
  cases hx <;> simp only [opLoadN, reduceCtorEq] at h
  rename_i b i c o n' hb
  obtain ⟨cs, h1, h2⟩ := aggOf_eq h
  obtain ⟨rfl, rfl⟩ := Prod.mk.inj h2
  obtain ⟨us, h3, h4⟩ := hr.loadCells hb h1
  refine Val.same hr ?_ (.agg h3)
  simp only [Instr.loadAt, Instr.sureAddr, loadVar, Sem.run_bind, Sem.run_pure, Result.andThen_ok, run_isAgg' ht, if_true, run_sizeOf' hn, h4]
theorem out_store {t : TypeId} {n : Nat} {x y : AV} {u z : Value} (hr : Rel P base m H w) (hn : sizeT P t = some n) (hx : VR m x u) (hy : VR m y z) (h : opStore n x y H = some (v, H')) :
    Out P base m H w (do Instr.storeAt t u z; pure .skip) v H' := by
  cases hx <;> simp only [opStore, reduceCtorEq] at h
  rename_i b i c o n' hb
  split at h
  · rename_i cs hcs
    split at h
    · rename_i hlen
      cases hw : H.write b i cs with
      | none => simp [hw, unitOf] at h
      | some H1 =>
        simp only [hw, unitOf, Option.some.injEq, Prod.mk.injEq] at h
        obtain ⟨rfl, rfl⟩ := h
        have hcz := hy.cells hcs
        obtain ⟨w', h1, h2, h3⟩ := hr.write hb hw hcz
        have hsz : z.cells.size = n := by
          have := VRs.length hcz
          simp at this; omega
        refine ⟨.skip, undef, w', m, ?_, .inr ⟨rfl, rfl⟩, .tuple .nil, h2, h3⟩
        simp only [Instr.storeAt, Instr.sureAddr, storeVar, Sem.run_bind, Sem.run_pure, Result.andThen_ok, run_sizeOf' hn]
        simp only [hsz, ne_eq, not_true_eq_false, if_false, Sem.run_pure, Result.andThen_ok, h1]
    · simp at h
  · simp at h
theorem zeroL_vrs {t : TypeId} {l : List AV} (h : zeroL P t = some l) : ∃ z, zeroT P t = some z ∧ VRs m l z.cells.toList := by
  simp only [zeroL, Option.bind_eq_some_iff] at h
  obtain ⟨z, hz, hl⟩ := h
  exact ⟨z, hz, cvl_vrs hl⟩
theorem made_newRow {N : Nat} {cs : List AV} {arr : Array Value} (el : TypeId) (hN : N ≤ w.heap.size) (hc : VRs m cs arr.toList) :
    (newRow el arr).run P w = .ok ⟨w.heap.size, 0, none⟩ (w.alloc (.cells arr el)) ∧ ∀ b m', CM.le m m' → m' b = some (w.heap.size, 0, arr.size) → VR m' (.ptr b 0) (.pointer (some ⟨w.heap.size, 0, none⟩)) ∧
      (∀ len sz cap, len ≤ cap → cap * sz ≤ arr.size → VR m' (.slice b 0 len sz) (.slice (some ⟨w.heap.size, 0, none⟩) len cap)) ∧ ObjR P N m' (some (.cells false cs)) w.heap.size 0 arr.size (w.heap.push (.cells arr el)) := by
  obtain ⟨h1, h2⟩ := VRs.cellsGet hc
  refine ⟨by simp [newRow], fun b m' hm' hb => ⟨.ptr hb, fun len sz cap hl hcap => .slice hb hl (by omega), hN, arr, el, 0, 0, by simp, rfl, .inl (Nat.le_refl _), by omega, fun i v hv => ?_⟩⟩
  obtain ⟨u, h3, h4⟩ := h1 i v hv
  exact ⟨u, by simpa using h3, h4.mono hm'⟩
theorem made_alloc {N : Nat} {t : TypeId} {z : List AV} (hN : N ≤ w.heap.size) (hz : zeroL P t = some z) : MadeV P N m w (Instr.alloc t true (.tuple #[])) (fun b => .ptr b 0) (.cells false z) := by
  obtain ⟨zv, h1, h2⟩ := zeroL_vrs (m := m) hz
  obtain ⟨h3, h4⟩ := made_newRow (P := P) (N := N) (w := w) t hN h2
  refine ⟨_, _, _, ?_, fun b m' hm' hb => ⟨(h4 b m' hm' hb).1, (h4 b m' hm' hb).2.2⟩⟩
  simp only [Instr.alloc, newVar, Sem.run_bind, run_zeroValue' h1, Result.andThen_ok, h3, Sem.run_pure]
theorem made_box {N : Nat} {t : TypeId} {x : AV} {u : Value} {cs : List AV} (hN : N ≤ w.heap.size) (hx : VR m x u) (hcs : x.cells? = some cs) : MadeV P N m w (Instr.box t u) (fun b => .ptr b 0) (.cells false cs) := by
  obtain ⟨h3, h4⟩ := made_newRow (P := P) (N := N) (w := w) t hN (hx.cells hcs)
  refine ⟨_, _, _, ?_, fun b m' hm' hb => ⟨(h4 b m' hm' hb).1, (h4 b m' hm' hb).2.2⟩⟩
  simp only [Instr.box, newVar, Sem.run_bind, Result.andThen_ok, h3, Sem.run_pure]
theorem zipIdx_foldl_set (off : Nat) : ∀ (us : List Value) (k : Nat) (arr : Array Value), off + k + us.length ≤ arr.size →
    ∀ j, ((us.zipIdx k).foldl (fun cs (p : Value × Nat) => cs.setIfInBounds (off + p.2) p.1) arr)[j]? = (if off + k ≤ j ∧ j < off + k + us.length then us[j - (off + k)]? else arr[j]?) ∧
      ((us.zipIdx k).foldl (fun cs (p : Value × Nat) => cs.setIfInBounds (off + p.2) p.1) arr).size = arr.size
  | [], k, arr, _, j => by simp; omega
  | u :: us, k, arr, h, j => by
    simp only [List.length_cons] at h
    simp only [List.zipIdx_cons, List.foldl_cons]
    obtain ⟨h1, h2⟩ := zipIdx_foldl_set off us (k + 1) (arr.setIfInBounds (off + k) u) (by rw [Array.size_setIfInBounds]; omega) j
    refine ⟨?_, by rw [h2]; simp⟩
    rw [h1]
    by_cases hj : j = off + k
    · subst hj
      rw [if_neg (by omega), if_pos (by simp only [List.length_cons]; omega), Array.getElem?_setIfInBounds]
      have : off + k < arr.size := by omega
      simp [this]
    · by_cases h3 : off + (k + 1) ≤ j ∧ j < off + (k + 1) + us.length
      · rw [if_pos h3, if_pos (by simp only [List.length_cons]; omega)]
        have : j - (off + k) = (j - (off + (k + 1))) + 1 := by omega
        rw [this, List.getElem?_cons_succ]
      · rw [if_neg h3, if_neg (by simp only [List.length_cons]; omega), Array.getElem?_setIfInBounds_ne (fun e => hj e.symm)]
inductive PartsR (m : CM) (place : Nat → Option (Nat × Nat)) : List (Nat × Nat × AV) → List (Nat × Value) → Prop where
  | nil : PartsR m place [] []
  | cons {i o n : Nat} {v : AV} {u : Value} {ps : List (Nat × Nat × AV)} {qs : List (Nat × Value)} (hp : place i = some (o, n)) (hv : VR m v u) (t : PartsR m place ps qs) : PartsR m place ((o, n, v) :: ps) ((i, u) :: qs)
theorem fill_run {place : Nat → Option (Nat × Nat)} : ∀ {ps : List (Nat × Nat × AV)} {qs : List (Nat × Value)}, PartsR m place ps qs → ∀ {zero cs : List AV} {arr : Array Value}, VRs m zero arr.toList → fillA zero ps = some cs →
    ∃ arr', Instr.fill place arr qs = some arr' ∧ VRs m cs arr'.toList
  | _, _, .nil, zero, cs, arr, hz, hf => by
    simp [fillA] at hf; subst hf
    exact ⟨arr, rfl, hz⟩
  | _, _, .cons (i := i) (o := o) (n := n) (v := v) (u := u) (qs := qs) hp hv t, zero, cs, arr, hz, hf => by
    simp only [fillA] at hf
    split at hf
    · rename_i l hl
      split at hf
      · rename_i hln
        split at hf
        · rename_i cells' hw
          have hcu := hv.cells hl
          have hlen := VRs.length hcu
          have hzl := VRs.length hz
          obtain ⟨hw1, hw2⟩ := writeN_length hw
          simp only [Array.length_toList] at hlen hzl
          have key := fun j => zipIdx_foldl_set o u.cells.toList 0 arr (by simp; omega) j
          have hsz := (key 0).2
          have hz' : VRs m cells' ((u.cells.toList.zipIdx.foldl (fun cs (p : Value × Nat) => cs.setIfInBounds (o + p.2) p.1) arr)).toList := by
            refine VRs.of_get (by simp only [Array.length_toList]; omega) fun j v' hv' => ?_
            rw [writeN_get hw] at hv'
            rw [Array.getElem?_toList, (key j).1]
            by_cases hj : o ≤ j ∧ j < o + l.length
            · rw [if_pos hj] at hv'
              rw [if_pos (by simp only [Array.length_toList]; omega)]
              simpa using VRs.get hcu _ _ hv'
            · rw [if_neg hj] at hv'
              rw [if_neg (by simp only [Array.length_toList]; omega)]
              simpa using VRs.get hz _ _ hv'
          obtain ⟨arr', h1, h2⟩ := fill_run t hz' hf
          refine ⟨arr', ?_, h2⟩
          simp only [Instr.fill, hp]
          rw [if_neg (by simp; omega)]
          rw [← Array.foldl_toList, Array.toList_zipIdx]
          exact h1
        · simp at hf
      · simp at hf
    · simp at hf
end
end Go.AM
namespace Go.AM
def valOf (g : Bool) (us : List Value) : Value := if g then .agg ⟨us⟩ else us.headD undef
theorem eqCells_length : ∀ {ks : List SK} {xs ys : List AV} {b : Bool}, eqCells ks xs ys = some b → xs.length = ks.length ∧ ys.length = ks.length
  | [], xs, ys, b, h => by
    cases xs <;> cases ys <;> simp_all [eqCells]
  | k :: ks, [], ys, b, h => by cases k <;> simp [eqCells] at h
  | k :: ks, x :: xs, [], b, h => by cases k <;> cases x <;> simp [eqCells] at h
  | k :: ks, x :: xs, y :: ys, b, h => by
    cases k <;> cases x <;> cases y <;> simp only [eqCells, reduceCtorEq] at h
    all_goals
      try split at h
      all_goals
        simp only [Option.map_eq_some_iff, reduceCtorEq] at h
    all_goals
      obtain ⟨b', h', _⟩ := h
      obtain ⟨h1, h2⟩ := eqCells_length h'
      simp [h1, h2]
theorem eqCells_split : ∀ {k1 k2 : List SK} {xs ys : List AV} {b : Bool}, eqCells (k1 ++ k2) xs ys = some b →
    ∃ b1 b2, eqCells k1 (xs.take k1.length) (ys.take k1.length) = some b1 ∧ eqCells k2 (xs.drop k1.length) (ys.drop k1.length) = some b2 ∧ b = (b1 && b2)
  | [], k2, xs, ys, b, h => ⟨true, b, by simp [eqCells], by simpa using h, by simp⟩
  | k :: k1, k2, [], ys, b, h => by cases k <;> simp [eqCells] at h
  | k :: k1, k2, x :: xs, [], b, h => by cases k <;> cases x <;> simp [eqCells] at h
  | k :: k1, k2, x :: xs, y :: ys, b, h => by
    simp only [List.cons_append] at h
    cases k <;> cases x <;> cases y <;> simp only [eqCells, reduceCtorEq] at h
    case i.int.int j a l c =>
      split at h
      · rename_i hk
        simp only [Option.map_eq_some_iff] at h
        obtain ⟨b', h', rfl⟩ := h
        obtain ⟨b1, b2, h1, h2, rfl⟩ := eqCells_split h'
        exact ⟨(a == c) && b1, b2, by simp [eqCells, h1, hk], by simpa using h2, by simp [Bool.and_assoc]⟩
      · simp at h
    case b.bool.bool a c =>
      simp only [Option.map_eq_some_iff] at h
      obtain ⟨b', h', rfl⟩ := h
      obtain ⟨b1, b2, h1, h2, rfl⟩ := eqCells_split h'
      exact ⟨(a == c) && b1, b2, by simp [eqCells, h1], by simpa using h2, by simp [Bool.and_assoc]⟩
    case s.str.str a c =>
      simp only [Option.map_eq_some_iff] at h
      obtain ⟨b', h', rfl⟩ := h
      obtain ⟨b1, b2, h1, h2, rfl⟩ := eqCells_split h'
      exact ⟨(a.toList == c.toList) && b1, b2, by simp [eqCells, h1], by simpa using h2, by simp [Bool.and_assoc]⟩
section
variable {P : Program} {m : CM}
theorem cellsOf_eq {t : TypeId} {n : Nat} (h : sizeT P t = some n) : P.cellsOf t = n := by
  simp only [sizeT, Option.map_eq_some_iff] at h
  obtain ⟨i, hi, rfl⟩ := h
  simp [Program.cellsOf, hi]
theorem run_part {w : World} {t : TypeId} {g : Bool} {n off : Nat} {us : List Value} (hg : aggT P t = some g) (hn : sizeT P t = some n) (hle : off + n ≤ us.length) (h1 : g = false → n = 1) :
    (part t ⟨us⟩ off).run P w = .ok (valOf g ((us.drop off).take n)) w := by
  cases g with
  | true =>
    simp only [part, Sem.run_bind, run_isAgg' hg, Result.andThen_ok, if_true, run_sizeOf' hn, valOf]
    simp
  | false =>
    obtain rfl := h1 rfl
    simp only [part, Sem.run_bind, run_isAgg' hg, Result.andThen_ok, Bool.false_eq_true, if_false, valOf]
    have : off < us.length := by omega
    have h2 : (⟨us⟩ : Array Value)[off]? = some us[off] := by simp [this]
    simp only [h2, Sem.run_pure]
    rw [List.drop_eq_getElem_cons this]
    rfl
def Sized (P : Program) (t : TypeId) (ks : List SK) : Prop := sizeT P t = some ks.length ∧ ∃ g, aggT P t = some g ∧ (g = false → ks.length = 1)
theorem kindsFs_length {f : TypeId → Option (List SK)} (hf : ∀ t ks, f t = some ks → Sized P t ks) : ∀ (fs : List Field) (o n : Nat) (l : List SK), kindsFs P f fs o n = some l → o + l.length = n
  | [], o, n, l, h => by
    simp only [kindsFs] at h
    split at h
    · simp at h; subst h; simpa
    · simp at h
  | x :: fs, o, n, l, h => by
    simp only [kindsFs] at h
    split at h
    · rename_i z ks hz hk
      split at h
      · split at h
        · rename_i l' hl'
          simp at h; subst h
          have := kindsFs_length hf fs _ _ _ hl'
          have hs := (hf _ _ hk).1
          rw [hz] at hs
          simp only [Option.some.injEq] at hs
          simp; omega
        · simp at h
      · simp at h
    · simp at h
theorem repeatK_length (ks : List SK) : ∀ n, (repeatK ks n).length = n * ks.length
  | 0 => by simp [repeatK]
  | n + 1 => by simp [repeatK, repeatK_length ks n, Nat.add_mul]; omega
theorem kinds_sized : ∀ (d : Nat) (t : TypeId) (ks : List SK), kindsT P d t = some ks → Sized P t ks
  | 0, t, ks, h => by simp [kindsT] at h
  | d + 1, t, ks, h => by
    unfold kindsT at h
    split at h
    · rename_i h1 h2; simp at h; subst h; exact ⟨h2, false, by simp [aggT, h1], fun _ => rfl⟩
    · rename_i h1 h2; simp at h; subst h; exact ⟨h2, false, by simp [aggT, h1], fun _ => rfl⟩
    · rename_i h1 h2; simp at h; subst h; exact ⟨h2, false, by simp [aggT, h1], fun _ => rfl⟩
    · rename_i fs n h1 h2
      split at h
      · simp at h
      · have := kindsFs_length (kinds_sized d) _ _ _ _ h
        exact ⟨by rw [h2]; congr 1; omega, true, by simp [aggT, h1], fun h => by simp at h⟩
    · rename_i len e n h1 h2
      split at h
      · rename_i z ks' hz hk
        split at h
        · rename_i hn
          simp at h; subst h
          have hs := (kinds_sized d _ _ hk).1
          rw [hz] at hs
          simp only [Option.some.injEq] at hs
          exact ⟨by rw [h2, repeatK_length, hn, hs], true, by simp [aggT, h1], fun h => by simp at h⟩
        · simp at h
      · simp at h
    · simp at h
def EqAtA (P : Program) (D : Nat) (t : TypeId) (ks : List SK) : Prop :=
  ∀ (w : World) (m : CM) (g : Bool) (xs ys : List AV) (us zs : List Value) (b : Bool), aggT P t = some g → VRs m xs us → VRs m ys zs → eqCells ks xs ys = some b →
    (Op.equalIn D t (valOf g us) (valOf g zs)).run P w = .ok b w
theorem run_eqFields_flat {D : Nat} {f : TypeId → Option (List SK)} (hf : ∀ t ks, f t = some ks → EqAtA P D t ks ∧ Sized P t ks) :
    ∀ (fs : List Field) (o n : Nat) (l : List SK), kindsFs P f fs o n = some l → ∀ (w : World) (m : CM) (xs ys : List AV) (us zs : List Value) (b : Bool), VRs m xs us → VRs m ys zs → xs.length = n → ys.length = n → eqCells l (xs.drop o) (ys.drop o) = some b →
      (Op.eqFields D ⟨us⟩ ⟨zs⟩ fs).run P w = .ok b w
  | [], o, n, l, h, w, m, xs, ys, us, zs, b, hx, hy, hl1, hl2, he => by
    simp only [kindsFs] at h
    split at h
    · simp at h; subst h
      have := (eqCells_length he).1
      have h2 := (eqCells_length he).2
      rw [List.length_eq_zero_iff.1 this, List.length_eq_zero_iff.1 h2] at he
      simp [eqCells] at he
      subst he
      simp [Op.eqFields]
    · simp at h
  | x :: fs, o, n, l, h, w, m, xs, ys, us, zs, b, hx, hy, hl1, hl2, he => by
    simp only [kindsFs] at h
    split at h
    · rename_i z ks hz hk
      split at h
      · rename_i hname
        obtain ⟨hname, rfl⟩ := hname
        split at h
        · rename_i l' hl'
          simp at h; subst h
          obtain ⟨heq, hs, g, hg, h1⟩ := hf _ _ hk
          rw [hz] at hs
          simp only [Option.some.injEq] at hs
          subst hs
          obtain ⟨b1, b2, e1, e2, rfl⟩ := eqCells_split he
          rw [List.drop_drop, List.drop_drop] at e2
          have hlen := kindsFs_length (fun t ks h => (hf t ks h).2) _ _ _ _ hl'
          have lu := VRs.length hx
          have lz := VRs.length hy
          have p1 := run_part (P := P) (w := w) (off := x.offset) (us := us) hg hz (by omega) h1
          have p2 := run_part (P := P) (w := w) (off := x.offset) (us := zs) hg hz (by omega) h1
          have p3 := heq w m g _ _ _ _ b1 hg ((hx.drop x.offset).take _) ((hy.drop x.offset).take _) e1
          have ih := run_eqFields_flat hf fs _ _ _ hl' w m xs ys us zs b2 hx hy hl1 hl2 e2
          have hname' : x.name ≠ "_" := by simpa using hname
          simp only [Op.eqFields, ne_eq, hname', not_false_eq_true, if_true, Sem.run_bind, p1, p2, p3, Result.andThen_ok]
          cases b1
          · simp
          · simpa using ih
        · simp at h
      · simp at h
    · simp at h
theorem run_eqItems_flat {D : Nat} {e : TypeId} {ks : List SK} {g : Bool} (heq : EqAtA P D e ks) (hz : sizeT P e = some ks.length) (hg : aggT P e = some g) (h1 : g = false → ks.length = 1) :
    ∀ (len k : Nat) (w : World) (m : CM) (xs ys : List AV) (us zs : List Value) (b : Bool), VRs m xs us → VRs m ys zs → xs.length = (k + len) * ks.length → ys.length = (k + len) * ks.length → eqCells (repeatK ks len) (xs.drop (k * ks.length)) (ys.drop (k * ks.length)) = some b →
      (Op.eqItems D e ks.length ⟨us⟩ ⟨zs⟩ (List.range' k len)).run P w = .ok b w
  | 0, k, w, m, xs, ys, us, zs, b, hx, hy, hl1, hl2, he => by
    rw [List.drop_eq_nil_of_le (by simp at hl1; omega), List.drop_eq_nil_of_le (by simp at hl2; omega)] at he
    simp [repeatK, eqCells] at he
    subst he
    simp [Op.eqItems]
  | len + 1, k, w, m, xs, ys, us, zs, b, hx, hy, hl1, hl2, he => by
    have hk1 : (k + 1) * ks.length = k * ks.length + ks.length := by rw [Nat.add_mul]; omega
    have hmul : (k + (len + 1)) * ks.length = k * ks.length + ks.length + len * ks.length := by rw [Nat.add_mul, Nat.add_mul]; omega
    simp only [repeatK] at he
    obtain ⟨b1, b2, e1, e2, rfl⟩ := eqCells_split he
    rw [List.drop_drop, List.drop_drop, ← hk1] at e2
    have lu := VRs.length hx
    have lz := VRs.length hy
    have p1 := run_part (P := P) (w := w) (off := k * ks.length) (us := us) hg hz (by omega) h1
    have p2 := run_part (P := P) (w := w) (off := k * ks.length) (us := zs) hg hz (by omega) h1
    have p3 := heq w m g _ _ _ _ b1 hg ((hx.drop (k * ks.length)).take _) ((hy.drop (k * ks.length)).take _) e1
    have ih := run_eqItems_flat heq hz hg h1 len (k + 1) w m xs ys us zs b2 hx hy (by rw [hl1]; congr 1; omega) (by rw [hl2]; congr 1; omega) e2
    simp only [List.range'_succ, Op.eqItems, Sem.run_bind, p1, p2, p3, Result.andThen_ok]
    cases b1
    · simp
    · simpa using ih
theorem eq_flat : ∀ (d : Nat) (t : TypeId) (ks : List SK), kindsT P d t = some ks → ∀ D, d ≤ D → EqAtA P D t ks
  | 0, t, ks, h, _, _ => by simp [kindsT] at h
  | d + 1, t, ks, h, D, hD => by
    obtain ⟨D, rfl⟩ : ∃ k, D = k + 1 := ⟨D - 1, by omega⟩
    intro w m g xs ys us zs b hg hx hy he
    have hlen := eqCells_length he
    unfold kindsT at h
    split at h
    · rename_i k h1 h2
      simp at h; subst h
      have : g = false := by simp [aggT, h1] at hg; exact hg
      subst this
      obtain ⟨x, rfl⟩ := List.length_eq_one_iff.1 hlen.1
      obtain ⟨y, rfl⟩ := List.length_eq_one_iff.1 hlen.2
      cases x <;> cases y <;> simp only [eqCells, reduceCtorEq] at he
      rename_i j a l c
      split at he
      · rename_i hk; subst hk
        simp at he; subst he
        cases hx with
        | cons hx t1 => cases t1; cases hy with
          | cons hy t2 => cases t2; cases hx; cases hy; exact run_equalIn_int w D t _ _ _ _ h1
      · simp at he
    · rename_i h1 h2
      simp at h; subst h
      have : g = false := by simp [aggT, h1] at hg; exact hg
      subst this
      obtain ⟨x, rfl⟩ := List.length_eq_one_iff.1 hlen.1
      obtain ⟨y, rfl⟩ := List.length_eq_one_iff.1 hlen.2
      cases x <;> cases y <;> simp only [eqCells, reduceCtorEq] at he
      simp at he; subst he
      cases hx with
      | cons hx t1 => cases t1; cases hy with
        | cons hy t2 => cases t2; cases hx; cases hy; exact run_equalIn_bool' w D t _ _ h1
    · rename_i h1 h2
      simp at h; subst h
      have : g = false := by simp [aggT, h1] at hg; exact hg
      subst this
      obtain ⟨x, rfl⟩ := List.length_eq_one_iff.1 hlen.1
      obtain ⟨y, rfl⟩ := List.length_eq_one_iff.1 hlen.2
      cases x <;> cases y <;> simp only [eqCells, reduceCtorEq] at he
      simp at he; subst he
      cases hx with
      | cons hx t1 => cases t1; cases hy with
        | cons hy t2 => cases t2; cases hx; cases hy; exact run_equalIn_string w D t _ _ h1
    · rename_i fs n h1 h2
      have : g = true := by simp [aggT, h1] at hg; exact hg
      subst this
      split at h
      · simp at h
      · rename_i hst
        have hfo : P.fieldsOf t = fs := by simp [Program.fieldsOf, h1]
        have hn := kindsFs_length (kinds_sized d) _ _ _ _ h
        simp only [valOf, if_true]
        rw [run_equalIn_struct w D t ⟨us⟩ ⟨zs⟩ (by rw [hfo]; exact h1) (by simpa using hst), hfo]
        exact run_eqFields_flat (fun t ks hk => ⟨eq_flat d t ks hk D (by omega), kinds_sized d t ks hk⟩) _ _ _ _ h w m xs ys us zs b hx hy (by omega) (by omega) (by simpa using he)
    · rename_i len e n h1 h2
      have : g = true := by simp [aggT, h1] at hg; exact hg
      subst this
      split at h
      · rename_i z ks' hz hk
        split at h
        · rename_i hn
          simp at h; subst h
          obtain ⟨hs, g, hge, hg1⟩ := kinds_sized d _ _ hk
          have hi : ∃ i, P.info? e = some i := by
            simp only [sizeT, Option.map_eq_some_iff] at hz
            obtain ⟨i, hi, _⟩ := hz
            exact ⟨i, hi⟩
          obtain ⟨i, hi⟩ := hi
          simp only [valOf, if_true]
          rw [run_equalIn_array w D ⟨us⟩ ⟨zs⟩ h1 hi, cellsOf_eq hs, List.range_eq_range']
          rw [repeatK_length] at hlen
          exact run_eqItems_flat (eq_flat d e ks' hk D (by omega)) hs hge hg1 len 0 w m xs ys us zs b hx hy (by simpa using hlen.1) (by simpa using hlen.2) (by simpa using he)
        · simp at h
      · simp at h
    · simp at h
end
end Go.AM
namespace Go.AM
section
variable {P : Program} {m : CM}
theorem eqFlat_run {w : World} {g : Bool} {ks : List SK} {x y : AV} {u z : Value} {b : Bool} {t : TypeId} {d D : Nat} (hk : kindsT P d t = some ks) (hg : aggT P t = some g) (hD : d ≤ D) (hx : VR m x u) (hy : VR m y z) (h : eqFlatA g ks x y = some b) :
    (Op.equalIn D t u z).run P w = .ok b w := by
  have H := eq_flat d t ks hk D hD
  cases g with
  | true =>
    cases hx <;> simp only [eqFlatA, reduceCtorEq] at h
    cases hy <;> simp only [eqFlatA, reduceCtorEq] at h
    rename_i h1 _ _ h2
    exact H w m true _ _ _ _ b hg h1 h2 h
  | false =>
    simp only [eqFlatA] at h
    exact H w m false [x] [y] [u] [z] b hg (.cons hx .nil) (.cons hy .nil) h
def CheckAtA (P : Program) (em : Bool) (D : Nat) (t : TypeId) (n : Nat) : Prop :=
  ∀ (w : World) (g : Bool) (us : List Value), aggT P t = some g → us.length = n → (Instr.checkKey em D t (valOf g us)).run P w = .ok () w
theorem kindsFs_names {P : Program} {f : TypeId → Option (List SK)} : ∀ (fs : List Field) (o n : Nat) (l : List SK), kindsFs P f fs o n = some l → ∀ x ∈ fs, x.name ≠ "_" ∧ (∃ ks z, f x.type = some ks ∧ sizeT P x.type = some z)
  | [], o, n, l, h, x, hx => by simp at hx
  | y :: fs, o, n, l, h, x, hx => by
    simp only [kindsFs] at h
    split at h
    · rename_i z ks hz hk
      split at h
      · rename_i hname
        split at h
        · rename_i l' hl'
          simp only [List.mem_cons] at hx
          rcases hx with rfl | hx
          · exact ⟨by simpa using hname.1, ks, z, hk, hz⟩
          · exact kindsFs_names fs _ _ _ hl' x hx
        · simp at h
      · simp at h
    · simp at h
theorem kindsFs_bounds {P : Program} {f : TypeId → Option (List SK)} (hf : ∀ t ks, f t = some ks → Sized P t ks) : ∀ (fs : List Field) (o n : Nat) (l : List SK), kindsFs P f fs o n = some l → ∀ x ∈ fs, ∀ z, sizeT P x.type = some z → x.offset + z ≤ n
  | [], o, n, l, h, x, hx, z, hz => by simp at hx
  | y :: fs, o, n, l, h, x, hx, z, hz => by
    simp only [kindsFs] at h
    split at h
    · rename_i z' ks hz' hk
      split at h
      · rename_i hname
        split at h
        · rename_i l' hl'
          simp only [List.mem_cons] at hx
          rcases hx with rfl | hx
          · rw [hz'] at hz; obtain rfl := Option.some.inj hz
            have := kindsFs_length hf _ _ _ _ hl'
            have h2 := hname.2
            omega
          · exact kindsFs_bounds hf fs _ _ _ hl' x hx z hz
        · simp at h
      · simp at h
    · simp at h
theorem check_flat {em : Bool} : ∀ (d : Nat) (t : TypeId) (ks : List SK), kindsT P d t = some ks → ∀ D, d ≤ D → CheckAtA P em D t ks.length
  | 0, t, ks, h, _, _ => by simp [kindsT] at h
  | d + 1, t, ks, h, D, hD => by
    obtain ⟨D, rfl⟩ : ∃ k, D = k + 1 := ⟨D - 1, by omega⟩
    intro w g us hg hl
    have hs := kinds_sized (d + 1) t ks h
    unfold kindsT at h
    split at h
    · rename_i k h1 h2
      simp only [Instr.checkKey, Sem.run_bind, run_underlying' h1, Result.andThen_ok, Sem.run_pure]
    · rename_i h1 h2
      simp only [Instr.checkKey, Sem.run_bind, run_underlying' h1, Result.andThen_ok, Sem.run_pure]
    · rename_i h1 h2
      simp only [Instr.checkKey, Sem.run_bind, run_underlying' h1, Result.andThen_ok, Sem.run_pure]
    · rename_i fs n h1 h2
      have : g = true := by simp [aggT, h1] at hg; exact hg
      subst this
      split at h
      · simp at h
      · have hnm := kindsFs_names _ _ _ _ h
        have hbd := kindsFs_bounds (kinds_sized d) _ _ _ _ h
        have hn := kindsFs_length (kinds_sized d) _ _ _ _ h
        simp only [valOf, if_true, Instr.checkKey, Sem.run_bind, run_underlying' h1, Result.andThen_ok]
        rw [← Array.forIn_toList]
        have hall : ∀ x ∈ fs.toList, x.name ≠ "_" ∧ ∃ ks' z g', kindsT P d x.type = some ks' ∧ sizeT P x.type = some z ∧ x.offset + z ≤ us.length ∧ aggT P x.type = some g' ∧ z = ks'.length ∧ (g' = false → z = 1) := fun x hx => by
          obtain ⟨hx1, ks', z, hx2, hx3⟩ := hnm x hx
          have hb := hbd x hx z hx3
          obtain ⟨hs1, g', hg', hg1⟩ := kinds_sized d _ _ hx2
          rw [hx3] at hs1
          simp only [Option.some.injEq] at hs1
          exact ⟨hx1, ks', z, g', hx2, hx3, by omega, hg', hs1, fun h => by rw [hs1]; exact hg1 h⟩
        clear hnm hbd hn
        generalize fs.toList = L at hall
        induction L with
        | nil => simp
        | cons x L ih =>
          obtain ⟨hx1, ks', z, g', hx2, hx3, hb, hg', hs1, hg1⟩ := hall x (by simp)
          have p1 := run_part (P := P) (w := w) (off := x.offset) (us := us) hg' hx3 hb hg1
          have p2 := check_flat (em := em) d _ _ hx2 D (by omega) w g' ((us.drop x.offset).take z) hg' (by simp; omega)
          simp only [List.forIn_cons, Sem.run_bind, hx1, ne_eq, not_false_eq_true, if_true, Result.andThen_ok, p1, p2, Sem.run_pure]
          exact ih (fun y hy => hall y (by simp [hy]))
    · rename_i len e n h1 h2
      have : g = true := by simp [aggT, h1] at hg; exact hg
      subst this
      split at h
      · rename_i z ks' hz hk
        split at h
        · rename_i hn
          simp at h; subst h
          obtain ⟨hs1, g', hg', hg1⟩ := kinds_sized d _ _ hk
          have hi := run_sizeOf' (P := P) (w := w) hs1
          rw [repeatK_length] at hl
          simp only [valOf, if_true, Instr.checkKey, Sem.run_bind, run_underlying' h1, Result.andThen_ok]
          simp only [Std.Legacy.Range.forIn_eq_forIn_range', Std.Legacy.Range.size, Nat.sub_zero, Nat.add_one_sub_one, Nat.div_one]
          have hall : ∀ j ∈ List.range' 0 len, j * ks'.length + ks'.length ≤ us.length := fun j hj => by
            simp only [List.mem_range'_1] at hj
            have : j * ks'.length + ks'.length = (j + 1) * ks'.length := by rw [Nat.add_mul]; omega
            rw [this, hl]
            exact Nat.mul_le_mul_right _ (by omega)
          generalize List.range' 0 len = is at hall
          induction is with
          | nil => simp
          | cons j is ih =>
            have hb := hall j (by simp)
            have p1 := run_part (P := P) (w := w) (off := j * ks'.length) (us := us) hg' hs1 hb hg1
            have p2 := check_flat (em := em) d _ _ hk D (by omega) w g' ((us.drop (j * ks'.length)).take ks'.length) hg' (by simp; omega)
            simp only [List.forIn_cons, Sem.run_bind, hi, Result.andThen_ok, p1, p2, Sem.run_pure]
            exact ih (fun y hy => hall y (by simp [hy]))
        · simp at h
      · simp at h
    · simp at h
theorem beqB (a b : ByteArray) : (a == b) = (a.toList == b.toList) := beq_toListBytes a b
theorem eqFlat_shape {g : Bool} {ks : List SK} {x y : AV} {b : Bool} (h : eqFlatA g ks x y = some b) {u : Value} (hx : VR m x u) : ∃ us, u = valOf g us ∧ us.length = ks.length := by
  cases g with
  | true =>
    cases hx <;> simp only [eqFlatA, reduceCtorEq] at h
    rename_i xs us hv
    cases y <;> simp only [reduceCtorEq] at h
    have := (eqCells_length h).1
    exact ⟨us, rfl, by rw [VRs.length hv, this]⟩
  | false =>
    simp only [eqFlatA] at h
    have := (eqCells_length h).1
    exact ⟨[u], rfl, by simpa using this⟩
theorem sameBits_cells {m : CM} : ∀ {ks : List SK} {xs ys : List AV} {us zs : List Value}, VRs m xs us → VRs m ys zs → eqCells ks xs ys = some true → ∀ n, ((zs.zip us).all fun (x, y) => Instr.sameBits n x y) = true
  | ks, [], ys, us, zs, hx, hy, h, n => by cases hx; cases zs <;> simp
  | [], x :: xs, ys, us, zs, hx, hy, h, n => by simp [eqCells] at h
  | k :: ks, x :: xs, [], us, zs, hx, hy, h, n => by cases k <;> cases x <;> simp [eqCells] at h
  | k :: ks, x :: xs, y :: ys, us, zs, hx, hy, h, n => by
    cases hx with
    | cons hx1 hx2 =>
      cases hy with
      | cons hy1 hy2 =>
        cases k <;> cases x <;> cases y <;> simp only [eqCells, reduceCtorEq] at h
        case i.int.int j a l c =>
          split at h
          · rename_i hk
            simp only [Option.map_eq_some_iff, Bool.and_eq_true, beq_iff_eq] at h
            obtain ⟨b', h', rfl, rfl⟩ := h
            cases hx1; cases hy1
            simp only [List.zip_cons_cons, List.all_cons, sameBits_cells hx2 hy2 h' n, Bool.and_true]
            cases n <;> simp [Instr.sameBits, hk]
          · simp at h
        case b.bool.bool a c =>
          simp only [Option.map_eq_some_iff, Bool.and_eq_true, beq_iff_eq] at h
          obtain ⟨b', h', rfl, rfl⟩ := h
          cases hx1; cases hy1
          simp only [List.zip_cons_cons, List.all_cons, sameBits_cells hx2 hy2 h' n, Bool.and_true]
          cases n <;> simp [Instr.sameBits]
        case s.str.str a c =>
          simp only [Option.map_eq_some_iff, Bool.and_eq_true, beq_iff_eq] at h
          obtain ⟨b', h', h2, rfl⟩ := h
          cases hx1; cases hy1
          simp only [List.zip_cons_cons, List.all_cons, sameBits_cells hx2 hy2 h' n, Bool.and_true]
          cases n <;> simp [Instr.sameBits, beqB, h2]
theorem eqFlat_same {g : Bool} {ks : List SK} {x y : AV} {u z : Value} (hx : VR m x u) (hy : VR m y z) (h : eqFlatA g ks x y = some true) : Instr.sameBits 10000 z u = true := by
  cases g with
  | true =>
    cases hx <;> simp only [eqFlatA, reduceCtorEq] at h
    cases hy <;> simp only [reduceCtorEq] at h
    rename_i h1 _ _ h2
    have l1 := VRs.length h1
    have l2 := VRs.length h2
    have l3 := eqCells_length h
    have := sameBits_cells h1 h2 h 9999
    show Instr.sameBits (9999 + 1) _ _ = true
    simp only [Instr.sameBits, Bool.and_eq_true, beq_iff_eq]
    exact ⟨by simp; omega, this⟩
  | false =>
    simp only [eqFlatA] at h
    have := sameBits_cells (.cons hx .nil) (.cons hy .nil) h 10000
    simpa using this
theorem find_run {kt : TypeId} {d : Nat} {g : Bool} {ks : List SK} (hk : kindsT P d kt = some ks) (hg : aggT P kt = some g) (hd : d ≤ 10000) {k : AV} {kc : Value} (hkc : VR m k kc) {w : World} :
    ∀ {es : List (AV × AV)} {es' : List MapEntry}, MapR m es es' → ∀ (i : Nat) (r : Option AV), findA g ks k es = some r →
      ∃ r', (Instr.findAsking kt kc es' i).run P w = .ok r' w ∧
        (match r, r' with
         | none, none => ∀ v, putA g ks k v es = some (es ++ [(k, v)])
         | some v, some (j, u) => VR m v u ∧ ∃ q k' e, j = i + q ∧ es[q]? = some (k', v) ∧ es'[q]? = some e ∧ eqFlatA g ks k k' = some true ∧ ∀ nv, putA g ks k nv es = some (es.set q (k, nv))
         | _, _ => False)
  | [], es', hm, i, r, h => by
    cases hm
    simp only [findA, Option.some.injEq] at h
    subst h
    exact ⟨none, by simp [Instr.findAsking], fun v => by simp [putA]⟩
  | (k', v') :: es, es', hm, i, r, h => by
    cases hm with
    | cons hk' hv' t =>
      rename_i e es''
      simp only [findA] at h
      cases hq : eqFlatA g ks k k' with
      | none => simp [hq] at h
      | some b =>
        have heq := eqFlat_run (w := w) (D := Op.maxDepth) hk hg hd hkc hk' hq
        cases b with
        | true =>
          simp only [hq, Option.some.injEq] at h
          subst h
          refine ⟨some (i, e.val), ?_, hv', 0, k', e, by omega, rfl, rfl, hq, fun nv => by simp [putA, hq]⟩
          simp only [Instr.findAsking, Op.equal, Sem.run_bind, heq, Result.andThen_ok, if_true, Sem.run_pure]
        | false =>
          simp only [hq] at h
          obtain ⟨r', h1, h2⟩ := find_run hk hg hd hkc (w := w) t (i + 1) r h
          refine ⟨r', ?_, ?_⟩
          · simp only [Instr.findAsking, Op.equal, Sem.run_bind, heq, Result.andThen_ok, Bool.false_eq_true, if_false]
            exact h1
          · cases r with
            | none =>
              cases r' with
              | none => exact fun v => by simp [putA, hq, h2 v]
              | some x => exact h2
            | some v =>
              cases r' with
              | none => exact h2
              | some x =>
                obtain ⟨hv, q, k2, e2, hj, hq1, hq2, hq3, hq4⟩ := h2
                exact ⟨hv, q + 1, k2, e2, by omega, by simpa using hq1, by simpa using hq2, hq3, fun nv => by simp [putA, hq, hq4 nv]⟩
theorem sameNow_run {kt : TypeId} {kd : TypeDesc} (hu : P.underlying kt = some kd) {u z : Value} {b : Bool} (h : Instr.sameNow kd u z = some b) {w : World} : (Op.equal kt u z).run P w = .ok b w := by
  have hD : Op.maxDepth = 9999 + 1 := rfl
  unfold Instr.sameNow at h
  split at h
  · split at h
    · rename_i hk
      simp only [Option.some.injEq] at h
      subst h; subst hk
      unfold Op.equal
      rw [hD]
      exact run_equalIn_int w 9999 kt _ _ _ _ hu
    · simp at h
  · simp only [Option.some.injEq] at h
    subst h
    unfold Op.equal
    rw [hD, beqB]
    exact run_equalIn_string w 9999 kt _ _ hu
  · simp only [Option.some.injEq] at h
    subst h
    unfold Op.equal
    rw [hD]
    exact run_equalIn_bool' w 9999 kt _ _ hu
  · simp at h
theorem findNow_run {kt : TypeId} {kd : TypeDesc} (hu : P.underlying kt = some kd) {kc : Value} {w : World} : ∀ {es : List MapEntry} {i : Nat} {r : Option (Nat × Value)}, Instr.findNow kd kc es i = some r → (Instr.findAsking kt kc es i).run P w = .ok r w
  | [], i, r, h => by
    simp only [Instr.findNow, Option.some.injEq] at h
    subst h; simp [Instr.findAsking]
  | e :: es, i, r, h => by
    simp only [Instr.findNow] at h
    split at h
    · rename_i hs
      simp only [Option.some.injEq] at h
      subst h
      simp only [Instr.findAsking, Sem.run_bind, sameNow_run hu hs, Result.andThen_ok, if_true, Sem.run_pure]
    · rename_i hs
      simp only [Instr.findAsking, Sem.run_bind, sameNow_run hu hs, Result.andThen_ok, Bool.false_eq_true, if_false]
      exact findNow_run hu h
    · simp at h
theorem findKey_run {kt : TypeId} {kc : Value} {es : List MapEntry} {r : Option (Nat × Value)} {w : World} {kd : TypeDesc} (hu : P.underlying kt = some kd) (h : (Instr.findAsking kt kc es 0).run P w = .ok r w) :
    (Instr.findKey kt kc es).run P w = .ok r w := by
  simp only [Instr.findKey, Sem.run_bind, run_underlying' hu, Result.andThen_ok]
  split
  · rename_i r' hr'
    rw [findNow_run hu hr'] at h
    rw [Sem.run_pure]; exact h
  · exact h
theorem kinds_under {d : Nat} {t : TypeId} {ks : List SK} (h : kindsT P d t = some ks) : ∃ kd, P.underlying t = some kd := by
  obtain ⟨_, g, hg, _⟩ := kinds_sized d t ks h
  unfold aggT at hg
  split at hg
  · exact ⟨_, by assumption⟩
  · exact ⟨_, by assumption⟩
  · exact ⟨_, by assumption⟩
  · simp at hg
end
section
variable {P : Program} {base : Array Obj} {m : CM} {H H' : AH} {w : World} {v : AV}
theorem run_getObj_map {r : Nat} {es : Array MapEntry} {clk : Nat} (h : w.heap[r]? = some (.map es clk)) : (getObj r).run P w = .ok (.map es clk) w := by
  simp [getObj, Sem.run, h]
theorem val_lookup {t kt et : TypeId} {d : Nat} {g ok : Bool} {ks : List SK} {zv : Value} {zero x k : AV} {u kc : Value} (hr : Rel P base m H w) (ht : P.underlying t = some (.map kt et)) (hk : kindsT P d kt = some ks) (hg : aggT P kt = some g) (hd : d ≤ 10000)
    (hz : zeroT P et = some zv) (hzv : VR m zero zv) (hx : VR m x u) (hkc : VR m k kc) (h : opLookup g ks zero ok x k H = some (v, H')) : Val P base m H w (Instr.lookup t u kc ok) v H' := by
  obtain ⟨kd, hkd⟩ := kinds_under hk
  unfold opLookup at h
  split at h
  · simp at h
  · rename_i bq hq
    obtain ⟨us, rfl, hul⟩ := eqFlat_shape hq hkc
    have hck : ∀ em w, (Instr.checkKey em 10000 kt (valOf g us)).run P w = .ok () w := fun em w => check_flat d kt ks hk 10000 hd w g us hg hul
    have hfin : ∀ (val : AV) (vc : Value) (okb : Bool), VR m val vc → VR m (if ok then .tuple [val, .bool okb] else val) (if ok = true then .tuple #[vc, .bool okb] else vc) := fun val vc okb hv => by
      cases ok with
      | true => exact .tuple (.cons hv (.cons (.bool okb) .nil))
      | false => exact hv
    cases hx <;> simp only [reduceCtorEq] at h
    · rename_i b c n hb
      split at h
      · rename_i es hes
        obtain ⟨_, h2⟩ := hr.blk b c 0 n hb
        rw [hes] at h2
        obtain ⟨_, _, es', clk, h3, h4⟩ := h2
        cases hf : findA g ks k es with
        | none => simp [hf] at h
        | some r =>
          obtain ⟨r', h5, h6⟩ := find_run hk hg hd hkc (w := w) h4 0 r hf
          have h7 := findKey_run hkd h5
          cases r with
          | none =>
            cases r' with
            | some x => exact h6.elim
            | none =>
              simp only [hf, Option.some.injEq, Prod.mk.injEq] at h
              obtain ⟨rfl, rfl⟩ := h
              refine Val.same hr ?_ (hfin zero zv false hzv)
              simp only [Instr.lookup, Sem.run_bind, run_underlying' ht, Result.andThen_ok, run_getObj_map h3, Sem.run_pure, hck, h7, run_zeroValue' hz]
          | some v' =>
            cases r' with
            | none => exact h6.elim
            | some x =>
              obtain ⟨j, uv⟩ := x
              simp only [hf, Option.some.injEq, Prod.mk.injEq] at h
              obtain ⟨rfl, rfl⟩ := h
              refine Val.same hr ?_ (hfin v' uv true h6.1)
              simp only [Instr.lookup, Sem.run_bind, run_underlying' ht, Result.andThen_ok, run_getObj_map h3, Sem.run_pure, hck, h7]
      · simp at h
    · simp only [Option.some.injEq, Prod.mk.injEq] at h
      obtain ⟨rfl, rfl⟩ := h
      refine Val.same hr ?_ (hfin zero zv false hzv)
      have h7 : (Instr.findKey kt (valOf g us) []).run P w = .ok none w := findKey_run hkd (by simp [Instr.findAsking])
      simp only [Instr.lookup, Sem.run_bind, run_underlying' ht, Result.andThen_ok, Sem.run_pure, hck, h7, run_zeroValue' hz]
theorem MapR.push : ∀ {m : CM} {es : List (AV × AV)} {es' : List MapEntry}, MapR m es es' → ∀ {k v : AV} {e : MapEntry}, VR m k e.key → VR m v e.val → MapR m (es ++ [(k, v)]) (es' ++ [e])
  | _, _, _, .nil, _, _, _, hk, hv => .cons hk hv .nil
  | _, _, _, .cons h1 h2 t, _, _, _, hk, hv => .cons h1 h2 (MapR.push t hk hv)
theorem MapR.set : ∀ {m : CM} {es : List (AV × AV)} {es' : List MapEntry}, MapR m es es' → ∀ (q : Nat) {k v : AV} {e : MapEntry}, VR m k e.key → VR m v e.val → MapR m (es.set q (k, v)) (es'.set q e)
  | _, _, _, .nil, _, _, _, _, hk, hv => by simpa using MapR.nil
  | _, _, _, .cons h1 h2 t, 0, _, _, _, hk, hv => .cons hk hv t
  | _, _, _, .cons h1 h2 t, q + 1, _, _, _, hk, hv => .cons h1 h2 (MapR.set t q hk hv)
theorem MapR.get : ∀ {m : CM} {es : List (AV × AV)} {es' : List MapEntry}, MapR m es es' → ∀ (q : Nat) {k v : AV} {e : MapEntry}, es[q]? = some (k, v) → es'[q]? = some e → VR m k e.key ∧ VR m v e.val
  | _, _, _, .nil, q, _, _, _, h, _ => by simp at h
  | _, _, _, .cons h1 h2 t, 0, _, _, _, h, h' => by
    simp at h h'
    obtain ⟨rfl, rfl⟩ := h
    subst h'
    exact ⟨h1, h2⟩
  | _, _, _, .cons h1 h2 t, q + 1, _, _, _, h, h' => MapR.get t q (by simpa using h) (by simpa using h')
theorem run_setObj {r : Nat} {o o' : Obj} (h : w.heap[r]? = some o) (hc : ∀ a b c, o ≠ .cells a b c) : (setObj r o').run P w = .ok () { w with heap := w.heap.setIfInBounds r o' } := by
  cases o <;> first
    | (simp only [setObj, Sem.run, h]; done)
    | exact absurd rfl (hc _ _ _)
theorem putHeap_get {o : Obj} {c k : Nat} (hk : k ≠ c) : ({ w with heap := w.heap.setIfInBounds c o } : World).heap[k]? = w.heap[k]? := by
  show (w.heap.setIfInBounds c o)[k]? = _
  rw [Array.getElem?_setIfInBounds_ne (fun e => hk e.symm)]
theorem putHeap_same {o : Obj} {c : Nat} (hc : c < w.heap.size) : ({ w with heap := w.heap.setIfInBounds c o } : World).heap[c]? = some o := by
  show (w.heap.setIfInBounds c o)[c]? = _
  simp [hc]
theorem put_find {g : Bool} {ks : List SK} {k y : AV} : ∀ {es es2 : List (AV × AV)}, putA g ks k y es = some es2 → ∃ r, findA g ks k es = some r
  | [], _, _ => ⟨none, rfl⟩
  | (k', v') :: es, es2, h => by
    simp only [putA] at h
    cases hq : eqFlatA g ks k k' with
    | none => simp [hq] at h
    | some b =>
      cases b with
      | true => exact ⟨some v', by simp [findA, hq]⟩
      | false =>
        simp only [hq, Option.map_eq_some_iff] at h
        obtain ⟨l, hl, _⟩ := h
        obtain ⟨r, hr⟩ := put_find hl
        exact ⟨r, by simp [findA, hq, hr]⟩
theorem out_update {t kt et : TypeId} {d : Nat} {g : Bool} {ks : List SK} {x k y : AV} {u kc z : Value} (hr : Rel P base m H w) (ht : P.underlying t = some (.map kt et)) (hk : kindsT P d kt = some ks) (hg : aggT P kt = some g) (hd : d ≤ 10000)
    (hx : VR m x u) (hkc : VR m k kc) (hy : VR m y z) (h : opUpdate g ks x k y H = some (v, H')) : Out P base m H w (do Instr.mapUpdate t u kc z; pure .skip) v H' := by
  obtain ⟨kd, hkd⟩ := kinds_under hk
  cases hx <;> simp only [opUpdate, reduceCtorEq] at h
  rename_i b c n hb
  split at h
  · rename_i hq
    obtain ⟨us, rfl, hul⟩ := eqFlat_shape hq hkc
    have hck : ∀ em w, (Instr.checkKey em 10000 kt (valOf g us)).run P w = .ok () w := fun em w => check_flat d kt ks hk 10000 hd w g us hg hul
    split at h
    · rename_i es hes
      split at h
      · rename_i es2 hput
        simp only [Option.some.injEq, Prod.mk.injEq] at h
        obtain ⟨rfl, rfl⟩ := h
        obtain ⟨hc, h2⟩ := hr.blk b c 0 n hb
        rw [hes] at h2
        obtain ⟨hN, _, es', clk, h3, h4⟩ := h2
        obtain ⟨r, hf⟩ := put_find hput
        obtain ⟨r', h5, h6⟩ := find_run hk hg hd hkc (w := w) h4 0 r hf
        have h7 := findKey_run hkd h5
        have hnc : ∀ a b c, Obj.map es' clk ≠ .cells a b c := fun _ _ _ => by simp
        cases r with
        | none =>
          cases r' with
          | some x => exact h6.elim
          | none =>
            have hp := h6 y
            rw [hput, Option.some.injEq] at hp
            subst hp
            obtain ⟨q1, q2⟩ := hr.turn (w' := { w with heap := w.heap.setIfInBounds c (.map (es'.push { key := valOf g us, val := z, born := clk }) (clk + 1)) }) hb ⟨_, hes, rfl⟩ hN (fun k hk => putHeap_get hk) (by simp) (oA := .map (es ++ [(k, y)]))
              ⟨hN, rfl, _, _, putHeap_same hc, by rw [Array.toList_push]; exact h4.push hkc hy⟩
            refine ⟨.skip, undef, _, m, ?_, .inr ⟨rfl, rfl⟩, .tuple .nil, q1, q2⟩
            simp only [Instr.mapUpdate, Sem.run_bind, run_underlying' ht, Result.andThen_ok, run_getObj_map h3, hck, h7, run_setObj h3 hnc, Sem.run_pure]
        | some v' =>
          cases r' with
          | none => exact h6.elim
          | some x =>
            obtain ⟨j, uv⟩ := x
            obtain ⟨_, q, k', e, hj, hq1, hq2, hq3, hq4⟩ := h6
            have hp := hq4 y
            rw [hput, Option.some.injEq] at hp
            subst hp
            obtain rfl : j = q := by omega
            obtain ⟨hke, hve⟩ := h4.get j hq1 hq2
            have hsame := eqFlat_same hkc hke hq3
            have hq2' : es'[j]? = some e := by simpa using hq2
            have hjlt : j < es'.size := by
              rcases Nat.lt_or_ge j es'.size with h | h
              · exact h
              · simp [Array.getElem?_eq_none h] at hq2'
            have hmod : (es'.modify j fun e => { e with key := valOf g us, val := z }).toList = es'.toList.set j { e with key := valOf g us, val := z } := by
              apply List.ext_getElem?
              intro i
              rw [Array.getElem?_toList, Array.getElem?_modify, List.getElem?_set, Array.getElem?_toList]
              by_cases hij : j = i
              · subst hij
                simp only [if_true, hq2', Option.map_some]
                rw [if_pos (by simpa using hjlt)]
              · simp [hij]
            obtain ⟨q1, q2⟩ := hr.turn (w' := { w with heap := w.heap.setIfInBounds c (.map (es'.modify j fun e => { e with key := valOf g us, val := z }) clk) }) hb ⟨_, hes, rfl⟩ hN (fun k hk => putHeap_get hk) (by simp) (oA := .map (es.set j (k, y)))
              ⟨hN, rfl, _, _, putHeap_same hc, by rw [hmod]; exact h4.set j hkc hy⟩
            refine ⟨.skip, undef, _, m, ?_, .inr ⟨rfl, rfl⟩, .tuple .nil, q1, q2⟩
            have hks : (Instr.keyThatStays e.key (valOf g us)).run P w = .ok (valOf g us) w := by
              simp [Instr.keyThatStays, hsame]
            simp only [Instr.mapUpdate, Sem.run_bind, run_underlying' ht, Result.andThen_ok, run_getObj_map h3, hck, h7, hq2', Option.map_some, Option.getD_some, hks, run_setObj h3 hnc, Sem.run_pure]
      · simp at h
    · simp at h
  · simp at h
end
end Go.AM
namespace Go.AM
section
variable {P : Program} {base : Array Obj} {m : CM} {H H' : AH} {w : World} {nt : Nat} {e : Env} {a : Act} {v : AV}
theorem parts_vr (he : EnvR m e a.tmps) {place : Nat → Option (Nat × Nat)} : ∀ {ps : List (Nat × Operand)} {qs : List (Nat × Nat × AOpd)}, cParts nt place ps = some qs → ∀ {rs : List (Nat × Nat × AV)}, partVals e qs = some rs →
    PartsR m place rs (ps.map fun p => (p.1, a.eval p.2))
  | [], qs, h, rs, h2 => by
    simp [cParts] at h; subst h
    simp [partVals] at h2; subst h2
    exact .nil
  | (i, x) :: ps, qs, h, rs, h2 => by
    simp only [cParts] at h
    split at h
    · rename_i o n y hp hy
      split at h
      · rename_i l hl
        simp at h; subst h
        simp only [partVals] at h2
        split at h2
        · rename_i u hu
          split at h2
          · rename_i us hus
            simp at h2; subst h2
            exact .cons hp (opd_vr he hy hu) (parts_vr he hl hus)
          · simp at h2
        · simp at h2
      · simp at h
    · simp at h
theorem map_pair (ρ : Operand → Value) (ps : Array (Nat × Operand)) : (ps.map fun (i, x) => (i, ρ x)).toList = ps.toList.map fun p => (p.1, ρ p.2) := by
  simp
theorem mapM_places {P : Program} {w : World} : ∀ (fs : List Field), (fs.all fun f => (sizeT P f.type).isSome) = true →
    (fs.mapM fun f => (do pure (f.offset, ← sizeOf f.type) : Sem (Nat × Nat))).run P w = .ok (fs.map fun f => (f.offset, (sizeT P f.type).getD 0)) w
  | [], _ => by simp
  | f :: fs, h => by
    simp only [List.all_cons, Bool.and_eq_true] at h
    obtain ⟨n, hn⟩ := Option.isSome_iff_exists.1 h.1
    rw [List.mapM_cons]
    simp only [Sem.run_bind, run_sizeOf' hn, Result.andThen_ok, Sem.run_pure, mapM_places fs h.2, List.map_cons, hn, Option.getD_some]
theorem val_build_struct {t : TypeId} {fs : Array Field} {zero : List AV} {ps : Array (Nat × Operand)} {qs : List (Nat × Nat × AOpd)} {rs : List (Nat × Nat × AV)} (hr : Rel P base m H w) (he : EnvR m e a.tmps) (ht : P.underlying t = some (.struct fs)) (hz : zeroL P t = some zero)
    (hall : (fs.toList.all fun f => (sizeT P f.type).isSome) = true) (hp : cParts nt (fieldPlaces P fs) ps.toList = some qs) (hv : partVals e qs = some rs) (h : opBuild zero rs H = some (v, H')) :
    Val P base m H w (Instr.build t (ps.map fun (i, x) => (i, a.eval x))) v H' := by
  unfold opBuild at h
  split at h
  · rename_i cs hcs
    simp only [Option.some.injEq, Prod.mk.injEq] at h
    obtain ⟨rfl, rfl⟩ := h
    obtain ⟨zv, h1, h2⟩ := zeroL_vrs (m := m) hz
    have hpr := parts_vr he hp hv
    have hplace : ∀ i, fieldPlaces P fs i = ((fs.toList.map fun f => (f.offset, (sizeT P f.type).getD 0)).toArray)[i]? := fun i => by
      simp only [fieldPlaces]
      cases hi : fs[i]? with
      | none => simp [hi]
      | some f =>
        have hmem : f ∈ fs.toList := by
          have := Array.mem_of_getElem? hi
          simpa using this
        have hs := List.all_eq_true.1 hall f hmem
        obtain ⟨n, hn⟩ := Option.isSome_iff_exists.1 hs
        simp [hi, hn]
    have hpr' : PartsR m (fun i => ((fs.toList.map fun f => (f.offset, (sizeT P f.type).getD 0)).toArray)[i]?) rs (ps.toList.map fun p => (p.1, a.eval p.2)) := by
      have : (fun i => ((fs.toList.map fun f => (f.offset, (sizeT P f.type).getD 0)).toArray)[i]?) = fieldPlaces P fs := funext fun i => (hplace i).symm
      rw [this]; exact hpr
    obtain ⟨arr', h3, h4⟩ := fill_run hpr' h2 hcs
    refine Val.same hr ?_ (.agg h4)
    simp only [Instr.build, Sem.run_bind, run_zeroValue' h1, Result.andThen_ok, run_underlying' ht]
    rw [Array.mapM_eq_mapM_toList]
    simp only [Sem.run_map, mapM_places fs.toList hall, Result.andThen_ok]
    rw [map_pair, h3]
    rfl
  · simp at h
theorem val_build_array {t el : TypeId} {len n : Nat} {zero : List AV} {ps : Array (Nat × Operand)} {qs : List (Nat × Nat × AOpd)} {rs : List (Nat × Nat × AV)} (hr : Rel P base m H w) (he : EnvR m e a.tmps) (ht : P.underlying t = some (.array len el)) (hz : zeroL P t = some zero)
    (hn : sizeT P el = some n) (hp : cParts nt (fun i => some (i * n, n)) ps.toList = some qs) (hv : partVals e qs = some rs) (h : opBuild zero rs H = some (v, H')) :
    Val P base m H w (Instr.build t (ps.map fun (i, x) => (i, a.eval x))) v H' := by
  unfold opBuild at h
  split at h
  · rename_i cs hcs
    simp only [Option.some.injEq, Prod.mk.injEq] at h
    obtain ⟨rfl, rfl⟩ := h
    obtain ⟨zv, h1, h2⟩ := zeroL_vrs (m := m) hz
    have hpr := parts_vr he hp hv
    obtain ⟨arr', h3, h4⟩ := fill_run hpr h2 hcs
    refine Val.same hr ?_ (.agg h4)
    simp only [Instr.build, Sem.run_bind, run_zeroValue' h1, Result.andThen_ok, run_underlying' ht, run_sizeOf' hn]
    rw [map_pair, h3]
    rfl
  · simp at h
theorem repeatL_length (z : List AV) : ∀ n, (repeatL z n).length = n * z.length
  | 0 => by simp [repeatL]
  | n + 1 => by simp [repeatL, repeatL_length z n, Nat.add_mul]; omega
theorem repeatL_get (z : List AV) : ∀ (n i : Nat), i < n * z.length → (repeatL z n)[i]? = z[i % z.length]?
  | 0, i, h => by simp at h
  | n + 1, i, h => by
    have hz : 0 < z.length := by
      rcases Nat.eq_zero_or_pos z.length with h0 | h0
      · rw [h0] at h; simp at h
      · exact h0
    simp only [repeatL]
    by_cases hi : i < z.length
    · rw [List.getElem?_append_left hi, Nat.mod_eq_of_lt hi]
    · rw [List.getElem?_append_right (by omega), repeatL_get z n (i - z.length) (by rw [Nat.add_mul] at h; omega)]
      congr 1
      rw [Nat.mod_eq_sub_mod (by omega : z.length ≤ i)]
theorem zeros_vrs {zero : List AV} {zv : Array Value} {k n : Nat} (hz : VRs m zero zv.toList) (hzl : zero.length = n) (hn : 0 < n) : VRs m (repeatL zero k) ((Array.range (k * n)).map (zv[· % zv.size]!)).toList := by
  have hl := VRs.length hz
  simp only [Array.length_toList] at hl
  refine VRs.of_get (by simp [repeatL_length, hzl]) fun i v hv => ?_
  have hi : i < k * n := by
    rcases Nat.lt_or_ge i (k * n) with h | h
    · exact h
    · rw [List.getElem?_eq_none (by rw [repeatL_length, hzl]; exact h)] at hv; simp at hv
  rw [repeatL_get zero k i (by rw [hzl]; exact hi), hzl] at hv
  obtain ⟨u, h1, h2⟩ := VRs.get hz _ _ hv
  refine ⟨u, ?_, h2⟩
  have hlt : i % n < zv.size := by rw [hl, hzl]; exact Nat.mod_lt _ hn
  simp only [Array.getElem?_toList, Array.getElem?_map, Array.getElem?_range, hi, if_true, Option.map_some]
  have hzs : zv.size = n := by omega
  rw [hzs]
  have h1' : zv[i % n]? = some u := by simpa using h1
  congr 1
  rw [getElem!_pos zv (i % n) hlt]
  rw [Array.getElem?_eq_getElem hlt] at h1'
  exact Option.some.inj h1'
theorem fillA_length : ∀ {ps : List (Nat × Nat × AV)} {zero cs : List AV}, fillA zero ps = some cs → cs.length = zero.length
  | [], zero, cs, h => by simp [fillA] at h; subst h; rfl
  | (o, n, v) :: ps, zero, cs, h => by
    simp only [fillA] at h
    split at h
    · split at h
      · split at h
        · rename_i cells' hw
          rw [fillA_length h, (writeN_length hw).1]
        · simp at h
      · simp at h
    · simp at h
theorem made_mkslice {N : Nat} {t el : TypeId} {len n : Nat} {zero cs : List AV} {ps : Array (Nat × Operand)} {qs : List (Nat × Nat × AOpd)} {rs : List (Nat × Nat × AV)} (hN : N ≤ w.heap.size) (he : EnvR m e a.tmps) (ht : P.underlying t = some (.slice el)) (hz : zeroL P el = some zero)
    (hn : sizeT P el = some n) (hzl : zero.length = n) (hn0 : 0 < n) (hmax : len * n ≤ 2 ^ 24) (hp : cParts nt (fun i => some (i * n, n)) ps.toList = some qs) (hv : partVals e qs = some rs) (hcs : fillA (repeatL zero len) rs = some cs) :
    MadeV P N m w (Instr.buildSlice t len (ps.map fun (i, x) => (i, a.eval x))) (fun b => .slice b 0 len n) (.cells false cs) := by
  obtain ⟨zv, h1, h2⟩ := zeroL_vrs (m := m) hz
  have hpr := parts_vr he hp hv
  have hnot : ¬ (len * n > 2 ^ 24) := by omega
  have go : ∀ za : Array Value, VRs m (repeatL zero len) ((Array.range (len * n)).map (za[· % za.size]!)).toList → ((len * n = 0 ∧ za = #[]) ∨ (len * n ≠ 0 ∧ za = zv.cells)) →
      MadeV P N m w (Instr.buildSlice t len (ps.map fun (i, x) => (i, a.eval x))) (fun b => .slice b 0 len n) (.cells false cs) := fun za h6 h5 => by
    obtain ⟨arr', h3, h4⟩ := fill_run hpr h6 hcs
    obtain ⟨r1, r2⟩ := made_newRow (P := P) (N := N) (w := w) el hN h4
    have hlen : arr'.size = len * n := by
      have := VRs.length h4
      rw [fillA_length hcs, repeatL_length, hzl] at this
      simpa using this
    refine ⟨_, _, _, ?_, fun b m' hm' hb => ⟨(r2 b m' hm' hb).2.1 len n len (Nat.le_refl _) (by rw [hlen]; exact Nat.le_refl _), (r2 b m' hm' hb).2.2⟩⟩
    rcases h5 with ⟨h0, rfl⟩ | ⟨h0, rfl⟩
    · simp only [Instr.buildSlice, Sem.run_bind, run_underlying' ht, Result.andThen_ok, run_sizeOf' hn, h0, if_true, (by decide : ¬ (0 > 2 ^ 24)), if_false, Sem.run_pure]
      rw [h0] at h3
      rw [map_pair, h3]
      simp only [Sem.run_bind, Sem.run_pure, Result.andThen_ok, r1]
    · simp only [Instr.buildSlice, Sem.run_bind, run_underlying' ht, Result.andThen_ok, run_sizeOf' hn, hnot, if_false, h0, run_zeroValue' h1, Sem.run_pure]
      rw [map_pair, h3]
      simp only [Sem.run_bind, Sem.run_pure, Result.andThen_ok, r1]
  by_cases h0 : len * n = 0
  · refine go #[] ?_ (.inl ⟨h0, rfl⟩)
    have : len = 0 := by
      rcases Nat.mul_eq_zero.1 h0 with h | h
      · exact h
      · omega
    subst this
    simp [repeatL]; exact .nil
  · exact go zv.cells (zeros_vrs h2 hzl hn0) (.inr ⟨h0, rfl⟩)
end
end Go.AM
namespace Go.AM
section
variable {P : Program} {base : Array Obj} {m : CM} {H H' : AH} {w : World} {nt : Nat} {e : Env} {a : Act} {v : AV}
theorem guard_quiet {op : BinOp} {t : TypeId} {x y : Operand} {u z : Value} (h : ∀ (_ : u = .nilIface), False) (h2 : ∀ cs, u = .agg cs → P.eqGuardType P.depth t = false) : (eqGuard op t x y u z).run P w = .ok () w := by
  cases u with
  | nilIface => exact absurd rfl (fun e => h e)
  | agg cs => cases z <;> cases op <;> simp [eqGuard, h2 cs rfl]
  | _ => cases op <;> simp [eqGuard]
theorem val_bin {op : BinOp} {t : TypeId} {ox oy : Operand} {x y : AV} {u z : Value} (hr : Rel P base m H w) (hx : VR m x u) (hy : VR m y z) (h : binA op x y = some v) :
    Val P base m H w (do eqGuard op t ox oy u z; binOp op t u z) v H := by
  have hg : (eqGuard op t ox oy u z).run P w = .ok () w := guard_quiet (fun e => by subst e; cases hx; cases hy <;> simp [binA] at h) (fun cs e => by subst e; cases hx; cases hy <;> simp [binA] at h)
  cases hx <;> cases hy <;> simp only [binA, reduceCtorEq] at h
  · rename_i j x k y
    cases op <;> simp only at h
    case shl =>
      split at h
      · simp at h
      · rename_i hb
        simp only [Option.some.injEq] at h; subst h
        exact Val.same hr (by simp only [Sem.run_bind, hg, Result.andThen_ok, binOp, Op.shift, hb, if_false, Sem.run_pure]) (.int _ _)
    case shr =>
      split at h
      · simp at h
      · rename_i hb
        simp only [Option.some.injEq] at h; subst h
        exact Val.same hr (by simp only [Sem.run_bind, hg, Result.andThen_ok, binOp, Op.shift, hb, if_false, Sem.run_pure]) (.int _ _)
    all_goals
      split at h
      · rename_i hk
        subst hk
        first
          | (simp only [Option.some.injEq] at h; subst h; refine Val.same hr ?_ (.int _ _); simp only [Sem.run_bind, hg, Result.andThen_ok, binOp, ne_eq, not_true_eq_false, if_false, Op.intArith, Op.intBits, Sem.run_pure]; done)
          | (simp only [Option.some.injEq] at h; subst h; refine Val.same hr ?_ (.bool _); simp only [Sem.run_bind, hg, Result.andThen_ok, binOp, ne_eq, not_true_eq_false, if_false, Op.intCmp, Sem.run_pure]; done)
          | (split at h
             · simp at h
             · rename_i h0
               simp only [Option.some.injEq] at h; subst h
               refine Val.same hr ?_ (.int _ _)
               simp only [Sem.run_bind, hg, Result.andThen_ok, binOp, ne_eq, not_true_eq_false, if_false, Op.intDiv, h0, Sem.run_pure])
          | (simp at h)
      · simp at h
  · rename_i x y
    cases op <;> simp only [reduceCtorEq] at h
    case add =>
      split at h
      · simp at h
      · rename_i h0
        simp only [Option.some.injEq] at h; subst h
        exact Val.same hr (by simp only [Sem.run_bind, hg, Result.andThen_ok, binOp, Op.stringOp, h0, if_false, Sem.run_pure]) (.str _)
    all_goals
      simp only [Option.some.injEq] at h; subst h
      exact Val.same hr (by simp only [Sem.run_bind, hg, Result.andThen_ok, binOp, Op.stringOp, Sem.run_pure]) (.bool _)
theorem boolOf_eq {neg : Bool} {x : Option Bool} {r : AV × AH} (h : boolOf H neg x = some r) : ∃ t, x = some t ∧ r = (.bool (t != neg), H) := by
  cases x with
  | none => simp [boolOf] at h
  | some t => simp [boolOf] at h; exact ⟨t, rfl, h.symm⟩
theorem eql_shape {op : BinOp} {neg : Bool} (hop : (op = .eql ∧ neg = false) ∨ (op = .neq ∧ neg = true)) {t : TypeId} {u z : Value} {b : Bool} (h1 : ∀ k n, u ≠ .int k n) (h2 : ∀ s, u ≠ .string s) (h3 : ∀ k s, u ≠ .float k s) (h4 : ∀ k s r, u ≠ .complex k s r) (he : (Op.equal t u z).run P w = .ok b w) :
    (binOp op t u z).run P w = .ok (.bool (b != neg)) w := by
  rcases hop with ⟨rfl, rfl⟩ | ⟨rfl, rfl⟩
  · have : binOp .eql t u z = (do pure (.bool (← Op.equal t u z))) := by
      cases u <;> first | rfl | exact absurd rfl (h1 _ _) | exact absurd rfl (h2 _) | exact absurd rfl (h3 _ _) | exact absurd rfl (h4 _ _ _)
    rw [this]
    simp [he]
  · have : binOp .neq t u z = (do pure (.bool (!(← Op.equal t u z)))) := by
      cases u <;> first | rfl | exact absurd rfl (h1 _ _) | exact absurd rfl (h2 _) | exact absurd rfl (h3 _ _) | exact absurd rfl (h4 _ _ _)
    rw [this]
    simp [he]
theorem val_eqFlat {op : BinOp} {neg g : Bool} (hop : (op = .eql ∧ neg = false) ∨ (op = .neq ∧ neg = true)) {t : TypeId} {ks : List SK} {d : Nat} {ox oy : Operand} {x y : AV} {u z : Value} (hr : Rel P base m H w) (hk : kindsT P d t = some ks) (hg : aggT P t = some g) (hd : d ≤ 10000)
    (hgt : g = true → P.eqGuardType P.depth t = false) (hni : g = false → P.underlying t = some .bool) (hx : VR m x u) (hy : VR m y z) (h : boolOf H neg (eqFlatA g ks x y) = some (v, H')) :
    Val P base m H w (do eqGuard op t ox oy u z; binOp op t u z) v H' := by
  obtain ⟨b, hb, h2⟩ := boolOf_eq h
  obtain ⟨rfl, rfl⟩ := Prod.mk.inj h2
  have he : (Op.equal t u z).run P w = .ok b w := eqFlat_run hk hg hd hx hy hb
  cases g with
  | true =>
    cases hx <;> simp only [eqFlatA, reduceCtorEq] at hb
    rename_i xs us hus
    have hgd : (eqGuard op t ox oy (.agg ⟨us⟩) z).run P w = .ok () w := guard_quiet (fun e => by simp at e) (fun cs _ => hgt rfl)
    refine Val.same hr ?_ (.bool _)
    simp only [Sem.run_bind, hgd, Result.andThen_ok]
    exact eql_shape hop (by simp) (by simp) (by simp) (by simp) he
  | false =>
    have hu := hni rfl
    have hbool : ∃ q, u = .bool q := by
      simp only [eqFlatA] at hb
      have hks : ks = [.b] := by
        cases d with
        | zero => simp [kindsT] at hk
        | succ d =>
          unfold kindsT at hk
          rw [hu] at hk
          split at hk <;> simp_all
      subst hks
      cases x <;> cases y <;> simp only [eqCells, reduceCtorEq] at hb
      cases hx
      exact ⟨_, rfl⟩
    obtain ⟨q, rfl⟩ := hbool
    have hgd : (eqGuard op t ox oy (.bool q) z).run P w = .ok () w := guard_quiet (fun e => by simp at e) (fun cs e => by simp at e)
    refine Val.same hr ?_ (.bool _)
    simp only [Sem.run_bind, hgd, Result.andThen_ok]
    exact eql_shape hop (by simp) (by simp) (by simp) (by simp) he
def nkOf : TypeDesc → Option NK
  | .pointer _ => some .ptr
  | .slice _ => some .slice
  | .map _ _ => some .map
  | .func _ _ _ => some .func
  | _ => none
theorem val_eqNil {op : BinOp} {neg : Bool} (hop : (op = .eql ∧ neg = false) ∨ (op = .neq ∧ neg = true)) {t : TypeId} {kd : TypeDesc} {nk : NK} {ox oy : Operand} {x y : AV} {u z : Value} (hr : Rel P base m H w) (ht : P.underlying t = some kd) (hnk : nkOf kd = some nk)
    (hx : VR m x u) (hy : VR m y z) (h : boolOf H neg (eqNilA nk x y) = some (v, H')) :
    Val P base m H w (do eqGuard op t ox oy u z; binOp op t u z) v H' := by
  obtain ⟨b, hb, h2⟩ := boolOf_eq h
  obtain ⟨rfl, rfl⟩ := Prod.mk.inj h2
  have hD : Op.maxDepth = 9999 + 1 := rfl
  have hgd : (eqGuard op t ox oy u z).run P w = .ok () w := guard_quiet (fun e => by subst e; cases hx; cases nk <;> simp [eqNilA] at hb) (fun cs e => by subst e; cases hx; cases nk <;> simp [eqNilA] at hb)
  have key : (Op.equal t u z).run P w = .ok b w ∧ (∀ k n, u ≠ .int k n) ∧ (∀ s, u ≠ .string s) ∧ (∀ k s, u ≠ .float k s) ∧ (∀ k s r, u ≠ .complex k s r) := by
    cases kd <;> simp only [nkOf, reduceCtorEq, Option.some.injEq] at hnk <;> subst hnk
    all_goals
      cases hx <;> simp only [eqNilA, reduceCtorEq] at hb
      all_goals
        cases hy <;> simp only [reduceCtorEq, Option.some.injEq] at hb
        all_goals
          subst hb
          refine ⟨?_, by simp, by simp, by simp, by simp⟩
          unfold Op.equal
          rw [hD]
          generalize 9999 = D
          simp only [Op.equalIn, Sem.run_bind, run_underlying' ht, Result.andThen_ok]
          rfl
  obtain ⟨he, h1, h2, h3, h4⟩ := key
  refine Val.same hr ?_ (.bool _)
  simp only [Sem.run_bind, hgd, Result.andThen_ok]
  exact eql_shape hop h1 h2 h3 h4 he
theorem val_un {op : UnOp} {x : AV} {u : Value} (hr : Rel P base m H w) (hx : VR m x u) (h : opUn op x H = some (v, H')) : Val P base m H w (Op.unary op u) v H' := by
  cases op <;> cases hx <;> simp only [opUn, reduceCtorEq, Option.some.injEq, Prod.mk.injEq] at h
  · obtain ⟨rfl, rfl⟩ := h
    exact Val.same hr (by simp [Op.unary, Op.intArith]) (.int _ _)
  · obtain ⟨rfl, rfl⟩ := h
    exact Val.same hr (by simp [Op.unary]) (.bool _)
theorem val_toInt {src dst : TypeId} {k j : IntKind} {x : AV} {u : Value} (hr : Rel P base m H w) (h1 : P.underlying src = some (.int j)) (h2 : P.underlying dst = some (.int k)) (hx : VR m x u) (h : opToInt k x H = some (v, H')) : Val P base m H w (convert src dst u) v H' := by
  cases hx <;> simp only [opToInt, reduceCtorEq, Option.some.injEq, Prod.mk.injEq] at h
  obtain ⟨rfl, rfl⟩ := h
  exact Val.same hr (by simp [convert, run_underlying' h1, run_underlying' h2, Conv.intToInt]) (.int _ _)
theorem val_strId {src dst : TypeId} {x : AV} {u : Value} (hr : Rel P base m H w) (h1 : P.underlying src = some .string) (h2 : P.underlying dst = some .string) (hx : VR m x u) (h : opStrId x H = some (v, H')) : Val P base m H w (convert src dst u) v H' := by
  cases hx <;> simp only [opStrId, reduceCtorEq, Option.some.injEq, Prod.mk.injEq] at h
  obtain ⟨rfl, rfl⟩ := h
  exact Val.same hr (by simp [convert, run_underlying' h1, run_underlying' h2]) (.str _)
theorem made_makeMap {N : Nat} {t : TypeId} (hN : N ≤ w.heap.size) : MadeV P N m w (Instr.makeMap t none) (fun b => .map b) (.map []) :=
  ⟨.map (some w.heap.size), .map #[] 0, 0, by simp [Instr.makeMap], fun b m' _ hb => ⟨.map hb, hN, rfl, #[], 0, by simp, .nil⟩⟩
theorem natOf_eq {x : AV} {n : Nat} (h : natOf x = some n) : x = .int .i64 n := by
  unfold natOf at h
  split at h
  · split at h
    · rename_i k h0
      simp only [Option.some.injEq] at h
      subst h
      rw [Int.toNat_of_nonneg h0]
    · simp at h
  · simp at h
theorem made_makeSlice {N : Nat} {t el : TypeId} {n by_ l c : Nat} {zero : List AV} {x y : AV} {u z : Value} (hN : N ≤ w.heap.size) (ht : P.underlying t = some (.slice el)) (hn : sizeT P el = some n) (hb : bytesT P el = some by_) (hz : zeroL P el = some zero) (hzl : zero.length = n) (hn0 : 0 < n)
    (hx : VR m x u) (hy : VR m y z) (hl : natOf x = some l) (hc : natOf y = some c) (hlc : l ≤ c) (hcr : c ≤ roomA) (hbc : by_ * c ≤ roomA) : MadeV P N m w (Instr.makeSlice t u z) (fun b => .slice b 0 l n) (.cells false (repeatL zero c)) := by
  rw [natOf_eq hl] at hx
  rw [natOf_eq hc] at hy
  cases hx; cases hy
  obtain ⟨zv, h1, h2⟩ := zeroL_vrs (m := m) hz
  simp only [bytesT, Option.map_eq_some_iff] at hb
  obtain ⟨i, hi, hib⟩ := hb
  have hroom : roomA = 140737488355328 := rfl
  have hw1 : IntKind.i64.wrap (c : Int) = c := by
    simp [IntKind.wrap, IntKind.bits, IntKind.signed]; omega
  have hw2 : IntKind.i64.wrap (l : Int) = l := by
    simp [IntKind.wrap, IntKind.bits, IntKind.signed]; omega
  have hti : (typeInfo el).run P w = .ok i w := run_typeInfo' hi
  have hbc' : (i.bytes : Int) * (c : Int) ≤ 140737488355328 := by
    rw [← Int.natCast_mul, hib]
    exact Int.ofNat_le.2 hbc
  have hbig : (281474976710656 : Int) = 2 ^ 48 := by decide
  have hcond : ((decide ((c : Int) < 0) || decide ((i.bytes : Int) * (c : Int) > 2 ^ 48)) || decide ((l : Int) < 0) || decide ((l : Int) > (c : Int))) = false := by
    rw [← hbig]
    simp only [Bool.or_eq_false_iff, decide_eq_false_iff_not]
    omega
  have go : ∀ za : Array Value, VRs m (repeatL zero c) ((Array.range (c * n)).map (za[· % za.size]!)).toList → ((c * n = 0 ∧ za = #[]) ∨ (c * n ≠ 0 ∧ za = zv.cells)) →
      MadeV P N m w (Instr.makeSlice t (.int .i64 l) (.int .i64 c)) (fun b => .slice b 0 l n) (.cells false (repeatL zero c)) := fun za h6 h5 => by
    obtain ⟨r1, r2⟩ := made_newRow (P := P) (N := N) (w := w) el hN h6
    refine ⟨_, _, _, ?_, fun b m' hm' hb => ⟨(r2 b m' hm' hb).2.1 l n c hlc (by simp), (r2 b m' hm' hb).2.2⟩⟩
    rcases h5 with ⟨h0, rfl⟩ | ⟨h0, rfl⟩
    · rw [h0] at r1 ⊢
      simp only [Instr.makeSlice, Sem.run_bind, run_underlying' ht, Result.andThen_ok, asInt, asIntOf, Sem.run_pure, hti, hw1, hw2, hcond, Bool.false_eq_true, if_false, run_askRoom, run_sizeOf' hn, Int.toNat_natCast, h0, if_true, r1]
    · simp only [Instr.makeSlice, Sem.run_bind, run_underlying' ht, Result.andThen_ok, asInt, asIntOf, Sem.run_pure, hti, hw1, hw2, hcond, Bool.false_eq_true, if_false, run_askRoom, run_sizeOf' hn, Int.toNat_natCast, h0, run_zeroValue' h1, r1]
  by_cases h0 : c * n = 0
  · refine go #[] ?_ (.inl ⟨h0, rfl⟩)
    have : c = 0 := by
      rcases Nat.mul_eq_zero.1 h0 with h | h
      · exact h
      · omega
    subst this
    simp [repeatL]; exact .nil
  · exact go zv.cells (zeros_vrs h2 hzl hn0) (.inr ⟨h0, rfl⟩)
end
end Go.AM
namespace Go.AM
section
variable {P : Program} {base : Array Obj} {m : CM} {H H' : AH} {w : World} {nt : Nat} {e : Env} {a : Act} {v : AV}
theorem asInt_nat {x : AV} {u : Value} {n : Nat} (hx : VR m x u) (h : natOf x = some n) : u = .int .i64 n := by
  rw [natOf_eq h] at hx
  cases hx; rfl
theorem run_sliceBound {n y : Nat} (code : BoundsCode) (h : n ≤ y) : (Instr.sliceBound (.int .i64 n) y code).run P w = .ok n w := by
  have : (0 : Int) ≤ n ∧ (n : Int) ≤ y := ⟨by omega, by omega⟩
  simp only [Instr.sliceBound, asIntOf, Sem.run_bind, Sem.run_pure, Result.andThen_ok, this, and_self, if_true, Int.toNat_natCast]
theorem run_sliceBounds {len cap l h : Nat} {lo hi : Option AV} {ulo uhi : Option Value} (isSl : Bool) (hlo : (lo = none ∧ ulo = none) ∨ ∃ x u, lo = some x ∧ ulo = some u ∧ VR m x u) (hhi : (hi = none ∧ uhi = none) ∨ ∃ x u, hi = some x ∧ uhi = some u ∧ VR m x u)
    (h1 : optNat 0 lo = some l) (h2 : optNat len hi = some h) (hle : l ≤ h) (hc : h ≤ cap) : (Instr.sliceBounds isSl len cap ulo uhi none).run P w = .ok (l, h, cap) w := by
  simp only [Instr.sliceBounds]
  simp only [Sem.run_bind, Sem.run_pure, Result.andThen_ok]
  rcases hhi with ⟨rfl, rfl⟩ | ⟨x, u, rfl, rfl, hx⟩
  · simp only [optNat, Option.some.injEq] at h2
    subst h2
    rcases hlo with ⟨rfl, rfl⟩ | ⟨x, u, rfl, rfl, hx⟩
    · simp only [optNat, Option.some.injEq] at h1
      subst h1
      simp
    · simp only [optNat] at h1
      obtain rfl := asInt_nat hx h1
      simp [run_sliceBound _ hle]
  · simp only [optNat] at h2
    obtain rfl := asInt_nat hx h2
    rcases hlo with ⟨rfl, rfl⟩ | ⟨x, u, rfl, rfl, hx⟩
    · simp only [optNat, Option.some.injEq] at h1
      subst h1
      simp [run_sliceBound _ hc]
    · simp only [optNat] at h1
      obtain rfl := asInt_nat hx h1
      simp [run_sliceBound _ hle, run_sliceBound _ hc]
theorem val_sliceStr {t : TypeId} {x : AV} {u : Value} {lo hi : Option AV} {ulo uhi : Option Value} (hr : Rel P base m H w) (ht : P.underlying t = some .string) (hx : VR m x u) (hlo : (lo = none ∧ ulo = none) ∨ ∃ x u, lo = some x ∧ ulo = some u ∧ VR m x u)
    (hhi : (hi = none ∧ uhi = none) ∨ ∃ x u, hi = some x ∧ uhi = some u ∧ VR m x u) (h : opSliceStr x lo hi H = some (v, H')) : Val P base m H w (Instr.sliceAt t u ulo uhi none) v H' := by
  cases hx <;> simp only [opSliceStr, reduceCtorEq] at h
  rename_i s
  split at h
  · rename_i l h' h1 h2
    split at h
    · rename_i hc
      simp only [Option.some.injEq, Prod.mk.injEq] at h
      obtain ⟨rfl, rfl⟩ := h
      refine Val.same hr ?_ (.str _)
      have := run_sliceBounds (P := P) (w := w) false hlo hhi h1 h2 hc.1 hc.2
      simp only [Instr.sliceAt, Instr.slice, Sem.run_bind, run_underlying' ht, Result.andThen_ok, this, Sem.run_pure, Option.isSome_none, Bool.false_eq_true, if_false]
    · simp at h
  · simp at h
theorem val_sliceSl {t el : TypeId} {n : Nat} {x : AV} {u : Value} {lo hi : Option AV} {ulo uhi : Option Value} (hr : Rel P base m H w) (ht : P.underlying t = some (.slice el)) (hn : sizeT P el = some n) (hx : VR m x u) (hlo : (lo = none ∧ ulo = none) ∨ ∃ x u, lo = some x ∧ ulo = some u ∧ VR m x u)
    (hhi : (hi = none ∧ uhi = none) ∨ ∃ x u, hi = some x ∧ uhi = some u ∧ VR m x u) (h : opSliceSl n x lo hi H = some (v, H')) : Val P base m H w (Instr.sliceAt t u ulo uhi none) v H' := by
  have fin : ∀ (len cap l h' : Nat) (ad : Option Addr), optNat 0 lo = some l → optNat len hi = some h' → l ≤ h' → h' ≤ cap →
      (Instr.sliceAt t (.slice ad len cap) ulo uhi none).run P w = .ok (.slice (if cap = l then ad else ad.map (·.add (l * n))) (h' - l) (cap - l)) w := fun len cap l h' ad h1 h2 h3 h4 => by
    have := run_sliceBounds (P := P) (w := w) true hlo hhi h1 h2 h3 h4
    simp only [Instr.sliceAt, Instr.slice, Sem.run_bind, run_underlying' ht, Result.andThen_ok, this, Sem.run_pure, run_sizeOf' hn]
  cases hx <;> simp only [opSliceSl, reduceCtorEq] at h
  · rename_i b i len sz c o n' cap hb hl hc
    split at h
    · rename_i l h' h1 h2
      split at h
      · rename_i hcond
        obtain ⟨rfl, h3, h4⟩ := hcond
        simp only [Option.some.injEq, Prod.mk.injEq] at h
        obtain ⟨rfl, rfl⟩ := h
        refine Val.same hr (fin len cap l h' _ h1 h2 h3 (by omega)) ?_
        by_cases hcl : cap = l
        · rw [if_pos hcl, show h' - l = 0 from by omega, show cap - l = 0 from by omega]
          exact .slice0 _ hb
        · rw [if_neg hcl]
          simp only [Option.map_some, addr_add]
          rw [show o + i + l * sz = o + (i + l * sz) from by omega]
          refine .slice hb (by omega) ?_
          have : cap * sz = l * sz + (cap - l) * sz := by rw [← Nat.add_mul]; congr 1; omega
          omega
      · simp at h
    · simp at h
  · rename_i b i sz x' ad hb
    split at h
    · rename_i l h' h1 h2
      split at h
      · rename_i hcond
        obtain ⟨rfl, h3, h4⟩ := hcond
        simp only [Option.some.injEq, Prod.mk.injEq] at h
        obtain ⟨rfl, rfl⟩ := h
        refine Val.same hr (fin 0 0 l h' _ h1 h2 h3 h4) ?_
        have : l = 0 := by omega
        subst this
        rw [if_pos rfl, show h' - 0 = 0 from by omega]
        exact .slice0 _ hb
      · simp at h
    · simp at h
  · split at h
    · rename_i h1 h2
      simp only [Option.some.injEq, Prod.mk.injEq] at h
      obtain ⟨rfl, rfl⟩ := h
      refine Val.same hr (fin 0 0 0 0 _ h1 h2 (by omega) (by omega)) ?_
      rw [if_pos rfl]
      exact .nilslice
    · simp at h
theorem val_sliceArr {t el : TypeId} {len n : Nat} {x : AV} {u : Value} {lo hi : Option AV} {ulo uhi : Option Value} (hr : Rel P base m H w) (ht : P.underlying t = some (.array len el)) (hn : sizeT P el = some n) (hx : VR m x u) (hlo : (lo = none ∧ ulo = none) ∨ ∃ x u, lo = some x ∧ ulo = some u ∧ VR m x u)
    (hhi : (hi = none ∧ uhi = none) ∨ ∃ x u, hi = some x ∧ uhi = some u ∧ VR m x u) (h : opSliceArr len n x lo hi H = some (v, H')) : Val P base m H w (Instr.sliceAt t u ulo uhi none) v H' := by
  cases hx <;> simp only [opSliceArr, reduceCtorEq] at h
  rename_i b i c o n' hb
  split at h
  · rename_i l h' h1 h2
    split at h
    · rename_i vs hg
      split at h
      · rename_i hcond
        obtain ⟨h3, h4, h5⟩ := hcond
        simp only [Option.some.injEq, Prod.mk.injEq] at h
        obtain ⟨rfl, rfl⟩ := h
        obtain ⟨_, h6⟩ := hr.blk b c o n' hb
        rw [hg] at h6
        obtain ⟨_, arr, e', lo', hi', _, h7, _, h8, _⟩ := h6
        have hb2 := run_sliceBounds (P := P) (w := w) false hlo hhi h1 h2 h3 h4
        refine Val.same hr (u := .slice (some (if len = l then (⟨c, o + i, none⟩ : Addr) else (⟨c, o + i, none⟩ : Addr).add (l * n))) (h' - l) (len - l)) ?_ ?_
        · simp only [Instr.sliceAt, Instr.sureAddr, Sem.run_bind, run_underlying' ht, Result.andThen_ok, hb2, Sem.run_pure, run_sizeOf' hn]
        · by_cases hcl : len = l
          · rw [if_pos hcl, show h' - l = 0 from by omega, show len - l = 0 from by omega]
            exact .slice0 _ hb
          · rw [if_neg hcl, addr_add, show o + i + l * n = o + (i + l * n) from by omega]
            refine .slice hb (by omega) ?_
            have : len * n = l * n + (len - l) * n := by rw [← Nat.add_mul]; congr 1; omega
            omega
      · simp at h
    · simp at h
  · simp at h
theorem val_off {t : TypeId} {fs : Array Field} {f : Field} {k n : Nat} {x : AV} {u : Value} (hr : Rel P base m H w) (ht : P.underlying t = some (.struct fs)) (hf : fs[k]? = some f) (hn : sizeT P f.type = some n) (hn0 : n ≠ 0) (hx : VR m x u) (h : opOff f.offset x H = some (v, H')) :
    Val P base m H w (Instr.fieldAt t u k) v H' := by
  cases hx <;> simp only [opOff, reduceCtorEq, Option.some.injEq, Prod.mk.injEq] at h
  rename_i b i c o n' hb
  obtain ⟨rfl, rfl⟩ := h
  refine Val.same hr (u := .pointer (some ⟨c, o + (i + f.offset), none⟩)) ?_ (.ptr hb)
  simp only [Instr.fieldAt, Sem.run_bind, run_underlying' ht, Result.andThen_ok, hf, Instr.sureAddr, Sem.run_pure, fieldPlace, run_sizeOf' hn, hn0, if_false, addr_add]
  simp only [Nat.add_assoc]
theorem lt_int {k len : Nat} (h : k < len) : (0 : Int) ≤ (k : Int) ∧ (k : Int) < (len : Int) := ⟨by omega, by omega⟩
theorem val_idxSl {t el : TypeId} {n : Nat} {x y : AV} {u z : Value} (hr : Rel P base m H w) (ht : P.underlying t = some (.slice el)) (hn : sizeT P el = some n) (hx : VR m x u) (hy : VR m y z) (h : opIdxSl n x y H = some (v, H')) : Val P base m H w (Instr.indexAt t u z) v H' := by
  unfold opIdxSl at h
  split at h
  · rename_i b j len sz
    split at h
    · rename_i k hk
      split at h
      · rename_i hlt
        simp only [Option.some.injEq, Prod.mk.injEq] at h
        obtain ⟨rfl, rfl⟩ := h
        rw [asInt_nat hy hk]
        cases hx with
        | slice hb hl hc =>
          rename_i c o n' cap
          refine Val.same hr (u := .pointer (some ⟨c, o + (j + k * n), none⟩)) ?_ (.ptr hb)
          simp only [Instr.indexAt, asIntOf, Sem.run_bind, run_underlying' ht, Result.andThen_ok, Sem.run_pure, lt_int hlt, and_self, if_true, run_sizeOf' hn, addr_add, Int.toNat_natCast, Nat.add_assoc]
        | slice0 ad hb => omega
      · simp at h
    · simp at h
  · simp at h
theorem val_idxArr {t el : TypeId} {len n : Nat} {x y : AV} {u z : Value} (hr : Rel P base m H w) (ht : P.underlying t = some (.array len el)) (hn : sizeT P el = some n) (hx : VR m x u) (hy : VR m y z) (h : opIdxArr len n x y H = some (v, H')) : Val P base m H w (Instr.indexAt t u z) v H' := by
  unfold opIdxArr at h
  split at h
  · rename_i b j
    split at h
    · rename_i k hk
      split at h
      · rename_i hlt
        simp only [Option.some.injEq, Prod.mk.injEq] at h
        obtain ⟨rfl, rfl⟩ := h
        rw [asInt_nat hy hk]
        cases hx with
        | ptr hb =>
          rename_i c o n'
          refine Val.same hr (u := .pointer (some ⟨c, o + (j + k * n), none⟩)) ?_ (.ptr hb)
          simp only [Instr.indexAt, Instr.sureAddr, asIntOf, Sem.run_bind, run_underlying' ht, Result.andThen_ok, Sem.run_pure, lt_int hlt, and_self, if_true, run_sizeOf' hn, addr_add, Int.toNat_natCast, Nat.add_assoc]
      · simp at h
    · simp at h
  · simp at h
theorem part_scalar {t : TypeId} {o : Nat} {xs : List AV} {us : List Value} {x : AV} (ht : aggT P t = some false) (hx : VRs m xs us) (h : xs[o]? = some x) : ∃ u, (part t ⟨us⟩ o).run P w = .ok u w ∧ VR m x u := by
  obtain ⟨u, h1, h2⟩ := VRs.get hx _ _ h
  refine ⟨u, ?_, h2⟩
  have h3 : (⟨us⟩ : Array Value)[o]? = some u := by simpa using h1
  simp only [part, Sem.run_bind, run_isAgg' ht, Result.andThen_ok, Bool.false_eq_true, if_false, h3, Sem.run_pure]
theorem part_agg {t : TypeId} {o n : Nat} {xs l : List AV} {us : List Value} (ht : aggT P t = some true) (hn : sizeT P t = some n) (hx : VRs m xs us) (h : readN xs o n = some l) : ∃ u, (part t ⟨us⟩ o).run P w = .ok u w ∧ VR m (.agg l) u := by
  unfold readN at h
  split at h
  · simp only [Option.some.injEq] at h
    subst h
    refine ⟨.agg ⟨(us.drop o).take n⟩, ?_, .agg ((hx.drop o).take n)⟩
    simp only [part, Sem.run_bind, run_isAgg' ht, Result.andThen_ok, if_true, run_sizeOf' hn, Sem.run_pure]
    simp
  · simp at h
theorem val_part {t : TypeId} {fs : Array Field} {f : Field} {k : Nat} {x : AV} {u : Value} (hr : Rel P base m H w) (ht : P.underlying t = some (.struct fs)) (hf : fs[k]? = some f) (hg : aggT P f.type = some false) (hx : VR m x u) (h : opPart f.offset x H = some (v, H')) :
    Val P base m H w (Instr.field t u k) v H' := by
  cases hx <;> simp only [opPart, reduceCtorEq] at h
  rename_i xs us hxs
  obtain ⟨h1, rfl⟩ := pureV_eq h
  obtain ⟨u, h2, h3⟩ := part_scalar (P := P) (w := w) hg hxs h1
  refine Val.same hr ?_ h3
  simp only [Instr.field, Sem.run_bind, run_underlying' ht, Result.andThen_ok, hf, asAgg, Sem.run_pure, h2]
theorem val_partN {t : TypeId} {fs : Array Field} {f : Field} {k n : Nat} {x : AV} {u : Value} (hr : Rel P base m H w) (ht : P.underlying t = some (.struct fs)) (hf : fs[k]? = some f) (hg : aggT P f.type = some true) (hn : sizeT P f.type = some n) (hx : VR m x u) (h : opPartN f.offset n x H = some (v, H')) :
    Val P base m H w (Instr.field t u k) v H' := by
  cases hx <;> simp only [opPartN, reduceCtorEq] at h
  rename_i xs us hxs
  obtain ⟨cs, h1, h2⟩ := aggOf_eq h
  obtain ⟨rfl, rfl⟩ := Prod.mk.inj h2
  obtain ⟨u, h3, h4⟩ := part_agg (P := P) (w := w) hg hn hxs h1
  refine Val.same hr ?_ h4
  simp only [Instr.field, Sem.run_bind, run_underlying' ht, Result.andThen_ok, hf, asAgg, Sem.run_pure, h3]
theorem val_at {t el : TypeId} {len n : Nat} {g : Bool} {x y : AV} {u z : Value} (hr : Rel P base m H w) (ht : P.underlying t = some (.array len el)) (hn : sizeT P el = some n) (hg : aggT P el = some g) (hx : VR m x u) (hy : VR m y z) (h : opAt len n g x y H = some (v, H')) :
    Val P base m H w (Instr.index t u z) v H' := by
  cases hx <;> simp only [opAt, reduceCtorEq] at h
  rename_i xs us hxs
  split at h
  · rename_i k hk
    split at h
    · rename_i hlt
      rw [asInt_nat hy hk]
      have key : ∀ u', (part el ⟨us⟩ (k * n)).run P w = .ok u' w → (Instr.index t (.agg ⟨us⟩) (.int .i64 k)).run P w = .ok u' w := fun u' hu => by
        simp only [Instr.index, asIntOf, Sem.run_bind, run_underlying' ht, Result.andThen_ok, Sem.run_pure, lt_int hlt, and_self, if_true, run_sizeOf' hn, Int.toNat_natCast, hu]
      cases g with
      | true =>
        simp only [if_true] at h
        obtain ⟨cs, h1, h2⟩ := aggOf_eq h
        obtain ⟨rfl, rfl⟩ := Prod.mk.inj h2
        obtain ⟨u, h3, h4⟩ := part_agg (P := P) (w := w) hg hn hxs h1
        exact Val.same hr (key _ h3) h4
      | false =>
        simp only [Bool.false_eq_true, if_false] at h
        obtain ⟨h1, rfl⟩ := pureV_eq h
        obtain ⟨u, h2, h3⟩ := part_scalar (P := P) (w := w) hg hxs h1
        exact Val.same hr (key _ h2) h3
    · simp at h
  · simp at h
theorem val_byteAt {t : TypeId} {x y : AV} {u z : Value} (hr : Rel P base m H w) (ht : P.underlying t = some .string) (hx : VR m x u) (hy : VR m y z) (h : opByteAt x y H = some (v, H')) : Val P base m H w (Instr.index t u z) v H' := by
  cases hx <;> simp only [opByteAt, reduceCtorEq] at h
  rename_i s
  split at h
  · rename_i k hk
    split at h
    · rename_i b hb
      simp only [Option.some.injEq, Prod.mk.injEq] at h
      obtain ⟨rfl, rfl⟩ := h
      rw [asInt_nat hy hk]
      refine Val.same hr ?_ (.int _ _)
      have hs : s[k]? = some b := by
        rw [ByteArray.toList_eq] at hb
        have hlt : k < s.data.toList.length := by
          rcases Nat.lt_or_ge k s.data.toList.length with h | h
          · exact h
          · rw [List.getElem?_eq_none h] at hb; simp at hb
        have hlt' : k < s.size := by simpa using hlt
        rw [getElem?_pos s k hlt']
        rw [List.getElem?_eq_getElem hlt] at hb
        rw [show s[k] = s.data[k] from rfl]
        simpa using hb
      have h0 : (0 : Int) ≤ (k : Int) := by omega
      simp only [Instr.index, asIntOf, Sem.run_bind, run_underlying' ht, Result.andThen_ok, Sem.run_pure, h0, if_true, Int.toNat_natCast, hs]
    · simp at h
  · simp at h
theorem val_extract {i : Nat} {x : AV} {u : Value} (hr : Rel P base m H w) (hx : VR m x u) (h : opExtract i x H = some (v, H')) : Val P base m H w (Instr.extract u i) v H' := by
  cases hx <;> simp only [opExtract, reduceCtorEq] at h
  rename_i xs us hxs
  obtain ⟨h1, rfl⟩ := pureV_eq h
  obtain ⟨u, h2, h3⟩ := VRs.get hxs _ _ h1
  refine Val.same hr ?_ h3
  have h4 : (⟨us⟩ : Array Value)[i]? = some u := by simpa using h2
  simp only [Instr.extract, h4, Sem.run_pure]
theorem lenA_len {x : AV} {u : Value} {n : Nat} (hx : VR m x u) (h : lenA x = some n) : (Builtin.lenOf u).run P w = .ok n w := by
  cases hx <;> simp only [lenA, reduceCtorEq, Option.some.injEq] at h <;> subst h <;> rfl
theorem val_len {t : TypeId} {isStr : Bool} {x : AV} {u : Value} (hr : Rel P base m H w) (ht : if isStr then P.underlying t = some .string else ∃ e, P.underlying t = some (.slice e)) (hx : VR m x u) (h : opLen isStr x H = some (v, H'))
    {b : Array TypeId} {r : TypeId} (hb : b[0]? = some t) : Val P base m H w (Builtin.len_ b r #[u]) v H' := by
  cases isStr with
  | true =>
    have ht' : P.underlying t = some .string := by simpa using ht
    cases hx <;> simp only [opLen, reduceCtorEq, Option.some.injEq, Prod.mk.injEq] at h
    obtain ⟨rfl, rfl⟩ := h
    exact Val.same hr (by simp [Builtin.len_, hb, run_underlying' ht', goInt]) (.int _ _)
  | false =>
    have ht' : ∃ e, P.underlying t = some (.slice e) := by simpa using ht
    obtain ⟨e, he⟩ := ht'
    cases hx <;> simp only [opLen, reduceCtorEq, Option.some.injEq, Prod.mk.injEq] at h
    all_goals
      obtain ⟨rfl, rfl⟩ := h
      exact Val.same hr (by simp [Builtin.len_, hb, run_underlying' he, goInt]) (.int _ _)
end
end Go.AM
namespace Go.AM
section
variable {P : Program} {base : Array Obj} {m : CM} {H H' : AH} {w : World} {nt : Nat} {e : Env} {a : Act} {v : AV}
theorem Rel.addMap (h : Rel P base m H w) {c o n : Nat} {oA : AObj} (hc : c < w.heap.size) (hnl : ∀ b o' n', m b = some (c, o', n') → ¬ Live H b) (hnf : ¬ Free m c) (hob : ∀ m', CM.le m m' → ObjR P base.size m' (some oA) c o n w.heap) :
    Rel P base (CM.add m H.next (c, o, n)) (H.alloc oA) w ∧ Ext m H w (CM.add m H.next (c, o, n)) (H.alloc oA) w := by
  have hm : m H.next = none := h.top _ (Nat.le_refl _)
  have hle := CM.add_le (x := (c, o, n)) hm
  have hlive : ∀ k, k ≠ H.next → Live (H.alloc oA) k → Live H k := fun k hk ⟨x, hx, hl⟩ => by
    rw [AH.get_alloc, if_neg hk] at hx; exact ⟨x, hx, hl⟩
  refine ⟨⟨h.old, h.size, fun k hk => ?_, fun k c' o' n' hk => ?_, fun k k' c' o1 o2 n1 n2 h1 h2 l1 l2 => ?_⟩, ⟨hle, by simp, Nat.le_refl _, fun k hk hf => ⟨fun b o' n' hb => ?_, rfl⟩, fun b hb hn => ⟨?_, by rw [AH.get_alloc, if_neg (by omega)]⟩, fun b hl hb => by rw [AH.get_alloc, if_neg (by omega)]; exact hl, rfl, rfl⟩⟩
  · simp at hk
    rw [CM.add_ne _ _ (by omega)]; exact h.top k (by omega)
  · by_cases hkb : k = H.next
    · subst hkb
      rw [CM.add_same] at hk
      simp only [Option.some.injEq, Prod.mk.injEq] at hk
      obtain ⟨rfl, rfl, rfl⟩ := hk
      rw [AH.get_alloc, if_pos rfl]
      exact ⟨hc, hob _ hle⟩
    · rw [CM.add_ne _ _ hkb] at hk
      rw [AH.get_alloc, if_neg hkb]
      obtain ⟨h1, h2⟩ := h.blk k c' o' n' hk
      exact ⟨h1, h2.mono hle rfl⟩
  · by_cases hk1 : k = H.next
    · by_cases hk2 : k' = H.next
      · rw [hk1, hk2]
      · subst hk1
        rw [CM.add_same] at h1
        rw [CM.add_ne _ _ hk2] at h2
        simp only [Option.some.injEq, Prod.mk.injEq] at h1
        obtain ⟨rfl, rfl, rfl⟩ := h1
        exact absurd (hlive k' hk2 l2) (hnl _ _ _ h2)
    · rw [CM.add_ne _ _ hk1] at h1
      by_cases hk2 : k' = H.next
      · subst hk2
        rw [CM.add_same] at h2
        simp only [Option.some.injEq, Prod.mk.injEq] at h2
        obtain ⟨rfl, rfl, rfl⟩ := h2
        exact absurd (hlive k hk1 l1) (hnl _ _ _ h1)
      · rw [CM.add_ne _ _ hk2] at h2
        exact h.inj k k' c' o1 o2 n1 n2 h1 h2 (hlive k hk1 l1) (hlive k' hk2 l2)
  · by_cases hkb : b = H.next
    · subst hkb
      rw [CM.add_same] at hb
      simp only [Option.some.injEq, Prod.mk.injEq] at hb
      obtain ⟨rfl, _, _⟩ := hb
      exact hnf hf
    · rw [CM.add_ne _ _ hkb] at hb
      exact hf b o' n' hb
  · rw [CM.add_ne _ _ (by omega)]; exact hn
theorem srcCells_run (hr : Rel P base m H w) {sz n : Nat} {x : AV} {u : Value} {cs : List AV} (hx : VR m x u) (h : srcCells H sz n x = some cs) : ∃ us, VRs m cs us ∧ (Builtin.firstCells sz n u).run P w = .ok us.toArray w := by
  cases hx <;> simp only [srcCells, reduceCtorEq] at h
  · rename_i s
    split at h
    · rename_i hc
      obtain ⟨rfl, hn⟩ := hc
      simp only [Option.some.injEq] at h
      subst h
      refine ⟨(s.toList.take n).map fun b => .int .u8 b.toNat, ?_, ?_⟩
      · generalize s.toList.take n = l
        induction l with
        | nil => exact .nil
        | cons b l ih => exact .cons (.int _ _) ih
      · simp only [Builtin.firstCells, Sem.run_pure]
        congr 1
        apply Array.toList_inj.1
        rw [ByteArray.toList_eq]
        simp
    · simp at h
  · rename_i b i len z c o n' cap hb hl hc
    split at h
    · rename_i hcond
      obtain ⟨rfl, hn⟩ := hcond
      obtain ⟨us, h1, h2⟩ := hr.loadCells hb h
      exact ⟨us, h1, by simpa [Builtin.firstCells] using h2⟩
    · simp at h
  · rename_i b i z x ad hb
    split at h
    · rename_i hcond
      obtain ⟨rfl, hn⟩ := hcond
      have : n = 0 := by omega
      subst this
      have hl := read_length h
      simp at hl
      subst hl
      exact ⟨[], .nil, by simp [Builtin.firstCells, loadCells, loadCellsFrom]⟩
    · simp at h
  · split at h
    · simp only [Option.some.injEq] at h
      subst h
      exact ⟨[], .nil, by simp [Builtin.firstCells]⟩
    · simp at h
theorem srcCells_length {sz n : Nat} {x : AV} {cs : List AV} (h : srcCells H sz n x = some cs) (hn : lenA x = some n) : cs.length = n * sz := by
  cases x <;> simp only [srcCells, lenA, reduceCtorEq, Option.some.injEq] at h hn
  · rename_i s
    split at h
    · rename_i hc
      obtain ⟨rfl, _⟩ := hc
      simp only [Option.some.injEq] at h
      subst h; subst hn
      rw [ByteArray.toList_eq]
      simp
    · simp at h
  · split at h
    · rename_i hc
      obtain ⟨rfl, _⟩ := hc
      exact read_length h
    · simp at h
  · split at h
    · simp only [Option.some.injEq] at h
      subst h; subst hn
      simp
    · simp at h
theorem run_append_grows {ts : Array TypeId} {t t2 el ty : TypeId} {i : TypeInfo} {z : Value} {kd : TypeDesc} (h0 : ts[0]? = some t) (h1 : ts[1]? = some t2) (ht : P.underlying t = some (.slice el)) (ht2 : P.underlying t2 = some kd) (hkd : (∃ e2, kd = .slice e2) ∨ kd = .string) (hi : P.info? el = some i) (hz : i.zero = some z)
    {bs : Option Addr} {sLen sCap n : Nat} {x : Value} {olds news : List Value} (hn : (Builtin.lenOf x).run P w = .ok n w) (hold : (Builtin.firstCells i.size sLen (.slice bs sLen sCap)).run P w.drew = .ok olds.toArray w.drew) (hnew : (Builtin.firstCells i.size n x).run P w.drew = .ok news.toArray w.drew)
    (hg : sCap < sLen + n) (h63 : sLen + n ≤ roomA) (hb : (sLen + n) * i.bytes ≤ roomA) :
    ∃ cap, sLen + n ≤ cap ∧ (Builtin.append_ ts ty #[.slice bs sLen sCap, x]).run P w = .ok (.slice (some ⟨w.heap.size, 0, none⟩) (sLen + n) cap) (w.drew.alloc (.cells (olds.toArray ++ news.toArray ++ Builtin.zeroCells z.cells (cap - (sLen + n))) el)) := by
  refine ⟨(Question.appendCap (sLen + n) sCap el).cut (w.tape w.drawn (.appendCap (sLen + n) sCap el)), ?_, ?_⟩
  · simp [Question.cut]
  · have hroom : roomA = 140737488355328 := rfl
    have hgt : ¬ (sLen + n ≤ sCap) := by omega
    have h63' : ¬ (((sLen + n : Nat) : Int) > IntKind.i64.max) := by
      have : IntKind.i64.max = 9223372036854775807 := rfl
      rw [this]; omega
    have h48' : ¬ (Builtin.nextslicecap (sLen + n) sCap * i.bytes > 2 ^ 48) := by
      have := growslice_fits hg (by rw [hroom] at hb; exact hb)
      have h2 : (2 : Nat) ^ 48 = 281474976710656 := by decide
      rw [h2]; omega
    have a0 : (#[Value.slice bs sLen sCap, x] : Array Value)[0]? = some (.slice bs sLen sCap) := rfl
    have a1 : (#[Value.slice bs sLen sCap, x] : Array Value)[1]? = some x := rfl
    have hsz : (sizeOf el).run P w = .ok i.size w := by simp [sizeOf, typeInfo, hi]
    have hti : ∀ w, (typeInfo el).run P w = .ok i w := fun w => run_typeInfo' hi
    have hzv : ∀ w, (zeroValue el).run P w = .ok z w := fun w => by simp [zeroValue, typeInfo, hi, hz]
    rcases hkd with ⟨e2, rfl⟩ | rfl
    all_goals
      simp only [Builtin.append_, h0, a0, a1, Sem.run_bind, run_underlying' ht, Result.andThen_ok, hsz, h1, run_underlying' ht2, Sem.run_pure, Bool.false_eq_true, if_false, hn, hgt, h63', false_and, hti, h48', run_choose, Question.forced, run_askRoom, Bool.not_false, if_true]
      rw [World.drew_eq]
      simp only [hold, hnew, Result.andThen_ok, hzv, newRow, Sem.run_bind, run_newObj, Sem.run_pure, World.alloc_eq]
      rfl
theorem zeroCells_size (z : Array Value) (n : Nat) : (Builtin.zeroCells z n).size = n * z.size := by simp [Builtin.zeroCells]
theorem val_append {ts : Array TypeId} {t t2 el ty : TypeId} {i : TypeInfo} {zv : Value} {kd : TypeDesc} (hr : Rel P base m H w) (h0 : ts[0]? = some t) (h1 : ts[1]? = some t2) (ht : P.underlying t = some (.slice el)) (ht2 : P.underlying t2 = some kd) (hkd : (∃ e2, kd = .slice e2) ∨ kd = .string) (hi : P.info? el = some i) (hz : i.zero = some zv) (hzs : zv.cells.size = i.size) (hs0 : i.size ≠ 0)
    {x y : AV} {u z : Value} (hx : VR m x u) (hy : VR m y z) (h : appendA H i.size i.bytes x y = some (v, H')) : Val P base m H w (Builtin.append_ ts ty #[u, z]) v H' := by
  unfold appendA at h
  split at h
  · simp at h
  · rename_i n hn
    split at h
    · simp at h
    · rename_i new hnew
      have hn' := lenA_len (P := P) (w := w) hy hn
      have hnl := srcCells_length hnew hn
      obtain ⟨news, hv1, hf1⟩ := srcCells_run (hr.drew (w' := w.drew) rfl) hy hnew
      have hf0 := (srcCells_run hr hy hnew)
      have hnewl := VRs.length hv1
      have a0 : ∀ u, (#[u, z] : Array Value)[0]? = some u := fun _ => rfl
      have a1 : ∀ u, (#[u, z] : Array Value)[1]? = some z := fun _ => rfl
      have hsz : (sizeOf el).run P w = .ok i.size w := by simp [sizeOf, typeInfo, hi]
      have none_ : ∀ (bs : Option Addr) (sLen sCap : Nat), n = 0 → sLen ≤ sCap → (Builtin.append_ ts ty #[.slice bs sLen sCap, z]).run P w = .ok (.slice bs sLen sCap) w := fun bs sLen sCap hn0 hle => by
        obtain ⟨nw, q1, q2⟩ := hf0
        subst hn0
        have hnw : nw = [] := by
          have := VRs.length q1
          rw [hnl] at this
          simpa using this
        subst hnw
        cases bs with
        | none => rcases hkd with ⟨e2, rfl⟩ | rfl <;> simp only [Builtin.append_, h0, a0, a1, Sem.run_bind, run_underlying' ht, Result.andThen_ok, hsz, h1, run_underlying' ht2, Sem.run_pure, Bool.false_eq_true, if_false, hn', Nat.add_zero, hle, if_true, Bool.not_false, q2]
        | some ad => rcases hkd with ⟨e2, rfl⟩ | rfl <;> simp only [Builtin.append_, h0, a0, a1, Sem.run_bind, run_underlying' ht, Result.andThen_ok, hsz, h1, run_underlying' ht2, Sem.run_pure, Bool.false_eq_true, if_false, hn', Nat.add_zero, hle, if_true, Bool.not_false, q2, storeCells]
      split at h
      ·
        split at h
        · rename_i hn0
          simp only [Option.some.injEq, Prod.mk.injEq] at h
          obtain ⟨rfl, rfl⟩ := h
          cases hx
          exact Val.same hr (none_ none 0 0 hn0 (Nat.le_refl _)) .nilslice
        · rename_i hn0
          split at h
          · rename_i hcond
            simp only [Option.some.injEq, Prod.mk.injEq] at h
            obtain ⟨rfl, rfl⟩ := h
            cases hx
            obtain ⟨cap, hc1, hc2⟩ := run_append_grows (ty := ty) (bs := none) (sLen := 0) (sCap := 0) (olds := []) h0 h1 ht ht2 hkd hi hz hn' (by simp [Builtin.firstCells]) hf1 (by omega) (by omega) (by simpa using hcond.2)
            simp only [Nat.zero_add] at hc1 hc2
            have hr' := hr.drew (w' := w.drew) rfl
            have hcells : (∀ (j : Nat) (q : AV), new[j]? = some q → ∃ u', (([] : List Value).toArray ++ news.toArray ++ Builtin.zeroCells zv.cells (cap - n))[j]? = some u' ∧ VR m q u') := fun j q hq => by
              obtain ⟨u', r1, r2⟩ := VRs.get hv1 _ _ hq
              refine ⟨u', ?_, r2⟩
              have : j < news.length := by
                rcases Nat.lt_or_ge j news.length with h | h
                · exact h
                · rw [List.getElem?_eq_none h] at r1; simp at r1
              simp [Array.getElem?_append, this] at *
              simpa [this] using r1
            have hsize : (([] : List Value).toArray ++ news.toArray ++ Builtin.zeroCells zv.cells (cap - n)).size = cap * i.size := by
              simp only [Array.size_append, zeroCells_size, hzs, List.size_toArray, List.length_nil, hnewl, hnl]
              have : cap * i.size = n * i.size + (cap - n) * i.size := by rw [← Nat.add_mul]; congr 1; omega
              omega
            obtain ⟨q1, q2⟩ := hr'.newCells el hcells (by rw [hsize, hnl]; exact Nat.mul_le_mul_right _ (by omega))
            refine ⟨_, _, _, hc2, ?_, q1, (Ext.drew (w := w) (w' := w.drew) rfl).trans q2⟩
            refine .slice (CM.add_same _ _ _) (by omega) ?_
            rw [hsize]; omega
          · simp at h
      · rename_i b j len zz
        split at h
        · rename_i hn0
          simp only [Option.some.injEq, Prod.mk.injEq] at h
          obtain ⟨rfl, rfl⟩ := h
          cases hx with
          | slice hb hl hc => exact Val.same hr (none_ _ _ _ hn0 hl) (.slice hb hl hc)
          | slice0 ad hb => exact Val.same hr (none_ _ _ _ hn0 (Nat.le_refl _)) (.slice0 ad hb)
        · rename_i hn0
          split at h
          · rename_i vs hg
            split at h
            · rename_i old hold
              split at h
              · rename_i hcond
                obtain ⟨rfl, hc1, hc2, hcells⟩ := hcond
                simp only [Option.some.injEq, Prod.mk.injEq] at h
                obtain ⟨rfl, rfl⟩ := h
                have hread : H.read b j (len * i.size) = some old := by simp [AH.read, hg, hold]
                have holdl := read_length hread
                have grows : ∀ (bs : Option Addr) (sCap : Nat), sCap < len + n → (∃ olds, VRs m old olds ∧ (Builtin.firstCells i.size len (.slice bs len sCap)).run P w.drew = .ok olds.toArray w.drew) → (∃ x, m b = some x) →
                    Val P base m H w (Builtin.append_ ts ty #[.slice bs len sCap, z]) (.slice H.next 0 (len + n) i.size) ((H.set b .dead).alloc (.cells false (old ++ new))) := fun bs sCap hlt ⟨olds, ho1, ho2⟩ ⟨xb, hxb⟩ => by
                  obtain ⟨cap, hca, hcb⟩ := run_append_grows (ty := ty) h0 h1 ht ht2 hkd hi hz hn' ho2 hf1 hlt hc1 hc2
                  obtain ⟨cb, ob, nb⟩ := xb
                  have hr' := hr.drew (w' := w.drew) rfl
                  obtain ⟨hcs, hob⟩ := hr'.blk b cb ob nb hxb
                  rw [hg] at hob
                  obtain ⟨d1, d2⟩ := hr'.turn (w' := w.drew) hxb ⟨_, hg, rfl⟩ hob.1 (fun _ _ => rfl) rfl (oA := .dead) trivial
                  have hol := VRs.length ho1
                  have hcells : (∀ (j : Nat) (q : AV), (old ++ new)[j]? = some q → ∃ u', (olds.toArray ++ news.toArray ++ Builtin.zeroCells zv.cells (cap - (len + n)))[j]? = some u' ∧ VR m q u') := fun j q hq => by
                    obtain ⟨u', r1, r2⟩ := VRs.get (ho1.append hv1) _ _ hq
                    refine ⟨u', ?_, r2⟩
                    have hlt : j < (olds ++ news).length := by
                      rcases Nat.lt_or_ge j (olds ++ news).length with h | h
                      · exact h
                      · rw [List.getElem?_eq_none h] at r1; simp at r1
                    rw [Array.getElem?_append_left (by simpa using hlt)]
                    simpa using r1
                  have hsize : (olds.toArray ++ news.toArray ++ Builtin.zeroCells zv.cells (cap - (len + n))).size = cap * i.size := by
                    simp only [Array.size_append, zeroCells_size, hzs, List.size_toArray, hnewl, hnl, hol, holdl]
                    have : cap * i.size = len * i.size + n * i.size + (cap - (len + n)) * i.size := by rw [← Nat.add_mul, ← Nat.add_mul]; congr 1; omega
                    omega
                  obtain ⟨q1, q2⟩ := d1.newCells el hcells (by
                    rw [hsize, List.length_append, hnl, holdl, ← Nat.add_mul]; exact Nat.mul_le_mul_right _ (by omega))
                  refine ⟨_, _, _, hcb, ?_, q1, ((Ext.drew (w := w) (w' := w.drew) rfl).trans d2).trans q2⟩
                  refine .slice (CM.add_same _ _ _) hca ?_
                  rw [hsize]; omega
                cases hx with
                | slice0 ad hb =>
                  have hol : old = [] := List.length_eq_zero_iff.1 (by simpa using holdl)
                  subst hol
                  exact grows _ _ (by omega) ⟨[], .nil, by simp [Builtin.firstCells, loadCells, loadCellsFrom]⟩ ⟨_, hb⟩
                | slice hb hl hc =>
                  rename_i c o n' cap
                  by_cases hfit : len + n ≤ cap
                  ·
                    obtain ⟨hcs, hob⟩ := hr.blk b c o n' hb
                    rw [hg] at hob
                    obtain ⟨hN, arr, e', lo, hi', hh, has, hfz, hvl, hcr⟩ := hob
                    have hmul : (len + n) * i.size ≤ cap * i.size := Nat.mul_le_mul_right _ hfit
                    have hmul2 : (len + n) * i.size = len * i.size + n * i.size := Nat.add_mul _ _ _
                    obtain ⟨nw, q1, q2⟩ := hf0
                    have hnwl := VRs.length q1
                    rw [hnl] at hnwl
                    · obtain ⟨w', arr', r1, r2, r3, r4, r5, r7, r6⟩ := run_storeCells (P := P) (c := c) (k := o + j + len * i.size) nw 0 w arr hh (by omega) (by rw [has]; exact hfz) (VRs.oneCell q1 hcells)
                      have hread' : ∀ (k : Nat) (q : AV), (old ++ new)[k]? = some q → ∃ u', arr'[o + j + k]? = some u' ∧ VR m q u' := fun k q hq => by
                        rw [r6]
                        by_cases hk : k < len * i.size
                        · rw [List.getElem?_append_left (by omega)] at hq
                          rw [if_neg (by omega)]
                          unfold readN at hold
                          split at hold
                          · simp only [Option.some.injEq] at hold
                            subst hold
                            rw [List.getElem?_take, if_pos (by omega), List.getElem?_drop] at hq
                            obtain ⟨u', h5, h6⟩ := hcr _ _ hq
                            exact ⟨u', by rw [show o + j + k = o + (j + k) from by omega]; exact h5, h6⟩
                          · simp at hold
                        · rw [List.getElem?_append_right (by omega)] at hq
                          obtain ⟨u', h5, h6⟩ := VRs.get q1 _ _ hq
                          have : k - old.length < nw.length := by
                            rcases Nat.lt_or_ge (k - old.length) nw.length with h | h
                            · exact h
                            · rw [List.getElem?_eq_none h] at h5; simp at h5
                          rw [if_pos (by omega)]
                          exact ⟨u', by rw [show o + j + k - (o + j + len * i.size + 0) = k - old.length from by omega]; exact h5, h6⟩
                      obtain ⟨d1, d2⟩ := hr.turn (w' := w') hb ⟨_, hg, rfl⟩ hN r3 r2 (oA := .dead) trivial (hos := r7)
                      obtain ⟨e1, e2⟩ := d1.addMap (c := c) (o := o + j) (n := n') (oA := .cells false (old ++ new)) (by rw [r2]; exact hcs) (fun b' o2 n2 hb' hl' => by
                          obtain ⟨x', hx', hlx⟩ := hl'
                          rw [AH.get_set] at hx'
                          by_cases hbb : b' = b
                          · rw [if_pos hbb] at hx'
                            simp only [Option.some.injEq] at hx'
                            subst hx'
                            simp [AObj.live] at hlx
                          · rw [if_neg hbb] at hx'
                            exact hbb (hr.inj b' b c o2 o n2 n' hb' hb ⟨x', hx', hlx⟩ ⟨_, hg, rfl⟩))
                        (fun hf => hf b o n' hb) (fun m' hm' => ⟨hN, arr', e', lo, hi', r4, by omega, by rw [← has]; rw [has]; exact hfz, by rw [List.length_append]; omega, fun k q hq => by
                          obtain ⟨u', h5, h6⟩ := hread' k q hq
                          exact ⟨u', h5, h6.mono hm'⟩⟩)
                      refine ⟨.slice (some ⟨c, o + j, none⟩) (len + n) cap, w', _, ?_, ?_, e1, d2.trans e2⟩
                      · rcases hkd with ⟨e2, rfl⟩ | rfl <;> simp only [Builtin.append_, h0, a0, a1, Sem.run_bind, run_underlying' ht, Result.andThen_ok, hsz, h1, run_underlying' ht2, Sem.run_pure, Bool.false_eq_true, if_false, hn', hfit, if_true, Bool.not_false, q2, addr_add, r1]
                      · have := VR.slice (m := CM.add m H.next (c, o + j, n')) (b := H.next) (i := 0) (len := len + n) (sz := i.size) (cap := cap) (CM.add_same _ _ _) hfit (by omega)
                        simpa using this
                  · obtain ⟨us, ho1, ho2⟩ := (hr.drew (w' := w.drew) rfl).loadCells hb hread
                    exact grows _ _ (by omega) ⟨us, ho1, by simpa [Builtin.firstCells] using ho2⟩ ⟨_, hb⟩
              · simp at h
            · simp at h
          · simp at h
      · simp at h
end
end Go.AM
namespace Go.AM
section
variable {P : Program} {base : Array Obj} {m : CM} {H H' : AH} {w : World} {nt : Nat} {e : Env} {a : Act} {v : AV}
theorem val_copy {ts : Array TypeId} {t el ty : TypeId} {sz : Nat} (hr : Rel P base m H w) (h0 : ts[0]? = some t) (ht : P.underlying t = some (.slice el)) (hsz : sizeT P el = some sz)
    {x y : AV} {u z : Value} (hx : VR m x u) (hy : VR m y z) (h : copyA H sz x y = some (v, H')) : Val P base m H w (Builtin.copy_ ts ty #[u, z]) v H' := by
  unfold copyA at h
  split at h
  · rename_i ns nd hns hnd
    unfold copyN at h
    split at h
    · simp at h
    · rename_i new hnew
      have h1 := lenA_len (P := P) (w := w) hy hns
      obtain ⟨us, q1, q2⟩ := srcCells_run hr hy hnew
      have a0 : (#[u, z] : Array Value)[0]? = some u := rfl
      have a1 : (#[u, z] : Array Value)[1]? = some z := rfl
      have hmin : Nat.min ns nd = min ns nd := rfl
      split at h
      · simp only [Option.some.injEq, Prod.mk.injEq] at h
        obtain ⟨rfl, rfl⟩ := h
        cases hx
        simp only [lenA, Option.some.injEq] at hnd
        subst hnd
        exact Val.same hr (by simp only [Builtin.copy_, h0, a0, a1, Sem.run_bind, run_underlying' ht, Result.andThen_ok, h1, run_sizeOf' hsz, hmin, q2, Sem.run_pure, goInt]) (.int _ _)
      · rename_i b i len zz
        simp only [lenA, Option.some.injEq] at hnd
        subst hnd
        split at h
        · rename_i hz
          subst hz
          split at h
          · rename_i H2 hw
            simp only [Option.some.injEq, Prod.mk.injEq] at h
            obtain ⟨rfl, rfl⟩ := h
            cases hx with
            | slice hb hl hc =>
              obtain ⟨w', r1, r2, r3⟩ := hr.write hb hw q1
              exact ⟨_, w', m, by simp only [Builtin.copy_, h0, a0, a1, Sem.run_bind, run_underlying' ht, Result.andThen_ok, h1, run_sizeOf' hsz, hmin, q2, r1, Sem.run_pure, goInt], .int _ _, r2, r3⟩
            | slice0 ad hb =>
              have hnl : new = [] := by
                have hm : min ns 0 = 0 := by omega
                simp only [hm] at hnew
                cases y <;> simp only [srcCells, reduceCtorEq] at hnew
                · split at hnew
                  · simp only [Option.some.injEq] at hnew; subst hnew; simp
                  · simp at hnew
                · split at hnew
                  · have := read_length hnew
                    simpa using this
                  · simp at hnew
                · split at hnew
                  · simp only [Option.some.injEq] at hnew; exact hnew.symm
                  · simp at hnew
              subst hnl
              cases q1
              have hH : H2 = H.set b ((H.get b).getD .dead) := by
                unfold AH.write at hw
                split at hw
                · rename_i vs hg
                  have : writeN vs i [] = some vs := by cases vs <;> simp [writeN]
                  simp only [this, List.all_nil, if_true, Option.some.injEq] at hw
                  rw [hg]; exact hw.symm
                · simp at hw
              obtain ⟨⟨cb, ob, nb⟩, hb⟩ : ∃ x, m b = some x := ⟨_, hb⟩
              obtain ⟨d0, d1⟩ := hr.blk b cb ob nb hb
              have hg : ∃ vs, H.get b = some (.cells false vs) := by
                unfold AH.write at hw
                split at hw
                · rename_i vs hg; exact ⟨vs, hg⟩
                · simp at hw
              obtain ⟨vs, hg⟩ := hg
              rw [hg] at d1
              obtain ⟨r2, r3⟩ := hr.turn (w' := w) hb ⟨_, hg, rfl⟩ d1.1 (fun _ _ => rfl) rfl (oA := .cells false vs) d1
              rw [hH, hg]
              exact ⟨_, w, m, by simp only [Builtin.copy_, h0, a0, a1, Sem.run_bind, run_underlying' ht, Result.andThen_ok, h1, run_sizeOf' hsz, hmin, q2, storeCells, Sem.run_pure, goInt], .int _ _, r2, r3⟩
          · simp at h
        · simp at h
      · simp at h
  · simp at h
theorem val_lenMap {ts : Array TypeId} {t kt et ty : TypeId} (hr : Rel P base m H w) (h0 : ts[0]? = some t) (ht : P.underlying t = some (.map kt et)) {x : AV} {u : Value} (hx : VR m x u) (h : opLenMap x H = some (v, H')) : Val P base m H w (Builtin.len_ ts ty #[u]) v H' := by
  cases hx <;> simp only [opLenMap, reduceCtorEq] at h
  · rename_i b c n hb
    split at h
    · rename_i es hg
      simp only [Option.some.injEq, Prod.mk.injEq] at h
      obtain ⟨rfl, rfl⟩ := h
      obtain ⟨_, d1⟩ := hr.blk b c 0 n hb
      rw [hg] at d1
      obtain ⟨_, _, es', clk, h3, h4⟩ := d1
      have hl : es'.size = es.length := by
        have : ∀ {es : List (AV × AV)} {es' : List MapEntry}, MapR m es es' → es'.length = es.length := by
          intro es es' h
          induction h with
          | nil => rfl
          | cons _ _ _ ih => simp [ih]
        simpa using this h4
      refine Val.same hr (u := .int .i64 es'.size) ?_ (by rw [hl]; exact .int _ _)
      simp [Builtin.len_, h0, run_underlying' ht, run_getObj_map h3, goInt]
    · simp at h
  · simp only [Option.some.injEq, Prod.mk.injEq] at h
    obtain ⟨rfl, rfl⟩ := h
    exact Val.same hr (by simp [Builtin.len_, h0, run_underlying' ht, goInt]) (.int _ _)
theorem val_rangeStr {t : TypeId} (hr : Rel P base m H w) (ht : P.underlying t = some .string) {x : AV} {u : Value} (hx : VR m x u) (h : opRangeStr x H = some (v, H')) : Val P base m H w (Instr.range t u) v H' := by
  cases hx <;> simp only [opRangeStr, reduceCtorEq, Option.some.injEq, Prod.mk.injEq] at h
  rename_i s
  obtain ⟨rfl, rfl⟩ := h
  obtain ⟨q1, q2⟩ := hr.alloc (n := 0) (oA := .strIter s 0) (oC := .stringIter s 0) (fun m' _ => ⟨hr.size, rfl, by simp⟩)
  refine ⟨_, _, _, ?_, .ptr (i := 0) (CM.add_same _ _ _), q1, q2⟩
  simp [Instr.range, run_underlying' ht]
theorem val_nextStr {t : TypeId} (hr : Rel P base m H w) {x : AV} {u : Value} (hx : VR m x u) (h : opNextStr x H = some (v, H')) : Val P base m H w (Instr.next u true t) v H' := by
  unfold opNextStr at h
  split at h
  · rename_i b
    cases hx with
    | ptr hb =>
      rename_i c o n
      split at h
      · rename_i s pos hg
        obtain ⟨d0, d1⟩ := hr.blk b c o n hb
        rw [hg] at d1
        obtain ⟨hN, rfl, hh⟩ := d1
        have hget : (getObj c).run P w = .ok (.stringIter s pos) w := by simp [getObj, Sem.run, hh]
        split at h
        · rename_i hlt
          simp only [Option.some.injEq, Prod.mk.injEq] at h
          obtain ⟨rfl, rfl⟩ := h
          obtain ⟨r2, r3⟩ := hr.turn (w' := { w with heap := w.heap.setIfInBounds c (.stringIter s (pos + (Utf8.decode s pos).2)) }) hb ⟨_, hg, rfl⟩ hN (fun k hk => putHeap_get hk) (by simp) (oA := .strIter s (pos + (Utf8.decode s pos).2))
            ⟨hN, rfl, putHeap_same d0⟩
          refine ⟨_, _, m, ?_, .tuple (.cons (.bool true) (.cons (.int _ _) (.cons (.int _ _) .nil))), r2, r3⟩
          simp only [Instr.next, Sem.run_bind, Sem.run_pure, Result.andThen_ok, Nat.add_zero, hget, hlt, if_true, run_setObj hh (by simp), goInt]
        · rename_i hlt
          simp only [Option.some.injEq, Prod.mk.injEq] at h
          obtain ⟨rfl, rfl⟩ := h
          refine Val.same hr ?_ (.tuple (.cons (.bool false) .nil))
          simp only [Instr.next, Sem.run_bind, Sem.run_pure, Result.andThen_ok, Nat.add_zero, hget, hlt, if_false]
      · simp at h
  · simp at h
theorem max_run (ts : Array TypeId) (ty : TypeId) : ∀ (vs : List AV) (us : List Value) (x y : AV) (u : Value), VRs m vs us → VR m x u → max2A x vs = some y → ∃ z, (us.foldlM Builtin.max2 u).run P w = .ok z w ∧ VR m y z
  | [], us, x, y, u, hv, hx, h => by
    cases hv
    simp only [max2A, Option.some.injEq] at h
    subst h
    exact ⟨u, by simp, hx⟩
  | v :: vs, us, x, y, u, hv, hx, h => by
    cases hv with
    | cons h1 h2 =>
      cases x <;> cases v <;> simp only [max2A, reduceCtorEq] at h
      split at h
      · rename_i hk
        subst hk
        cases hx; cases h1
        obtain ⟨z, h3, h4⟩ := max_run ts ty vs _ _ y _ h2 (.int _ _) h
        exact ⟨z, by simpa [List.foldlM_cons, Builtin.max2] using h3, h4⟩
      · simp at h
theorem min_run (ts : Array TypeId) (ty : TypeId) : ∀ (vs : List AV) (us : List Value) (x y : AV) (u : Value), VRs m vs us → VR m x u → min2A x vs = some y → ∃ z, (us.foldlM Builtin.min2 u).run P w = .ok z w ∧ VR m y z
  | [], us, x, y, u, hv, hx, h => by
    cases hv
    simp only [min2A, Option.some.injEq] at h
    subst h
    exact ⟨u, by simp, hx⟩
  | v :: vs, us, x, y, u, hv, hx, h => by
    cases hv with
    | cons h1 h2 =>
      cases x <;> cases v <;> simp only [min2A, reduceCtorEq] at h
      split at h
      · rename_i hk
        subst hk
        cases hx; cases h1
        obtain ⟨z, h3, h4⟩ := min_run ts ty vs _ _ y _ h2 (.int _ _) h
        exact ⟨z, by simpa [List.foldlM_cons, Builtin.min2] using h3, h4⟩
      · simp at h
theorem cv_map {f : AOpd → AOp} {x : Operand} {ao : AOp} (h : (cOpd nt x).map f = some ao) : ∃ y, cOpd nt x = some y ∧ ao = f y := by
  simp only [Option.map_eq_some_iff] at h
  obtain ⟨y, h1, h2⟩ := h
  exact ⟨y, h1, h2.symm⟩
theorem cOpds_nil {xs : List Operand} (h : cOpds nt xs = some []) : xs = [] := by
  cases xs with
  | nil => rfl
  | cons o os =>
    simp only [cOpds] at h
    split at h
    · split at h <;> simp at h
    · simp at h
theorem cOpds_cons {xs : List Operand} {y : AOpd} {ys : List AOpd} (h : cOpds nt xs = some (y :: ys)) : ∃ o os, xs = o :: os ∧ cOpd nt o = some y ∧ cOpds nt os = some ys := by
  cases xs with
  | nil => simp [cOpds] at h
  | cons o os =>
    simp only [cOpds] at h
    split at h
    · rename_i a ha
      split at h
      · rename_i l hl
        simp only [Option.some.injEq, List.cons.injEq] at h
        obtain ⟨rfl, rfl⟩ := h
        exact ⟨o, os, rfl, ha, hl⟩
      · simp at h
    · simp at h
theorem sim_builtin {call : ACall} {b : Builtin} {ts : Array TypeId} {ty : TypeId} {xs : List Operand} {ao : AOp} {cs : Array Bool} (hc : cBuiltin P nt b ts xs = some ao) (hr : Rel P base m H w) (he : EnvR m e a.tmps) (h : aop call e H ao = some (v, H')) :
    Out P base m H w (builtin b ts ty cs (xs.map a.eval).toArray) v H' := by
  unfold cBuiltin at hc
  split at hc
  ·
    rename_i x hx
    obtain ⟨o, os, rfl, hx', hos⟩ := cOpds_cons hx
    obtain rfl := cOpds_nil hos
    split at hc
    · rename_i t ht
      split at hc
      · rename_i hu
        simp only [Option.some.injEq] at hc; subst hc
        obtain ⟨xv, h1, h2⟩ := with1_eq h
        exact (val_len (isStr := true) hr (by simpa using hu) (opd_vr he hx' h1) h2 ht).out
      · rename_i el hu
        simp only [Option.some.injEq] at hc; subst hc
        obtain ⟨xv, h1, h2⟩ := with1_eq h
        exact (val_len (isStr := false) hr (by simpa using ⟨_, hu⟩) (opd_vr he hx' h1) h2 ht).out
      · rename_i n el hu
        simp only [Option.some.injEq] at hc; subst hc
        simp only [aop, AOpd.val, pureV, Option.some.injEq, Prod.mk.injEq] at h
        obtain ⟨rfl, rfl⟩ := h
        exact (Val.same hr (u := .int .i64 n) (by simp [Builtin.len_, ht, run_underlying' hu, goInt]) (.int _ _)).out
      · rename_i kt et hu
        simp only [Option.some.injEq] at hc; subst hc
        obtain ⟨xv, h1, h2⟩ := with1_eq h
        exact (val_lenMap hr ht hu (opd_vr he hx' h1) h2).out
      · simp at hc
    · simp at hc
  ·
    rename_i s x hx
    obtain ⟨o, os, rfl, ho, hos⟩ := cOpds_cons hx
    obtain ⟨p, os, rfl, hp, hos⟩ := cOpds_cons hos
    obtain rfl := cOpds_nil hos
    split at hc
    · rename_i t t2 ht ht2
      have fin : ∀ el kd, P.underlying t = some (.slice el) → P.underlying t2 = some kd → ((∃ e2, kd = .slice e2) ∨ kd = .string) → (match sizeT P el, bytesT P el, zeroT P el with
          | some z, some by_, some zv => if z = 0 ∨ zv.cells.size ≠ z then none else some (AOp.append z by_ s x)
          | _, _, _ => none) = some ao → Out P base m H w (builtin .append ts ty cs ([o, p].map a.eval).toArray) v H' := fun el kd h1 h2 h3 h4 => by
        split at h4
        · rename_i z by_ zv hz hb hzv
          split at h4
          · simp at h4
          · rename_i hcond
            simp only [Option.some.injEq] at h4; subst h4
            obtain ⟨sv, h5, h6⟩ := with1_eq h
            obtain ⟨xv, h7, h8⟩ := with1_eq h6
            simp only [zeroT, Option.bind_eq_some_iff] at hzv
            obtain ⟨i, hi, hiz⟩ := hzv
            simp only [sizeT, hi, Option.map_some, Option.some.injEq] at hz
            simp only [bytesT, hi, Option.map_some, Option.some.injEq] at hb
            subst hz; subst hb
            have hc1 : ¬ i.size = 0 := fun e => hcond (.inl e)
            have hc2 : zv.cells.size = i.size := by
              by_cases e : zv.cells.size = i.size
              · exact e
              · exact absurd (.inr e) hcond
            exact (val_append hr ht ht2 h1 h2 h3 hi hiz hc2 hc1 (opd_vr he ho h5) (opd_vr he hp h7) h8).out
        · simp at h4
      split at hc
      · rename_i el e2 hu1 hu2; exact fin el _ hu1 hu2 (.inl ⟨e2, rfl⟩) hc
      · rename_i el hu1 hu2; exact fin el _ hu1 hu2 (.inr rfl) hc
      · simp at hc
    · simp at hc
  ·
    rename_i d s hx
    obtain ⟨o, os, rfl, ho, hos⟩ := cOpds_cons hx
    obtain ⟨p, os, rfl, hp, hos⟩ := cOpds_cons hos
    obtain rfl := cOpds_nil hos
    split at hc
    · rename_i t ht
      split at hc
      · rename_i el hu
        split at hc
        · rename_i z hz
          split at hc
          · simp at hc
          · simp only [Option.some.injEq] at hc; subst hc
            obtain ⟨dv, h5, h6⟩ := with1_eq h
            obtain ⟨sv, h7, h8⟩ := with1_eq h6
            exact (val_copy hr ht hu hz (opd_vr he ho h5) (opd_vr he hp h7) h8).out
        · simp at hc
      · simp at hc
    · simp at hc
  ·
    rename_i x as hx
    simp only [Option.some.injEq] at hc; subst hc
    obtain ⟨xv, h1, h2⟩ := with1_eq h
    obtain ⟨vs, h3, h4⟩ := withL_eq h2
    obtain ⟨h5, rfl⟩ := pureV_eq h4
    cases xs with
    | nil => simp [cOpds] at hx
    | cons o os =>
      have hv : vals e (x :: as) = some (xv :: vs) := by simp [vals, h1, h3]
      have hvs := opds_vrs he hx hv
      cases hvs with
      | cons hq hqs =>
        obtain ⟨z, h6, h7⟩ := max_run (P := P) (w := w) ts ty vs _ xv _ _ hqs hq h5
        exact (Val.same hr (u := z) (by simpa [Builtin.max_] using h6) h7).out
  ·
    rename_i x as hx
    simp only [Option.some.injEq] at hc; subst hc
    obtain ⟨xv, h1, h2⟩ := with1_eq h
    obtain ⟨vs, h3, h4⟩ := withL_eq h2
    obtain ⟨h5, rfl⟩ := pureV_eq h4
    cases xs with
    | nil => simp [cOpds] at hx
    | cons o os =>
      have hv : vals e (x :: as) = some (xv :: vs) := by simp [vals, h1, h3]
      have hvs := opds_vrs he hx hv
      cases hvs with
      | cons hq hqs =>
        obtain ⟨z, h6, h7⟩ := min_run (P := P) (w := w) ts ty vs _ xv _ _ hqs hq h5
        exact (Val.same hr (u := z) (by simpa [Builtin.min_] using h6) h7).out
  · simp at hc
end
end Go.AM
namespace Go.AM
section
variable {P : Program} {base : Array Obj} {m : CM} {H H' : AH} {w : World} {nt : Nat} {e : Env} {a : Act} {v : AV}
theorem sim_eql {call : ACall} {op : BinOp} {neg : Bool} (hop : (op = .eql ∧ neg = false) ∨ (op = .neq ∧ neg = true)) {t : TypeId} {x y : Operand} {ao : AOp} (hc : cEql P nt op neg t x y = some ao) (hr : Rel P base m H w) (he : EnvR m e a.tmps) (h : aop call e H ao = some (v, H')) :
    Val P base m H w (do eqGuard op t x y (a.eval x) (a.eval y); binOp op t (a.eval x) (a.eval y)) v H' := by
  unfold cEql at hc
  split at hc
  · rename_i p q hp hq
    have hkinds : ∀ ks, kindsT P eqDepth t = some ks → ∃ g, aggT P t = some g := fun ks hk => by
      obtain ⟨_, g, hg, _⟩ := kinds_sized _ _ _ hk
      exact ⟨g, hg⟩
    split at hc
    · simp only [Option.some.injEq] at hc; subst hc
      obtain ⟨xv, h1, h2⟩ := with1_eq h
      obtain ⟨yv, h3, h4⟩ := with1_eq h2
      obtain ⟨h5, rfl⟩ := pureV_eq h4
      exact val_bin hr (opd_vr he hp h1) (opd_vr he hq h3) h5
    · simp only [Option.some.injEq] at hc; subst hc
      obtain ⟨xv, h1, h2⟩ := with1_eq h
      obtain ⟨yv, h3, h4⟩ := with1_eq h2
      obtain ⟨h5, rfl⟩ := pureV_eq h4
      exact val_bin hr (opd_vr he hp h1) (opd_vr he hq h3) h5
    · rename_i hu
      simp only [Option.map_eq_some_iff] at hc
      obtain ⟨ks, hk, rfl⟩ := hc
      obtain ⟨xv, h1, h2⟩ := with1_eq h
      obtain ⟨yv, h3, h4⟩ := with1_eq h2
      exact val_eqFlat hop hr hk (g := false) (by simp [aggT, hu]) (by decide) (by simp) (fun _ => hu) (opd_vr he hp h1) (opd_vr he hq h3) h4
    · rename_i fs hu
      split at hc
      · simp at hc
      · rename_i hgd
        simp only [Option.map_eq_some_iff] at hc
        obtain ⟨ks, hk, rfl⟩ := hc
        obtain ⟨xv, h1, h2⟩ := with1_eq h
        obtain ⟨yv, h3, h4⟩ := with1_eq h2
        exact val_eqFlat hop hr hk (g := true) (by simp [aggT, hu]) (by decide) (fun _ => by simpa using hgd) (by simp) (opd_vr he hp h1) (opd_vr he hq h3) h4
    · rename_i n el hu
      split at hc
      · simp at hc
      · rename_i hgd
        simp only [Option.map_eq_some_iff] at hc
        obtain ⟨ks, hk, rfl⟩ := hc
        obtain ⟨xv, h1, h2⟩ := with1_eq h
        obtain ⟨yv, h3, h4⟩ := with1_eq h2
        exact val_eqFlat hop hr hk (g := true) (by simp [aggT, hu]) (by decide) (fun _ => by simpa using hgd) (by simp) (opd_vr he hp h1) (opd_vr he hq h3) h4
    all_goals first
      | (simp at hc; done)
      | (rename_i hu
         simp only [Option.some.injEq] at hc; subst hc
         obtain ⟨xv, h1, h2⟩ := with1_eq h
         obtain ⟨yv, h3, h4⟩ := with1_eq h2
         exact val_eqNil hop hr hu rfl (opd_vr he hp h1) (opd_vr he hq h3) h4)
  · simp at hc
theorem cOpt_val (he : EnvR m e a.tmps) {x : Option Operand} {y : Option AOpd} (hc : cOpt nt x = some y) {v : Option AV} (hv : optVal e y = some v) :
    (v = none ∧ x.map a.eval = none) ∨ ∃ w u, v = some w ∧ x.map a.eval = some u ∧ VR m w u := by
  rcases opt_vr he hc hv with ⟨rfl, rfl⟩ | ⟨o, w, rfl, rfl, h⟩
  · exact .inl ⟨rfl, rfl⟩
  · exact .inr ⟨w, _, rfl, rfl, h⟩
theorem toArray_map (xs : Array Operand) (f : Operand → Value) : (xs.toList.map f).toArray = xs.map f := by
  apply Array.ext'
  simp
theorem made_op {call : ACall} {N : Nat} {o : Oper} {ao : AOp} (hc : cOp P nt o.op = some ao) (hcl : ao.cls = .alloc) (hN : N ≤ w.heap.size) (he : EnvR m e a.tmps) (h : aop call e H ao = some (v, H')) :
    ∃ mk obj, v = mk H.next ∧ H' = H.alloc obj ∧ ∃ s : Sem Value, execOp a.eval o = (do pure (.value (← s))) ∧ MadeV P N m w s mk obj := by
  obtain ⟨dst, op, type, pos, after, guard⟩ := o
  simp only at hc
  unfold cOp at hc
  split at hc
  case h_4 t =>
    simp only [Option.map_eq_some_iff] at hc
    obtain ⟨z, hz, rfl⟩ := hc
    simp only [aop, opAlloc, Option.some.injEq, Prod.mk.injEq] at h
    obtain ⟨rfl, rfl⟩ := h
    exact ⟨_, _, rfl, rfl, _, rfl, made_alloc hN hz⟩
  case h_5 t x =>
    obtain ⟨y, hy, rfl⟩ := cv_map hc
    obtain ⟨xv, h1, h2⟩ := with1_eq h
    unfold opBox at h2
    split at h2
    · rename_i cs hcs
      simp only [opAlloc, Option.some.injEq, Prod.mk.injEq] at h2
      obtain ⟨rfl, rfl⟩ := h2
      exact ⟨_, _, rfl, rfl, _, rfl, made_box hN (opd_vr he hy h1) hcs⟩
    · simp at h2
  case h_7 t len ps =>
    split at hc
    · rename_i el hu
      split at hc
      · rename_i n z hn hz
        split at hc
        · rename_i hcond
          simp only [Option.map_eq_some_iff] at hc
          obtain ⟨qs, hq, rfl⟩ := hc
          obtain ⟨rs, h1, h2⟩ := withP_eq h
          unfold opMkslice at h2
          split at h2
          · rename_i cs hcs
            simp only [Option.some.injEq, Prod.mk.injEq] at h2
            obtain ⟨rfl, rfl⟩ := h2
            exact ⟨fun b => .slice b 0 len n, _, rfl, rfl, _, rfl, made_mkslice hN he hu hz hn hcond.1 hcond.2.1 hcond.2.2 hq h1 hcs⟩
          · simp at h2
        · simp at hc
      · simp at hc
    · simp at hc
  case h_17 t =>
    simp only [Option.some.injEq] at hc; subst hc
    simp only [aop, Option.some.injEq, Prod.mk.injEq] at h
    obtain ⟨rfl, rfl⟩ := h
    exact ⟨fun b => .map b, _, rfl, rfl, _, rfl, made_makeMap hN⟩
  case h_18 t l c =>
    split at hc
    · rename_i el hu
      split at hc
      · rename_i n by_ z p q hn hb hz hp hq
        split at hc
        · rename_i hcond
          simp only [Option.some.injEq] at hc; subst hc
          obtain ⟨xv, h1, h2⟩ := with1_eq h
          obtain ⟨yv, h3, h4⟩ := with1_eq h2
          unfold opMakeSlice at h4
          split at h4
          · rename_i l' c' hl' hc'
            split at h4
            · rename_i hcd
              simp only [Option.some.injEq, Prod.mk.injEq] at h4
              obtain ⟨rfl, rfl⟩ := h4
              exact ⟨fun b => .slice b 0 l' n, _, rfl, rfl, _, rfl, made_makeSlice hN hu hn hb hz hcond.1 hcond.2 (opd_vr he hp h1) (opd_vr he hq h3) hl' hc' hcd.1 hcd.2.1 hcd.2.2.1⟩
            · simp at h4
          · simp at h4
        · simp at hc
      · simp at hc
    · simp at hc
  case h_11 => unfold cEql at hc; repeat' split at hc
               all_goals (first | (simp at hc; done) | (simp only [Option.map_eq_some_iff] at hc; obtain ⟨_, _, rfl⟩ := hc; simp [AOp.cls] at hcl) | (simp only [Option.some.injEq] at hc; subst hc; simp [AOp.cls] at hcl))
  case h_12 => unfold cEql at hc; repeat' split at hc
               all_goals (first | (simp at hc; done) | (simp only [Option.map_eq_some_iff] at hc; obtain ⟨_, _, rfl⟩ := hc; simp [AOp.cls] at hcl) | (simp only [Option.some.injEq] at hc; subst hc; simp [AOp.cls] at hcl))
  case h_29 c =>
    split at hc
    · split at hc
      · simp only [Option.some.injEq] at hc; subst hc; simp [AOp.cls] at hcl
      · simp at hc
    · unfold cBuiltin at hc
      repeat' split at hc
      all_goals (first | (simp at hc; done) | (simp only [Option.some.injEq] at hc; subst hc; simp [AOp.cls] at hcl))
    · simp at hc
  all_goals
    repeat' split at hc
    all_goals (first | (simp at hc; done) | (simp only [Option.map_eq_some_iff] at hc; obtain ⟨_, _, rfl⟩ := hc; simp [AOp.cls] at hcl) | (simp only [Option.some.injEq] at hc; subst hc; simp [AOp.cls] at hcl))
theorem sim_op {call : ACall} {o : Oper} {ao : AOp} (hc : cOp P nt o.op = some ao) (hr : Rel P base m H w) (he : EnvR m e a.tmps) (hnc : ∀ f as, ao ≠ .call f as) (h : aop call e H ao = some (v, H')) : Out P base m H w (execOp a.eval o) v H' := by
  by_cases hcl : ao.cls = .alloc
  · obtain ⟨mk, obj, rfl, rfl, sv, h1, h2⟩ := made_op (N := base.size) (w := w) hc hcl hr.size he h
    rw [h1]
    exact (h2.val hr).out
  obtain ⟨dst, op, type, pos, after, guard⟩ := o
  simp only at hc
  unfold cOp at hc
  split at hc
  case h_1 x =>
    obtain ⟨y, hy, rfl⟩ := cv_map hc
    obtain ⟨h1, rfl⟩ := pureV_eq h
    exact Out.same hr rfl (opd_vr he hy h1)
  case h_2 x =>
    obtain ⟨y, hy, rfl⟩ := cv_map hc
    obtain ⟨h1, rfl⟩ := pureV_eq h
    exact Out.same hr rfl (opd_vr he hy h1)
  case h_3 c x y =>
    split at hc
    · rename_i p q r hp hq hr'
      simp only [Option.some.injEq] at hc; subst hc
      obtain ⟨cv, h1, h2⟩ := with1_eq h
      obtain ⟨xv, h3, h4⟩ := with1_eq h2
      obtain ⟨yv, h5, h6⟩ := with1_eq h4
      have k1 := opd_vr he hp h1
      have k2 := opd_vr he hq h3
      have k3 := opd_vr he hr' h5
      cases cv <;> simp only [opPick, reduceCtorEq, Option.some.injEq, Prod.mk.injEq] at h6
      rename_i b
      obtain ⟨rfl, rfl⟩ := h6
      cases hcb : a.eval c with
      | bool b' =>
        rw [hcb] at k1
        cases k1
        refine Out.same hr (u := if b then a.eval x else a.eval y) ?_ ?_
        · simp [execOp, hcb, asBool]
        · cases b
          · exact k3
          · exact k2
      | _ => rw [hcb] at k1; cases k1
    · simp at hc
  case h_4 t =>
    simp only [Option.map_eq_some_iff] at hc
    obtain ⟨z, hz, rfl⟩ := hc
    exact absurd rfl hcl
  case h_5 t x =>
    obtain ⟨y, hy, rfl⟩ := cv_map hc
    exact absurd rfl hcl
  case h_6 t ps =>
    split at hc
    · rename_i z fs hz hu
      split at hc
      · rename_i hall
        simp only [Option.map_eq_some_iff] at hc
        obtain ⟨qs, hq, rfl⟩ := hc
        obtain ⟨rs, h1, h2⟩ := withP_eq h
        exact (val_build_struct hr he hu hz hall hq h1 h2).out
      · simp at hc
    · rename_i z n el hz hu
      split at hc
      · rename_i k hk
        simp only [Option.map_eq_some_iff] at hc
        obtain ⟨qs, hq, rfl⟩ := hc
        obtain ⟨rs, h1, h2⟩ := withP_eq h
        exact (val_build_array hr he hu hz hk hq h1 h2).out
      · simp at hc
    · simp at hc
  case h_7 t len ps =>
    split at hc
    · rename_i el hu
      split at hc
      · rename_i n z hn hz
        split at hc
        · rename_i hcond
          simp only [Option.map_eq_some_iff] at hc
          obtain ⟨qs, hq, rfl⟩ := hc
          exact absurd rfl hcl
        · simp at hc
      · simp at hc
    · simp at hc
  case h_8 t x =>
    split at hc
    · rename_i n y hg hn hy
      simp only [Option.some.injEq] at hc; subst hc
      obtain ⟨xv, h1, h2⟩ := with1_eq h
      exact (val_loadN hr hg hn (opd_vr he hy h1) h2).out
    · rename_i y hg hy _
      simp only [Option.some.injEq] at hc; subst hc
      obtain ⟨xv, h1, h2⟩ := with1_eq h
      exact (val_load hr ‹_› (opd_vr he ‹_› h1) h2).out
    · simp at hc
  case h_9 t x y =>
    split at hc
    · rename_i n p q hn hp hq
      simp only [Option.some.injEq] at hc; subst hc
      obtain ⟨xv, h1, h2⟩ := with1_eq h
      obtain ⟨yv, h3, h4⟩ := with1_eq h2
      exact out_store hr hn (opd_vr he hp h1) (opd_vr he hq h3) h4
    · simp at hc
  case h_10 x =>
    obtain ⟨y, hy, rfl⟩ := cv_map hc
    obtain ⟨xv, h1, h2⟩ := with1_eq h
    have k := opd_vr he hy h1
    have : ∀ u, a.eval x = u → VR m xv u → Out P base m H w (execOp a.eval ⟨dst, .nilCheck x, type, pos, after, guard⟩) v H' := fun u hu hv => by
      have hv' := hv
      cases hv <;> simp only [opNilCheck, reduceCtorEq, Option.some.injEq, Prod.mk.injEq] at h2
      all_goals
        obtain ⟨rfl, rfl⟩ := h2
        exact Out.same hr (by simp only [execOp, hu, Sem.run_pure]) hv'
    exact this _ rfl k
  case h_11 t x y yt => exact (sim_eql (.inl ⟨rfl, rfl⟩) hc hr he h).out
  case h_12 t x y yt => exact (sim_eql (.inr ⟨rfl, rfl⟩) hc hr he h).out
  case h_13 op t x y yt _ _ =>
    split at hc
    · rename_i p q hp hq
      simp only [Option.some.injEq] at hc; subst hc
      obtain ⟨xv, h1, h2⟩ := with1_eq h
      obtain ⟨yv, h3, h4⟩ := with1_eq h2
      obtain ⟨h5, rfl⟩ := pureV_eq h4
      exact (val_bin hr (opd_vr he hp h1) (opd_vr he hq h3) h5).out
    · simp at hc
  case h_14 op t x =>
    obtain ⟨y, hy, rfl⟩ := cv_map hc
    obtain ⟨xv, h1, h2⟩ := with1_eq h
    exact (val_un hr (opd_vr he hy h1) h2).out
  case h_15 src dst' x =>
    split at hc
    · rename_i j k y hu1 hu2 hy
      simp only [Option.some.injEq] at hc; subst hc
      obtain ⟨xv, h1, h2⟩ := with1_eq h
      exact (val_toInt hr hu1 hu2 (opd_vr he hy h1) h2).out
    · rename_i y hu1 hu2 hy
      simp only [Option.some.injEq] at hc; subst hc
      obtain ⟨xv, h1, h2⟩ := with1_eq h
      exact (val_strId hr hu1 hu2 (opd_vr he hy h1) h2).out
    · simp at hc
  case h_16 f first captured =>
    split at hc
    · rename_i p q hp hq
      simp only [Option.some.injEq] at hc; subst hc
      obtain ⟨xs, h1, h2⟩ := withL_eq h
      obtain ⟨ys, h3, h4⟩ := withL_eq h2
      simp only [Option.some.injEq, Prod.mk.injEq] at h4
      obtain ⟨rfl, rfl⟩ := h4
      have k1 := opds_vrs he hp h1
      have k2 := opds_vrs he hq h3
      refine Out.same hr (u := .func (.func f) (first.map a.eval) (captured.map a.eval)) rfl ?_
      rw [← toArray_map, ← toArray_map]
      exact .func f k1 k2
    · simp at hc
  case h_17 t =>
    simp only [Option.some.injEq] at hc; subst hc
    exact absurd rfl hcl
  case h_18 t l c =>
    split at hc
    · rename_i el hu
      split at hc
      · rename_i n by_ z p q hn hb hz hp hq
        split at hc
        · rename_i hcond
          simp only [Option.some.injEq] at hc; subst hc
          exact absurd rfl hcl
        · simp at hc
      · simp at hc
    · simp at hc
  case h_19 t x lo hi =>
    split at hc
    · rename_i p l h' hu hp hl hh
      simp only [Option.some.injEq] at hc; subst hc
      obtain ⟨xv, h1, h2⟩ := with1_eq h
      obtain ⟨lv, h3, h4⟩ := withO_eq h2
      obtain ⟨hv, h5, h6⟩ := withO_eq h4
      exact (val_sliceStr hr hu (opd_vr he hp h1) (cOpt_val he hl h3) (cOpt_val he hh h5) h6).out
    · rename_i el p l h' hu hp hl hh
      simp only [Option.map_eq_some_iff] at hc
      obtain ⟨n, hn, rfl⟩ := hc
      obtain ⟨xv, h1, h2⟩ := with1_eq h
      obtain ⟨lv, h3, h4⟩ := withO_eq h2
      obtain ⟨hv, h5, h6⟩ := withO_eq h4
      exact (val_sliceSl hr hu hn (opd_vr he hp h1) (cOpt_val he hl h3) (cOpt_val he hh h5) h6).out
    · rename_i len el p l h' hu hp hl hh
      simp only [Option.map_eq_some_iff] at hc
      obtain ⟨n, hn, rfl⟩ := hc
      obtain ⟨xv, h1, h2⟩ := with1_eq h
      obtain ⟨lv, h3, h4⟩ := withO_eq h2
      obtain ⟨hv, h5, h6⟩ := withO_eq h4
      exact (val_sliceArr hr hu hn (opd_vr he hp h1) (cOpt_val he hl h3) (cOpt_val he hh h5) h6).out
    · simp at hc
  case h_20 t x k =>
    split at hc
    · rename_i fs p hu hp
      split at hc
      · rename_i f hf
        split at hc
        · rename_i n hn
          split at hc
          · simp at hc
          · rename_i hn0
            simp only [Option.some.injEq] at hc; subst hc
            obtain ⟨xv, h1, h2⟩ := with1_eq h
            exact (val_off hr hu hf hn hn0 (opd_vr he hp h1) h2).out
        · simp at hc
      · simp at hc
    · simp at hc
  case h_21 t x k =>
    split at hc
    · rename_i fs p hu hp
      split at hc
      · rename_i f hf
        split at hc
        · rename_i n hg hn
          simp only [Option.some.injEq] at hc; subst hc
          obtain ⟨xv, h1, h2⟩ := with1_eq h
          exact (val_partN hr hu hf hg hn (opd_vr he hp h1) h2).out
        · rename_i hg _
          simp only [Option.some.injEq] at hc; subst hc
          obtain ⟨xv, h1, h2⟩ := with1_eq h
          exact (val_part hr hu hf ‹_› (opd_vr he hp h1) h2).out
        · simp at hc
      · simp at hc
    · simp at hc
  case h_22 t x i =>
    split at hc
    · rename_i el p q hu hp hq
      simp only [Option.map_eq_some_iff] at hc
      obtain ⟨n, hn, rfl⟩ := hc
      obtain ⟨xv, h1, h2⟩ := with1_eq h
      obtain ⟨yv, h3, h4⟩ := with1_eq h2
      exact (val_idxSl hr hu hn (opd_vr he hp h1) (opd_vr he hq h3) h4).out
    · rename_i len el p q hu hp hq
      simp only [Option.map_eq_some_iff] at hc
      obtain ⟨n, hn, rfl⟩ := hc
      obtain ⟨xv, h1, h2⟩ := with1_eq h
      obtain ⟨yv, h3, h4⟩ := with1_eq h2
      exact (val_idxArr hr hu hn (opd_vr he hp h1) (opd_vr he hq h3) h4).out
    · simp at hc
  case h_23 t x i =>
    split at hc
    · rename_i p q hu hp hq
      simp only [Option.some.injEq] at hc; subst hc
      obtain ⟨xv, h1, h2⟩ := with1_eq h
      obtain ⟨yv, h3, h4⟩ := with1_eq h2
      exact (val_byteAt hr hu (opd_vr he hp h1) (opd_vr he hq h3) h4).out
    · rename_i len el p q hu hp hq
      split at hc
      · rename_i n g hn hg
        simp only [Option.some.injEq] at hc; subst hc
        obtain ⟨xv, h1, h2⟩ := with1_eq h
        obtain ⟨yv, h3, h4⟩ := with1_eq h2
        exact (val_at hr hu hn hg (opd_vr he hp h1) (opd_vr he hq h3) h4).out
      · simp at hc
    · simp at hc
  case h_24 t x k ok =>
    split at hc
    · rename_i kt et p q hu hp hq
      split at hc
      · rename_i ks z g hk hz hg
        simp only [Option.some.injEq] at hc; subst hc
        simp only [Option.bind_eq_some_iff] at hz
        obtain ⟨zv, hz1, hz2⟩ := hz
        obtain ⟨xv, h1, h2⟩ := with1_eq h
        obtain ⟨yv, h3, h4⟩ := with1_eq h2
        exact (val_lookup hr hu hk hg (by decide) hz1 (cv_vr hz2) (opd_vr he hp h1) (opd_vr he hq h3) h4).out
      · simp at hc
    · simp at hc
  case h_25 t x k y =>
    split at hc
    · rename_i kt et p q r hu hp hq hr'
      split at hc
      · rename_i ks g hk hg
        simp only [Option.some.injEq] at hc; subst hc
        obtain ⟨xv, h1, h2⟩ := with1_eq h
        obtain ⟨kv, h3, h4⟩ := with1_eq h2
        obtain ⟨yv, h5, h6⟩ := with1_eq h4
        exact out_update hr hu hk hg (by decide) (opd_vr he hp h1) (opd_vr he hq h3) (opd_vr he hr' h5) h6
      · simp at hc
    · simp at hc
  case h_26 t x =>
    split at hc
    · rename_i p hu hp
      simp only [Option.some.injEq] at hc; subst hc
      obtain ⟨xv, h1, h2⟩ := with1_eq h
      exact (val_rangeStr hr hu (opd_vr he hp h1) h2).out
    · simp at hc
  case h_27 it =>
    obtain ⟨y, hy, rfl⟩ := cv_map hc
    obtain ⟨xv, h1, h2⟩ := with1_eq h
    exact (val_nextStr hr (opd_vr he hy h1) h2).out
  case h_28 x i =>
    obtain ⟨y, hy, rfl⟩ := cv_map (f := fun y => AOp.extract i y) hc
    obtain ⟨xv, h1, h2⟩ := with1_eq h
    exact (val_extract hr (opd_vr he hy h1) h2).out
  case h_29 c =>
    split at hc
    · split at hc
      · simp only [Option.some.injEq] at hc; exact absurd hc.symm (hnc _ _)
      · simp at hc
    · rename_i b hb
      have key : ∀ cs, Out P base m H w (builtin b c.argTypes type cs (c.args.map a.eval)) v H' := fun cs => by
        rw [← toArray_map]; exact sim_builtin hc hr he h
      simp only [execOp, resolve, hb, pure_bind, invoke]
      exact key _
    · simp at hc
  case h_30 => simp at hc
end
end Go.AM
