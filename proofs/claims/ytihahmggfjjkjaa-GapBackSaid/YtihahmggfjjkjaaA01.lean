/- If days are told the other way round all is the same of the same days -/
import Derived.RangeFuncCalls
set_option linter.unusedVariables false
set_option linter.unusedSimpArgs false
namespace Go.AM
inductive AV where
  | bool (b : Bool)
  | int (k : IntKind) (n : Int)
  | str (s : ByteArray)
  | ptr (b i : Nat)
  | nilptr
  | slice (b i len sz : Nat)
  | nilslice
  | map (b : Nat)
  | nilmap
  | func (f : Nat) (first captured : List AV)
  | yield (l : Nat)
  | nilfunc
  | iface (t : TypeId) (v : AV)
  | niliface
  | agg (cs : List AV)
  | tuple (vs : List AV)
  deriving Inhabited
def AV.cells? : AV → Option (List AV)
  | .agg cs => some cs
  | .tuple _ => none
  | v => some [v]
def AV.isCell : AV → Bool
  | .agg _ => false
  | .tuple _ => false
  | _ => true
inductive AOpd where
  | s (t : Nat)
  | c (v : AV)
  deriving Inhabited
inductive ABin where
  | add | sub | mul | quo | rem | and | or | xor | andNot | shl | shr
  | eql | neq | lss | leq | gtr | geq
  deriving DecidableEq, Inhabited
inductive SK where
  | i | b | s
  deriving DecidableEq, Inhabited
inductive NK where
  | ptr | slice | map | func
  deriving DecidableEq, Inhabited
inductive AOp where
  | move (x : AOpd)
  | pick (c a b : AOpd)
  | alloc (zero : List AV)
  | box (x : AOpd)
  | build (zero : List AV) (parts : List (Nat × Nat × AOpd))
  | mkslice (len sz : Nat) (zero : List AV) (parts : List (Nat × Nat × AOpd))
  | load (a : AOpd)
  | loadN (n : Nat) (a : AOpd)
  | store (n : Nat) (a x : AOpd)
  | nilCheck (x : AOpd)
  | bin (op : BinOp) (x y : AOpd)
  | eqFlat (g : Bool) (ks : List SK) (neg : Bool) (x y : AOpd)
  | eqNil (k : NK) (neg : Bool) (x y : AOpd)
  | un (op : UnOp) (x : AOpd)
  | toInt (k : IntKind) (x : AOpd)
  | strId (x : AOpd)
  | func (f : Nat) (first captured : List AOpd)
  | makeMap
  | makeSlice (sz bytes : Nat) (zero : List AV) (len cap : AOpd)
  | sliceStr (x : AOpd) (lo hi : Option AOpd)
  | sliceSl (sz : Nat) (x : AOpd) (lo hi : Option AOpd)
  | sliceArr (n sz : Nat) (x : AOpd) (lo hi : Option AOpd)
  | off (n : Nat) (x : AOpd)
  | idxSl (sz : Nat) (x i : AOpd)
  | idxArr (len sz : Nat) (x i : AOpd)
  | part (off : Nat) (x : AOpd)
  | partN (off n : Nat) (x : AOpd)
  | at (len sz : Nat) (isAgg : Bool) (x i : AOpd)
  | byteAt (x i : AOpd)
  | lookup (g : Bool) (ks : List SK) (zero : AV) (ok : Bool) (m k : AOpd)
  | update (g : Bool) (ks : List SK) (m k v : AOpd)
  | rangeStr (x : AOpd)
  | nextStr (it : AOpd)
  | extract (i : Nat) (x : AOpd)
  | call (f : AOpd) (args : List AOpd)
  | len (isStr : Bool) (x : AOpd)
  | lenMap (x : AOpd)
  | append (sz bytes : Nat) (s x : AOpd)
  | copy (sz : Nat) (d s : AOpd)
  | maxInt (x : AOpd) (xs : List AOpd)
  | minInt (x : AOpd) (xs : List AOpd)
  deriving Inhabited
structure AOper where
  dst : Option Nat
  op : AOp
  guard : Option (Nat × Bool)
  id : Nat
  pre : List Nat
  deriving Inhabited
inductive ACode where
  | skip
  | reg (ops : List AOper) (keep : List Nat)
  | draw (ops : List AOper) (keep : List Nat)
  | seq (a b : ACode)
  | cond (c : AOpd) (a b : ACode)
  | block (id : Nat) (body : ACode)
  | loop (body : ACode)
  | range (f : AOpd) (params : List Nat) (assign body : ACode)
  | exit (id : Nat)
  | ret
  deriving Inhabited
inductive AExit where
  | normal
  | exit (id : Nat)
  | ret
  deriving DecidableEq, Inhabited
abbrev Env := List (Nat × AV)
def Env.get : Env → Nat → Option AV
  | [], _ => none
  | (k, v) :: e, t => if k = t then some v else Env.get e t
def Env.put : Env → Nat → AV → Env
  | [], t, v => [(t, v)]
  | (k, u) :: e, t, v => if k = t then (k, v) :: e else (k, u) :: Env.put e t v
def hasNat : List Nat → Nat → Bool
  | [], _ => false
  | k :: l, t => if k = t then true else hasNat l t
def Env.keep : Env → List Nat → Env
  | [], _ => []
  | (k, u) :: e, l => if hasNat l k then (k, u) :: Env.keep e l else Env.keep e l
inductive LState where
  | ready | busy | done | over
  deriving DecidableEq, Inhabited
structure ALoop where
  state : LState
  pending : AExit
  env : Env
  params : List Nat
  assign : ACode
  body : ACode
  deriving Inhabited
inductive AObj where
  | dead
  | cells (ro : Bool) (vs : List AV)
  | map (es : List (AV × AV))
  | strIter (s : ByteArray) (pos : Nat)
  | loop (l : ALoop)
  deriving Inhabited
inductive Tr (α : Type) where
  | leaf
  | node (v : Option α) (l r : Tr α)
namespace Tr
variable {α : Type}
def get : Tr α → Nat → Option α
  | .leaf, _ => none
  | .node v l r, n => if n = 0 then v else if n % 2 = 1 then get l (n / 2) else get r (n / 2 - 1)
def val : Tr α → Option α
  | .leaf => none
  | .node v _ _ => v
def lft : Tr α → Tr α
  | .leaf => .leaf
  | .node _ l _ => l
def rgt : Tr α → Tr α
  | .leaf => .leaf
  | .node _ _ r => r
def setF : Nat → Tr α → Nat → α → Tr α
  | 0, t, _, v => .node (some v) t.lft t.rgt
  | f + 1, t, n, v =>
    if n = 0 then .node (some v) t.lft t.rgt
    else if n % 2 = 1 then .node t.val (setF f t.lft (n / 2) v) t.rgt
    else .node t.val t.lft (setF f t.rgt (n / 2 - 1) v)
def set (t : Tr α) (n : Nat) (v : α) : Tr α := setF n t n v
theorem get_lft (t : Tr α) (k : Nat) : t.lft.get k = t.get (2 * k + 1) := by
  cases t with
  | leaf => rfl
  | node v l r =>
    have h1 : (2 * k + 1) % 2 = 1 := by omega
    have h2 : (2 * k + 1) / 2 = k := by omega
    simp [lft, get, h1, h2]
theorem get_rgt (t : Tr α) (k : Nat) : t.rgt.get k = t.get (2 * k + 2) := by
  cases t with
  | leaf => rfl
  | node v l r =>
    have h1 : (2 * k + 2) % 2 = 0 := by omega
    have h2 : (2 * k + 2) / 2 - 1 = k := by omega
    simp only [rgt, get, h1, h2]
    simp
theorem get_zero (t : Tr α) : t.get 0 = t.val := by cases t <;> simp [get, val]
theorem get_setF : ∀ (f : Nat) (t : Tr α) (n : Nat) (v : α) (k : Nat), n ≤ f → (setF f t n v).get k = if k = n then some v else t.get k
  | 0, t, n, v, k, h => by
    obtain rfl : n = 0 := by omega
    simp only [setF, get]
    by_cases hk : k = 0
    · simp [hk]
    · simp only [hk, if_false]
      by_cases h2 : k % 2 = 1
      · rw [if_pos h2, get_lft]; congr 1; omega
      · rw [if_neg h2, get_rgt]; congr 1; omega
  | f + 1, t, n, v, k, h => by
    simp only [setF]
    by_cases hn : n = 0
    · subst hn
      simp only [if_true, get]
      by_cases hk : k = 0
      · simp [hk]
      · simp only [hk, if_false]
        by_cases h2 : k % 2 = 1
        · rw [if_pos h2, get_lft]; congr 1; omega
        · rw [if_neg h2, get_rgt]; congr 1; omega
    · rw [if_neg hn]
      by_cases h2 : n % 2 = 1
      · rw [if_pos h2]
        simp only [get]
        by_cases hk : k = 0
        · subst hk; rw [if_pos rfl, if_neg (by omega), get_zero]
        · simp only [hk, if_false]
          by_cases h3 : k % 2 = 1
          · rw [if_pos h3, get_setF f _ _ _ _ (by omega), get_lft]
            by_cases h4 : k = n
            · rw [if_pos (by omega), if_pos h4]
            · rw [if_neg (by omega), if_neg h4]; congr 1; omega
          · rw [if_neg h3, if_neg (by omega), get_rgt]; congr 1; omega
      · rw [if_neg h2]
        simp only [get]
        by_cases hk : k = 0
        · subst hk; rw [if_pos rfl, if_neg (by omega), get_zero]
        · simp only [hk, if_false]
          by_cases h3 : k % 2 = 1
          · rw [if_pos h3, if_neg (by omega), get_lft]; congr 1; omega
          · rw [if_neg h3, get_setF f _ _ _ _ (by omega), get_rgt]
            by_cases h4 : k = n
            · rw [if_pos (by omega), if_pos h4]
            · rw [if_neg (by omega), if_neg h4]; congr 1; omega
theorem get_set (t : Tr α) (n : Nat) (v : α) (k : Nat) : (t.set n v).get k = if k = n then some v else t.get k := get_setF n t n v k (Nat.le_refl _)
end Tr
structure AH where
  next : Nat
  tr : Tr AObj
def AH.get (H : AH) (b : Nat) : Option AObj := H.tr.get b
def AH.set (H : AH) (b : Nat) (o : AObj) : AH := { H with tr := H.tr.set b o }
def AH.alloc (H : AH) (o : AObj) : AH := { next := H.next + 1, tr := H.tr.set H.next o }
theorem AH.get_set (H : AH) (b : Nat) (o : AObj) (k : Nat) : (H.set b o).get k = if k = b then some o else H.get k := Tr.get_set _ _ _ _
theorem AH.get_alloc (H : AH) (o : AObj) (k : Nat) : (H.alloc o).get k = if k = H.next then some o else H.get k := Tr.get_set _ _ _ _
@[simp] theorem AH.next_set (H : AH) (b : Nat) (o : AObj) : (H.set b o).next = H.next := rfl
@[simp] theorem AH.next_alloc (H : AH) (o : AObj) : (H.alloc o).next = H.next + 1 := rfl
def readN (vs : List AV) (i n : Nat) : Option (List AV) :=
  if i + n ≤ vs.length then some ((vs.drop i).take n) else none
def AH.read (H : AH) (b i n : Nat) : Option (List AV) :=
  match H.get b with
  | some (.cells _ vs) => readN vs i n
  | _ => none
def AH.read1 (H : AH) (b i : Nat) : Option AV :=
  match H.get b with
  | some (.cells _ vs) => vs[i]?
  | _ => none
def writeN : List AV → Nat → List AV → Option (List AV)
  | vs, _, [] => some vs
  | [], _, _ :: _ => none
  | v :: vs, 0, x :: xs => (writeN vs 0 xs).map (x :: ·)
  | v :: vs, i + 1, xs => (writeN vs i xs).map (v :: ·)
def AH.write (H : AH) (b i : Nat) (xs : List AV) : Option AH :=
  match H.get b with
  | some (.cells false vs) =>
    match writeN vs i xs with
    | some vs' => if xs.all AV.isCell then some (H.set b (.cells false vs')) else none
    | none => none
  | _ => none
def fillA (cells : List AV) : List (Nat × Nat × AV) → Option (List AV)
  | [] => some cells
  | (o, n, v) :: rest =>
    match v.cells? with
    | some cs =>
      if cs.length = n ∧ o + n ≤ cells.length then
        match writeN cells o cs with
        | some cells' => fillA cells' rest
        | none => none
      else none
    | none => none
def repeatL (zero : List AV) : Nat → List AV
  | 0 => []
  | n + 1 => zero ++ repeatL zero n
def eqCells : List SK → List AV → List AV → Option Bool
  | [], [], [] => some true
  | .i :: ks, .int j a :: xs, .int k b :: ys => if j = k then (eqCells ks xs ys).map (a == b && ·) else none
  | .b :: ks, .bool a :: xs, .bool b :: ys => (eqCells ks xs ys).map (a == b && ·)
  | .s :: ks, .str a :: xs, .str b :: ys => (eqCells ks xs ys).map (a.toList == b.toList && ·)
  | _, _, _ => none
def eqFlatA (g : Bool) (ks : List SK) (x y : AV) : Option Bool :=
  match g, x, y with
  | true, .agg xs, .agg ys => eqCells ks xs ys
  | false, x, y => eqCells ks [x] [y]
  | _, _, _ => none
def eqNilA : NK → AV → AV → Option Bool
  | .ptr, .nilptr, .nilptr => some true
  | .ptr, .nilptr, .ptr _ _ => some false
  | .ptr, .ptr _ _, .nilptr => some false
  | .slice, .nilslice, .nilslice => some true
  | .slice, .nilslice, .slice _ _ _ _ => some false
  | .slice, .slice _ _ _ _, .nilslice => some false
  | .map, .nilmap, .nilmap => some true
  | .map, .nilmap, .map _ => some false
  | .map, .map _, .nilmap => some false
  | .func, .nilfunc, .nilfunc => some true
  | .func, .nilfunc, .func _ _ _ => some false
  | .func, .func _ _ _, .nilfunc => some false
  | .func, .nilfunc, .yield _ => some false
  | .func, .yield _, .nilfunc => some false
  | _, _, _ => none
def binA (op : BinOp) (x y : AV) : Option AV :=
  match x, y with
  | .int j a, .int k b =>
    match op with
    | .shl => if b < 0 then none else some (.int j (j.wrap (a * 2 ^ (min b.toNat j.bits))))
    | .shr => if b < 0 then none else some (.int j (a.fdiv (2 ^ (min b.toNat j.bits))))
    | _ =>
      if j = k then
        match op with
        | .add => some (.int j (j.wrap (a + b)))
        | .sub => some (.int j (j.wrap (a - b)))
        | .mul => some (.int j (j.wrap (a * b)))
        | .quo => if b = 0 then none else some (.int j (j.wrap (a.tdiv b)))
        | .rem => if b = 0 then none else some (.int j (a.tmod b))
        | .and => some (.int j (j.wrap (BitVec.ofInt j.bits a &&& BitVec.ofInt j.bits b).toNat))
        | .or => some (.int j (j.wrap (BitVec.ofInt j.bits a ||| BitVec.ofInt j.bits b).toNat))
        | .xor => some (.int j (j.wrap (BitVec.ofInt j.bits a ^^^ BitVec.ofInt j.bits b).toNat))
        | .andNot => some (.int j (j.wrap (BitVec.ofInt j.bits a &&& ~~~(BitVec.ofInt j.bits b)).toNat))
        | .eql => some (.bool (a == b))
        | .neq => some (.bool (a != b))
        | .lss => some (.bool (decide (a < b)))
        | .leq => some (.bool (decide (a ≤ b)))
        | .gtr => some (.bool (decide (a > b)))
        | .geq => some (.bool (decide (a ≥ b)))
        | _ => none
      else none
  | .str a, .str b =>
    match op with
    | .add => if ((a.size + b.size : Nat) : Int) > IntKind.i64.max then none else some (.str (a ++ b))
    | .eql => some (.bool (a.toList == b.toList))
    | .neq => some (.bool !(a.toList == b.toList))
    | .lss => some (.bool (Op.bytesLess a.toList b.toList))
    | .leq => some (.bool (Op.bytesLess a.toList b.toList || a.toList == b.toList))
    | .gtr => some (.bool !(Op.bytesLess a.toList b.toList || a.toList == b.toList))
    | .geq => some (.bool !(Op.bytesLess a.toList b.toList))
    | _ => none
  | _, _ => none
def AOpd.val (e : Env) : AOpd → Option AV
  | .s t => e.get t
  | .c v => some v
def vals (e : Env) : List AOpd → Option (List AV)
  | [] => some []
  | x :: xs =>
    match x.val e with
    | some v => match vals e xs with
      | some vs => some (v :: vs)
      | none => none
    | none => none
def partVals (e : Env) : List (Nat × Nat × AOpd) → Option (List (Nat × Nat × AV))
  | [] => some []
  | (o, n, x) :: xs =>
    match x.val e with
    | some v => match partVals e xs with
      | some vs => some ((o, n, v) :: vs)
      | none => none
    | none => none
def natOf : AV → Option Nat
  | .int .i64 n => if 0 ≤ n then some n.toNat else none
  | _ => none
def srcCells (H : AH) (sz n : Nat) : AV → Option (List AV)
  | .slice b i len z => if z = sz ∧ n ≤ len then H.read b i (n * sz) else none
  | .nilslice => if n = 0 then some [] else none
  | .str s => if sz = 1 ∧ n ≤ s.size then some ((s.toList.take n).map fun b => .int .u8 b.toNat) else none
  | _ => none
def lenA : AV → Option Nat
  | .slice _ _ len _ => some len
  | .nilslice => some 0
  | .str s => some s.size
  | _ => none
def roomA : Nat := 140737488355328
def appendA (H : AH) (sz bytes : Nat) (s x : AV) : Option (AV × AH) :=
  match lenA x with
  | none => none
  | some n =>
    match srcCells H sz n x with
    | none => none
    | some new =>
      match s with
      | .nilslice =>
        if n = 0 then some (.nilslice, H)
        else if n ≤ roomA ∧ n * bytes ≤ roomA then some (.slice H.next 0 n sz, H.alloc (.cells false new)) else none
      | .slice b i len z =>
        if n = 0 then some (.slice b i len z, H)
        else
          match H.get b with
          | some (.cells false vs) =>
            match readN vs i (len * sz) with
            | some old =>
              if z = sz ∧ len + n ≤ roomA ∧ (len + n) * bytes ≤ roomA ∧ new.all AV.isCell = true then
                some (.slice H.next 0 (len + n) sz, (H.set b .dead).alloc (.cells false (old ++ new)))
              else none
            | none => none
          | _ => none
      | _ => none
def copyN (H : AH) (sz n : Nat) (d s : AV) : Option (AV × AH) :=
  match srcCells H sz n s with
  | none => none
  | some new =>
    match d with
    | .nilslice => some (.int .i64 n, H)
    | .slice b i _ z =>
      if z = sz then
        match H.write b i new with
        | some H' => some (.int .i64 n, H')
        | none => none
      else none
    | _ => none
def copyA (H : AH) (sz : Nat) (d s : AV) : Option (AV × AH) :=
  match lenA s, lenA d with
  | some ns, some nd => copyN H sz (min ns nd) d s
  | _, _ => none
def findA (g : Bool) (ks : List SK) (k : AV) : List (AV × AV) → Option (Option AV)
  | [] => some none
  | (k', v) :: es =>
    match eqFlatA g ks k k' with
    | some true => some (some v)
    | some false => findA g ks k es
    | none => none
def putA (g : Bool) (ks : List SK) (k v : AV) : List (AV × AV) → Option (List (AV × AV))
  | [] => some [(k, v)]
  | (k', v') :: es =>
    match eqFlatA g ks k k' with
    | some true => some ((k, v) :: es)
    | some false => (putA g ks k v es).map ((k', v') :: ·)
    | none => none
def max2A : AV → List AV → Option AV
  | v, [] => some v
  | .int j a, .int k b :: vs => if j = k then max2A (.int j (if b > a then b else a)) vs else none
  | _, _ => none
def min2A : AV → List AV → Option AV
  | v, [] => some v
  | .int j a, .int k b :: vs => if j = k then min2A (.int j (if b < a then b else a)) vs else none
  | _, _ => none
abbrev ACall := AV → List AV → AH → Option (AV × AH)
abbrev ORes := Option (AV × AH)
def pureV (H : AH) : Option AV → ORes
  | some v => some (v, H)
  | none => none
def with1 (x : Option AV) (f : AV → ORes) : ORes :=
  match x with
  | some v => f v
  | none => none
def withL (x : Option (List AV)) (f : List AV → ORes) : ORes :=
  match x with
  | some v => f v
  | none => none
def withP (x : Option (List (Nat × Nat × AV))) (f : List (Nat × Nat × AV) → ORes) : ORes :=
  match x with
  | some v => f v
  | none => none
def opPick (c a b : AV) (H : AH) : ORes :=
  match c with
  | .bool t => some (if t then a else b, H)
  | _ => none
def opAlloc (cs : List AV) (H : AH) : ORes := some (.ptr H.next 0, H.alloc (.cells false cs))
def opBox (v : AV) (H : AH) : ORes :=
  match v.cells? with
  | some cs => opAlloc cs H
  | none => none
def opBuild (zero : List AV) (ps : List (Nat × Nat × AV)) (H : AH) : ORes :=
  match fillA zero ps with
  | some cs => some (.agg cs, H)
  | none => none
def opMkslice (len sz : Nat) (zero : List AV) (ps : List (Nat × Nat × AV)) (H : AH) : ORes :=
  match fillA zero ps with
  | some cs => some (.slice H.next 0 len sz, H.alloc (.cells false cs))
  | none => none
def opLoad (v : AV) (H : AH) : ORes :=
  match v with
  | .ptr b i => pureV H (H.read1 b i)
  | _ => none
def aggOf (H : AH) : Option (List AV) → ORes
  | some cs => some (.agg cs, H)
  | none => none
def opLoadN (n : Nat) (v : AV) (H : AH) : ORes :=
  match v with
  | .ptr b i => aggOf H (H.read b i n)
  | _ => none
def unitOf : Option AH → ORes
  | some H => some (.tuple [], H)
  | none => none
def opStore (n : Nat) (a v : AV) (H : AH) : ORes :=
  match a with
  | .ptr b i =>
    match v.cells? with
    | some cs => if cs.length = n then unitOf (H.write b i cs) else none
    | none => none
  | _ => none
def opNilCheck (v : AV) (H : AH) : ORes :=
  match v with
  | .ptr b i => some (.ptr b i, H)
  | .func f a b => some (.func f a b, H)
  | .yield l => some (.yield l, H)
  | .iface t v => some (.iface t v, H)
  | _ => none
def boolOf (H : AH) (neg : Bool) : Option Bool → ORes
  | some t => some (.bool (t != neg), H)
  | none => none
def opUn (op : UnOp) (v : AV) (H : AH) : ORes :=
  match op, v with
  | .neg, .int k n => some (.int k (k.wrap (0 - n)), H)
  | .not, .bool b => some (.bool !b, H)
  | _, _ => none
def opToInt (k : IntKind) (v : AV) (H : AH) : ORes :=
  match v with
  | .int _ n => some (.int k (k.wrap n), H)
  | _ => none
def opStrId (v : AV) (H : AH) : ORes :=
  match v with
  | .str s => some (.str s, H)
  | _ => none
def opMakeSlice (sz bytes : Nat) (zero : List AV) (l c : AV) (H : AH) : ORes :=
  match natOf l, natOf c with
  | some l, some c =>
    if l ≤ c ∧ c ≤ roomA ∧ bytes * c ≤ roomA ∧ zero.length = sz then some (.slice H.next 0 l sz, H.alloc (.cells false (repeatL zero c))) else none
  | _, _ => none
def optNat (d : Nat) : Option AV → Option Nat
  | none => some d
  | some v => natOf v
def opSliceStr (v : AV) (lo hi : Option AV) (H : AH) : ORes :=
  match v with
  | .str s => match optNat 0 lo, optNat s.size hi with
    | some l, some h => if l ≤ h ∧ h ≤ s.size then some (.str (s.extract l h), H) else none
    | _, _ => none
  | _ => none
def opSliceSl (sz : Nat) (v : AV) (lo hi : Option AV) (H : AH) : ORes :=
  match v with
  | .slice b i len z => match optNat 0 lo, optNat len hi with
    | some l, some h => if z = sz ∧ l ≤ h ∧ h ≤ len then some (.slice b (i + l * sz) (h - l) sz, H) else none
    | _, _ => none
  | .nilslice => match optNat 0 lo, optNat 0 hi with
    | some 0, some 0 => some (.nilslice, H)
    | _, _ => none
  | _ => none
def opSliceArr (n sz : Nat) (v : AV) (lo hi : Option AV) (H : AH) : ORes :=
  match v with
  | .ptr b i => match optNat 0 lo, optNat n hi with
    | some l, some h =>
      match H.get b with
      | some (.cells false vs) => if l ≤ h ∧ h ≤ n ∧ i + n * sz ≤ vs.length then some (.slice b (i + l * sz) (h - l) sz, H) else none
      | _ => none
    | _, _ => none
  | _ => none
def opOff (n : Nat) (v : AV) (H : AH) : ORes :=
  match v with
  | .ptr b i => some (.ptr b (i + n), H)
  | _ => none
def opIdxSl (sz : Nat) (v i : AV) (H : AH) : ORes :=
  match v with
  | .slice b j len _ => match natOf i with
    | some k => if k < len then some (.ptr b (j + k * sz), H) else none
    | none => none
  | _ => none
def opIdxArr (len sz : Nat) (v i : AV) (H : AH) : ORes :=
  match v with
  | .ptr b j => match natOf i with
    | some k => if k < len then some (.ptr b (j + k * sz), H) else none
    | none => none
  | _ => none
def opPart (o : Nat) (v : AV) (H : AH) : ORes :=
  match v with
  | .agg cs => pureV H cs[o]?
  | _ => none
def opPartN (o n : Nat) (v : AV) (H : AH) : ORes :=
  match v with
  | .agg cs => aggOf H (readN cs o n)
  | _ => none
def opAt (len sz : Nat) (isAgg : Bool) (v i : AV) (H : AH) : ORes :=
  match v with
  | .agg cs => match natOf i with
    | some k => if k < len then (if isAgg then aggOf H (readN cs (k * sz) sz) else pureV H cs[k * sz]?) else none
    | none => none
  | _ => none
def opByteAt (v i : AV) (H : AH) : ORes :=
  match v with
  | .str s => match natOf i with
    | some k => match s.toList[k]? with
      | some b => some (.int .u8 b.toNat, H)
      | none => none
    | none => none
  | _ => none
def opLookup (g : Bool) (ks : List SK) (zero : AV) (ok : Bool) (m k : AV) (H : AH) : ORes :=
  match eqFlatA g ks k k with
  | none => none
  | some _ =>
    match m with
    | .map b =>
      match H.get b with
      | some (.map es) => match findA g ks k es with
        | some (some v) => some (if ok then .tuple [v, .bool true] else v, H)
        | some none => some (if ok then .tuple [zero, .bool false] else zero, H)
        | none => none
      | _ => none
    | .nilmap => some (if ok then .tuple [zero, .bool false] else zero, H)
    | _ => none
def opUpdate (g : Bool) (ks : List SK) (m k v : AV) (H : AH) : ORes :=
  match m with
  | .map b =>
    match eqFlatA g ks k k with
    | some true =>
      match H.get b with
      | some (.map es) => match putA g ks k v es with
        | some es' => some (.tuple [], H.set b (.map es'))
        | none => none
      | _ => none
    | _ => none
  | _ => none
def opRangeStr (v : AV) (H : AH) : ORes :=
  match v with
  | .str s => some (.ptr H.next 0, H.alloc (.strIter s 0))
  | _ => none
def opNextStr (v : AV) (H : AH) : ORes :=
  match v with
  | .ptr b 0 =>
    match H.get b with
    | some (.strIter s pos) =>
      if pos < s.size then
        some (.tuple [.bool true, .int .i64 pos, .int .i32 (Utf8.decode s pos).1], H.set b (.strIter s (pos + (Utf8.decode s pos).2)))
      else some (.tuple [.bool false], H)
    | _ => none
  | _ => none
def opExtract (i : Nat) (v : AV) (H : AH) : ORes :=
  match v with
  | .tuple vs => pureV H vs[i]?
  | _ => none
def opLen (isStr : Bool) (v : AV) (H : AH) : ORes :=
  match isStr, v with
  | true, .str s => some (.int .i64 s.size, H)
  | false, .slice _ _ len _ => some (.int .i64 len, H)
  | false, .nilslice => some (.int .i64 0, H)
  | _, _ => none
def opLenMap (v : AV) (H : AH) : ORes :=
  match v with
  | .nilmap => some (.int .i64 0, H)
  | .map b => match H.get b with
    | some (.map es) => some (.int .i64 es.length, H)
    | _ => none
  | _ => none
def optVal (e : Env) : Option AOpd → Option (Option AV)
  | none => some none
  | some x => match x.val e with
    | some v => some (some v)
    | none => none
def withO (x : Option (Option AV)) (f : Option AV → ORes) : ORes :=
  match x with
  | some v => f v
  | none => none
def aop (call : ACall) (e : Env) (H : AH) : AOp → ORes
  | .move x => pureV H (x.val e)
  | .pick c a b => with1 (c.val e) fun c => with1 (a.val e) fun a => with1 (b.val e) fun b => opPick c a b H
  | .alloc zero => opAlloc zero H
  | .box x => with1 (x.val e) fun v => opBox v H
  | .build zero parts => withP (partVals e parts) fun ps => opBuild zero ps H
  | .mkslice len sz zero parts => withP (partVals e parts) fun ps => opMkslice len sz zero ps H
  | .load a => with1 (a.val e) fun v => opLoad v H
  | .loadN n a => with1 (a.val e) fun v => opLoadN n v H
  | .store n a x => with1 (a.val e) fun a => with1 (x.val e) fun v => opStore n a v H
  | .nilCheck x => with1 (x.val e) fun v => opNilCheck v H
  | .bin op x y => with1 (x.val e) fun v => with1 (y.val e) fun u => pureV H (binA op v u)
  | .eqFlat g ks neg x y => with1 (x.val e) fun v => with1 (y.val e) fun u => boolOf H neg (eqFlatA g ks v u)
  | .eqNil k neg x y => with1 (x.val e) fun v => with1 (y.val e) fun u => boolOf H neg (eqNilA k v u)
  | .un op x => with1 (x.val e) fun v => opUn op v H
  | .toInt k x => with1 (x.val e) fun v => opToInt k v H
  | .strId x => with1 (x.val e) fun v => opStrId v H
  | .func f first captured => withL (vals e first) fun a => withL (vals e captured) fun b => some (.func f a b, H)
  | .makeMap => some (.map H.next, H.alloc (.map []))
  | .makeSlice sz bytes zero len cap => with1 (len.val e) fun l => with1 (cap.val e) fun c => opMakeSlice sz bytes zero l c H
  | .sliceStr x lo hi => with1 (x.val e) fun v => withO (optVal e lo) fun lo => withO (optVal e hi) fun hi => opSliceStr v lo hi H
  | .sliceSl sz x lo hi => with1 (x.val e) fun v => withO (optVal e lo) fun lo => withO (optVal e hi) fun hi => opSliceSl sz v lo hi H
  | .sliceArr n sz x lo hi => with1 (x.val e) fun v => withO (optVal e lo) fun lo => withO (optVal e hi) fun hi => opSliceArr n sz v lo hi H
  | .off n x => with1 (x.val e) fun v => opOff n v H
  | .idxSl sz x i => with1 (x.val e) fun v => with1 (i.val e) fun i => opIdxSl sz v i H
  | .idxArr len sz x i => with1 (x.val e) fun v => with1 (i.val e) fun i => opIdxArr len sz v i H
  | .part o x => with1 (x.val e) fun v => opPart o v H
  | .partN o n x => with1 (x.val e) fun v => opPartN o n v H
  | .at len sz g x i => with1 (x.val e) fun v => with1 (i.val e) fun i => opAt len sz g v i H
  | .byteAt x i => with1 (x.val e) fun v => with1 (i.val e) fun i => opByteAt v i H
  | .lookup g ks zero ok m k => with1 (m.val e) fun m => with1 (k.val e) fun k => opLookup g ks zero ok m k H
  | .update g ks m k v => with1 (m.val e) fun m => with1 (k.val e) fun k => with1 (v.val e) fun v => opUpdate g ks m k v H
  | .rangeStr x => with1 (x.val e) fun v => opRangeStr v H
  | .nextStr x => with1 (x.val e) fun v => opNextStr v H
  | .extract i x => with1 (x.val e) fun v => opExtract i v H
  | .call f args => with1 (f.val e) fun f => withL (vals e args) fun vs => call f vs H
  | .len s x => with1 (x.val e) fun v => opLen s v H
  | .lenMap x => with1 (x.val e) fun v => opLenMap v H
  | .append sz bytes s x => with1 (s.val e) fun s => with1 (x.val e) fun x => appendA H sz bytes s x
  | .copy sz d s => with1 (d.val e) fun d => with1 (s.val e) fun s => copyA H sz d s
  | .maxInt x xs => with1 (x.val e) fun v => withL (vals e xs) fun vs => pureV H (max2A v vs)
  | .minInt x xs => with1 (x.val e) fun v => withL (vals e xs) fun vs => pureV H (min2A v vs)
inductive Cls where
  | pure | load | alloc | eff
  deriving DecidableEq, Inhabited
def AOp.cls : AOp → Cls
  | .load _ | .loadN _ _ | .lookup _ _ _ _ _ _ | .lenMap _ | .sliceArr _ _ _ _ _ => .load
  | .alloc _ | .box _ | .mkslice _ _ _ _ | .makeMap | .makeSlice _ _ _ _ _ => .alloc
  | .store _ _ _ | .call _ _ | .append _ _ _ _ | .copy _ _ _ | .update _ _ _ _ _ | .rangeStr _ | .nextStr _ => .eff
  | _ => .pure
def AOper.wanted (o : AOper) (e : Env) : Option Bool :=
  match o.guard with
  | none => some true
  | some (t, want) => match e.get t with
    | some (.bool b) => some (b == want)
    | some (.tuple []) => some false
    | _ => none
def putDst (e : Env) (dst : Option Nat) (v : AV) : Env :=
  match dst with
  | some t => e.put t v
  | none => e
def aops (call : ACall) : List AOper → Env → AH → Option (Env × AH)
  | [], e, H => some (e, H)
  | o :: os, e, H =>
    match o.wanted e with
    | some true =>
      match aop call e H o.op with
      | some (v, H') => aops call os (putDst e o.dst v) H'
      | none => none
    | some false => aops call os (putDst e o.dst (.tuple [])) H
    | none => none
mutual
def eqA : AV → AV → Bool
  | .bool a, .bool b => a == b
  | .int j a, .int k b => decide (j = k) && decide (a = b)
  | .str a, .str b => decide (a.data.toList = b.data.toList)
  | .ptr a i, .ptr b j => decide (a = b) && decide (i = j)
  | .nilptr, .nilptr => true
  | .slice a i l z, .slice b j m y => decide (a = b) && decide (i = j) && decide (l = m) && decide (z = y)
  | .nilslice, .nilslice => true
  | .map a, .map b => decide (a = b)
  | .nilmap, .nilmap => true
  | .func f a b, .func g c d => decide (f = g) && eqAs a c && eqAs b d
  | .yield a, .yield b => decide (a = b)
  | .nilfunc, .nilfunc => true
  | .iface t v, .iface u w => decide (t = u) && eqA v w
  | .niliface, .niliface => true
  | .agg a, .agg b => eqAs a b
  | .tuple a, .tuple b => eqAs a b
  | _, _ => false
def eqAs : List AV → List AV → Bool
  | [], [] => true
  | a :: as, b :: bs => eqA a b && eqAs as bs
  | _, _ => false
end
mutual
theorem eqA_eq : ∀ {a b : AV}, eqA a b = true → a = b
  | .bool a, b, h => by cases b <;> simp_all [eqA]
  | .int j a, b, h => by cases b <;> simp_all [eqA]
  | .str a, b, h => by
    cases b <;> simp only [eqA, Bool.false_eq_true] at h
    rename_i b
    obtain ⟨⟨a⟩⟩ := a
    obtain ⟨⟨b⟩⟩ := b
    simp at h
    rw [h]
  | .ptr a i, b, h => by cases b <;> simp_all [eqA]
  | .nilptr, b, h => by cases b <;> simp_all [eqA]
  | .slice a i l z, b, h => by cases b <;> simp_all [eqA]
  | .nilslice, b, h => by cases b <;> simp_all [eqA]
  | .map a, b, h => by cases b <;> simp_all [eqA]
  | .nilmap, b, h => by cases b <;> simp_all [eqA]
  | .func f a c, b, h => by
    cases b <;> simp only [eqA, Bool.false_eq_true, Bool.and_eq_true, decide_eq_true_eq] at h
    obtain ⟨⟨rfl, h1⟩, h2⟩ := h
    rw [eqAs_eq h1, eqAs_eq h2]
  | .yield a, b, h => by cases b <;> simp_all [eqA]
  | .nilfunc, b, h => by cases b <;> simp_all [eqA]
  | .iface t v, b, h => by
    cases b <;> simp only [eqA, Bool.false_eq_true, Bool.and_eq_true, decide_eq_true_eq] at h
    obtain ⟨rfl, h1⟩ := h
    rw [eqA_eq h1]
  | .niliface, b, h => by cases b <;> simp_all [eqA]
  | .agg a, b, h => by
    cases b <;> simp only [eqA, Bool.false_eq_true] at h
    rw [eqAs_eq h]
  | .tuple a, b, h => by
    cases b <;> simp only [eqA, Bool.false_eq_true] at h
    rw [eqAs_eq h]
theorem eqAs_eq : ∀ {a b : List AV}, eqAs a b = true → a = b
  | [], b, h => by cases b <;> simp_all [eqAs]
  | a :: as, b, h => by
    cases b <;> simp only [eqAs, Bool.false_eq_true, Bool.and_eq_true] at h
    rw [eqA_eq h.1, eqAs_eq h.2]
end
mutual
theorem eqA_refl : ∀ (a : AV), eqA a a = true
  | .bool a | .int _ _ | .str _ | .ptr _ _ | .nilptr | .slice _ _ _ _ | .nilslice | .map _ | .nilmap | .yield _ | .nilfunc | .niliface => by simp [eqA]
  | .func f a c => by simp [eqA, eqAs_refl a, eqAs_refl c]
  | .iface t v => by simp [eqA, eqA_refl v]
  | .agg a => by simp [eqA, eqAs_refl a]
  | .tuple a => by simp [eqA, eqAs_refl a]
theorem eqAs_refl : ∀ (a : List AV), eqAs a a = true
  | [] => by simp [eqAs]
  | a :: as => by simp [eqAs, eqA_refl a, eqAs_refl as]
end
structure Step where
  o : AOper
  env : Env
  want : Bool
  v : AV
  before : AH
  after : AH
def aopsT (call : ACall) : List AOper → Env → AH → Option (List Step × Env × AH)
  | [], e, H => some ([], e, H)
  | o :: os, e, H =>
    match o.wanted e with
    | some true =>
      match aop call e H o.op with
      | some (v, H') => match aopsT call os (putDst e o.dst v) H' with
        | some (l, r) => some (⟨o, e, true, v, H, H'⟩ :: l, r)
        | none => none
      | none => none
    | some false => match aopsT call os (putDst e o.dst (.tuple [])) H with
      | some (l, r) => some (⟨o, e, false, .tuple [], H, H⟩ :: l, r)
      | none => none
    | none => none
def AOper.isEff (o : AOper) : Bool := decide (o.op.cls = .eff)
def admits (o : AOper) (over todo : List AOper) : Bool :=
  (todo.all fun e => !hasNat o.pre e.id) && (over.all fun e => !hasNat e.pre o.id)
def stableIn (call : ACall) (S : AH) (over todo : List AOper) (s : Step) : Bool :=
  if s.want && decide (s.o.op.cls = .load) && admits s.o over todo then
    match aop call s.env S s.o.op with
    | some (v, _) => eqA v s.v
    | none => false
  else true
def stable (call : ACall) (all : List Step) : List AOper → List Step → AH → Bool
  | over, [], last => all.all (stableIn call last over [])
  | over, s :: ss, last =>
    if s.o.isEff then all.all (stableIn call s.before over (s.o :: (ss.filter (·.o.isEff)).map (·.o))) && stable call all (over ++ [s.o]) ss last
    else stable call all over ss last
def adraw (call : ACall) (ops : List AOper) (e : Env) (H : AH) : Option (Env × AH) :=
  match aopsT call ops e H with
  | some (l, e', H') => if stable call l [] l H' then some (e', H') else none
  | none => none
abbrev CRes := Option (AExit × Env × AH)
def aloop : Nat → (Env → AH → CRes) → Env → AH → CRes
  | 0, _, _, _ => none
  | k + 1, f, e, H =>
    match f e H with
    | some (.normal, e', H') => aloop k f e' H'
    | r => r
def code (call : ACall) (k : Nat) : ACode → Env → AH → CRes
  | .skip, e, H => some (.normal, e, H)
  | .reg ops kp, e, H =>
    match aops call ops e H with
    | some (e', H') => some (.normal, e'.keep kp, H')
    | none => none
  | .draw ops kp, e, H =>
    match adraw call ops e H with
    | some (e', H') => some (.normal, e'.keep kp, H')
    | none => none
  | .seq a b, e, H =>
    match code call k a e H with
    | some (.normal, e', H') => code call k b e' H'
    | r => r
  | .cond c a b, e, H =>
    match c.val e with
    | some (.bool t) => if t then code call k a e H else code call k b e H
    | _ => none
  | .block id body, e, H =>
    match code call k body e H with
    | some (.exit i, e', H') => if i = id then some (.normal, e', H') else some (.exit i, e', H')
    | r => r
  | .loop body, e, H => aloop k (code call k body) e H
  | .range f params assign body, e, H =>
    match f.val e with
    | some (.func g first captured) =>
      match call (.func g first captured) [.yield H.next] (H.alloc (.loop { state := .ready, pending := .normal, env := e, params, assign, body })) with
      | some (_, H2) =>
        match H2.get H.next with
        | some (.loop L) => if L.state = .busy then none else some (L.pending, e, H2.set H.next (.loop { L with state := .over }))
        | _ => none
      | none => none
    | _ => none
  | .exit id, e, H => some (.exit id, e, H)
  | .ret, e, H => some (.ret, e, H)
inductive ARes where
  | slot (t : Nat)
  | cell (a : Nat)
  | cellN (n a : Nat)
  deriving Inhabited
structure AFunc where
  nt : Nat
  body : ACode
  res : List ARes
  deriving Inhabited
def resVals (e : Env) (H : AH) : List ARes → Option (List AV)
  | [] => some []
  | r :: rs =>
    let v := match r with
      | .slot t => e.get t
      | .cell a => match e.get a with
        | some (.ptr b i) => H.read1 b i
        | _ => none
      | .cellN n a => match e.get a with
        | some (.ptr b i) => match H.read b i n with
          | some cs => some (.agg cs)
          | none => none
        | _ => none
    match v with
    | some v => match resVals e H rs with
      | some vs => some (v :: vs)
      | none => none
    | none => none
def oneOf : List AV → AV
  | [v] => v
  | vs => .tuple vs
def envFrom : Nat → List AV → Env
  | _, [] => []
  | i, v :: vs => (i, v) :: envFrom (i + 1) vs
def bindAll (e : Env) : List Nat → List AV → Env
  | t :: ts, v :: vs => bindAll (e.put t v) ts vs
  | _, _ => e
def acallv (P : Nat → Option AFunc) : Nat → ACall
  | 0, _, _, _ => none
  | n + 1, .func f first captured, args, H =>
    match P f with
    | some fn =>
      if (first ++ args ++ captured).length ≤ fn.nt then
        match code (acallv P n) n fn.body (envFrom 0 (first ++ args ++ captured)) H with
        | some (.normal, e, H') => match resVals e H' fn.res with
          | some vs => some (oneOf vs, H')
          | none => none
        | some (.ret, e, H') => match resVals e H' fn.res with
          | some vs => some (oneOf vs, H')
          | none => none
        | _ => none
      else none
    | none => none
  | n + 1, .yield l, args, H =>
    match H.get l with
    | some (.loop L) =>
      if args.length = L.params.length then
        match code (acallv P n) n L.assign (bindAll L.env L.params args) H with
        | some (.normal, e1, H1) =>
          match H1.get l with
          | some (.loop L1) =>
            if L1.state = .ready then
              match code (acallv P n) n L.body e1 (H1.set l (.loop { L1 with state := .busy })) with
              | some (.normal, _, H2) => match H2.get l with
                | some (.loop L2) => some (.bool true, H2.set l (.loop { L2 with state := .ready, pending := .normal }))
                | _ => none
              | some (x, _, H2) => match H2.get l with
                | some (.loop L2) => some (.bool false, H2.set l (.loop { L2 with state := .done, pending := x }))
                | _ => none
              | none => none
            else none
          | _ => none
        | _ => none
      else none
    | _ => none
  | _ + 1, _, _, _ => none
end Go.AM
namespace Go.AM
def cvs : Value → Option AV
  | .bool b => some (.bool b)
  | .int k n => some (.int k n)
  | .string s => some (.str s)
  | .pointer none => some .nilptr
  | .slice none 0 0 => some .nilslice
  | .map none => some .nilmap
  | .nilFunc => some .nilfunc
  | .nilIface => some .niliface
  | _ => none
def cvl : List Value → Option (List AV)
  | [] => some []
  | v :: vs => match cvs v with
    | some a => match cvl vs with
      | some l => some (a :: l)
      | none => none
    | none => none
def cv : Value → Option AV
  | .agg cs => (cvl cs.toList).map .agg
  | v => cvs v
def cOpd (nt : Nat) : Operand → Option AOpd
  | .tmp t => if t < nt then some (.s t) else none
  | .const v => (cv v).map .c
  | .func f => some (.c (.func f [] []))
  | .global _ => none
def cOpds (nt : Nat) : List Operand → Option (List AOpd)
  | [] => some []
  | x :: xs => match cOpd nt x with
    | some a => match cOpds nt xs with
      | some l => some (a :: l)
      | none => none
    | none => none
def cOpt (nt : Nat) : Option Operand → Option (Option AOpd)
  | none => some none
  | some x => (cOpd nt x).map some
def sizeT (P : Program) (t : TypeId) : Option Nat := (P.info? t).map (·.size)
def bytesT (P : Program) (t : TypeId) : Option Nat := (P.info? t).map (·.bytes)
def zeroT (P : Program) (t : TypeId) : Option Value := (P.info? t).bind (·.zero)
def zeroL (P : Program) (t : TypeId) : Option (List AV) := (zeroT P t).bind fun v => cvl v.cells.toList
def aggT (P : Program) (t : TypeId) : Option Bool :=
  match P.underlying t with
  | some (.struct _) | some (.array _ _) => some true
  | some _ => some false
  | none => none
def kindsFs (P : Program) (f : TypeId → Option (List SK)) : List Field → Nat → Nat → Option (List SK)
  | [], o, n => if o = n then some [] else none
  | x :: fs, o, n =>
    match sizeT P x.type, f x.type with
    | some z, some ks =>
      if x.name != "_" ∧ x.offset = o then
        match kindsFs P f fs (o + z) n with
        | some l => some (ks ++ l)
        | none => none
      else none
    | _, _ => none
def repeatK (ks : List SK) : Nat → List SK
  | 0 => []
  | n + 1 => ks ++ repeatK ks n
def kindsT (P : Program) : Nat → TypeId → Option (List SK)
  | 0, _ => none
  | d + 1, t =>
    match P.underlying t, sizeT P t with
    | some (.int _), some 1 => some [.i]
    | some .bool, some 1 => some [.b]
    | some .string, some 1 => some [.s]
    | some (.struct fs), some n => if P.stoodInHeld t then none else kindsFs P (kindsT P d) fs.toList 0 n
    | some (.array len e), some n =>
      match sizeT P e, kindsT P d e with
      | some z, some ks => if n = len * z then some (repeatK ks len) else none
      | _, _ => none
    | _, _ => none
def cParts (nt : Nat) (place : Nat → Option (Nat × Nat)) : List (Nat × Operand) → Option (List (Nat × Nat × AOpd))
  | [] => some []
  | (i, x) :: ps =>
    match place i, cOpd nt x with
    | some (o, n), some a => match cParts nt place ps with
      | some l => some ((o, n, a) :: l)
      | none => none
    | _, _ => none
def fieldPlaces (P : Program) (fs : Array Field) (i : Nat) : Option (Nat × Nat) :=
  match fs[i]? with
  | some f => (sizeT P f.type).map fun n => (f.offset, n)
  | none => none
def eqDepth : Nat := 20
def cEql (P : Program) (nt : Nat) (op : BinOp) (neg : Bool) (t : TypeId) (x y : Operand) : Option AOp :=
  match cOpd nt x, cOpd nt y with
  | some a, some b =>
    match P.underlying t with
    | some (.int _) | some .string => some (.bin op a b)
    | some .bool => (kindsT P eqDepth t).map fun ks => .eqFlat false ks neg a b
    | some (.struct _) | some (.array _ _) =>
      if P.eqGuardType P.depth t then none else (kindsT P eqDepth t).map fun ks => .eqFlat true ks neg a b
    | some (.pointer _) => some (.eqNil .ptr neg a b)
    | some (.slice _) => some (.eqNil .slice neg a b)
    | some (.map _ _) => some (.eqNil .map neg a b)
    | some (.func _ _ _) => some (.eqNil .func neg a b)
    | _ => none
  | _, _ => none
def cBuiltin (P : Program) (nt : Nat) (b : Builtin) (argTypes : Array TypeId) (args : List Operand) : Option AOp :=
  match b, cOpds nt args with
  | .len, some [x] =>
    match argTypes[0]? with
    | some t =>
      match P.underlying t with
      | some .string => some (.len true x)
      | some (.slice _) => some (.len false x)
      | some (.array n _) => some (.move (.c (.int .i64 n)))
      | some (.map _ _) => some (.lenMap x)
      | _ => none
    | none => none
  | .append, some [s, x] =>
    match argTypes[0]?, argTypes[1]? with
    | some t, some u =>
      match P.underlying t, P.underlying u with
      | some (.slice e), some (.slice _) | some (.slice e), some .string =>
        match sizeT P e, bytesT P e, zeroT P e with
        | some z, some by_, some zv => if z = 0 ∨ zv.cells.size ≠ z then none else some (.append z by_ s x)
        | _, _, _ => none
      | _, _ => none
    | _, _ => none
  | .copy, some [d, s] =>
    match argTypes[0]? with
    | some t =>
      match P.underlying t with
      | some (.slice e) => match sizeT P e with
        | some z => if z = 0 then none else some (.copy z d s)
        | none => none
      | _ => none
    | none => none
  | .max, some (x :: xs) => some (.maxInt x xs)
  | .min, some (x :: xs) => some (.minInt x xs)
  | _, _ => none
def cOp (P : Program) (nt : Nat) : Op → Option AOp
  | .move x | .assign x => (cOpd nt x).map .move
  | .pick c a b => match cOpd nt c, cOpd nt a, cOpd nt b with
    | some c, some a, some b => some (.pick c a b)
    | _, _, _ => none
  | .alloc t => (zeroL P t).map .alloc
  | .box _ x => (cOpd nt x).map .box
  | .build t ps =>
    match zeroL P t, P.underlying t with
    | some z, some (.struct fs) => if fs.toList.all fun f => (sizeT P f.type).isSome then (cParts nt (fieldPlaces P fs) ps.toList).map (.build z) else none
    | some z, some (.array _ e) => match sizeT P e with
      | some n => (cParts nt (fun i => some (i * n, n)) ps.toList).map (.build z)
      | none => none
    | _, _ => none
  | .buildSlice t len ps =>
    match P.underlying t with
    | some (.slice e) =>
      match sizeT P e, zeroL P e with
      | some n, some z =>
        if z.length = n ∧ 0 < n ∧ len * n ≤ 2 ^ 24 then (cParts nt (fun i => some (i * n, n)) ps.toList).map (.mkslice len n (repeatL z len)) else none
      | _, _ => none
    | _ => none
  | .load t a =>
    match aggT P t, sizeT P t, cOpd nt a with
    | some true, some n, some a => some (.loadN n a)
    | some false, _, some a => some (.load a)
    | _, _, _ => none
  | .store t a x =>
    match sizeT P t, cOpd nt a, cOpd nt x with
    | some n, some a, some x => some (.store n a x)
    | _, _, _ => none
  | .nilCheck x => (cOpd nt x).map .nilCheck
  | .binOp .eql t x y _ => cEql P nt .eql false t x y
  | .binOp .neq t x y _ => cEql P nt .neq true t x y
  | .binOp op _ x y _ => match cOpd nt x, cOpd nt y with
    | some a, some b => some (.bin op a b)
    | _, _ => none
  | .unOp op _ x => (cOpd nt x).map (.un op)
  | .convert src dst x =>
    match P.underlying src, P.underlying dst, cOpd nt x with
    | some (.int _), some (.int k), some a => some (.toInt k a)
    | some .string, some .string, some a => some (.strId a)
    | _, _, _ => none
  | .makeFunc (.func f) first captured => match cOpds nt first.toList, cOpds nt captured.toList with
    | some a, some b => some (.func f a b)
    | _, _ => none
  | .makeMap _ none => some .makeMap
  | .makeSlice t l c =>
    match P.underlying t with
    | some (.slice e) =>
      match sizeT P e, bytesT P e, zeroL P e, cOpd nt l, cOpd nt c with
      | some n, some by_, some z, some l, some c => if z.length = n ∧ 0 < n then some (.makeSlice n by_ z l c) else none
      | _, _, _, _, _ => none
    | _ => none
  | .slice t x lo hi none =>
    match P.underlying t, cOpd nt x, cOpt nt lo, cOpt nt hi with
    | some .string, some x, some lo, some hi => some (.sliceStr x lo hi)
    | some (.slice e), some x, some lo, some hi => (sizeT P e).map fun n => .sliceSl n x lo hi
    | some (.array len e), some x, some lo, some hi => (sizeT P e).map fun n => .sliceArr len n x lo hi
    | _, _, _, _ => none
  | .fieldAddr s x f =>
    match P.underlying s, cOpd nt x with
    | some (.struct fs), some x => match fs[f]? with
      | some f => match sizeT P f.type with
        | some n => if n = 0 then none else some (.off f.offset x)
        | none => none
      | none => none
    | _, _ => none
  | .field t x f =>
    match P.underlying t, cOpd nt x with
    | some (.struct fs), some x => match fs[f]? with
      | some f => match aggT P f.type, sizeT P f.type with
        | some true, some n => some (.partN f.offset n x)
        | some false, _ => some (.part f.offset x)
        | _, _ => none
      | none => none
    | _, _ => none
  | .indexAddr t x i =>
    match P.underlying t, cOpd nt x, cOpd nt i with
    | some (.slice e), some x, some i => (sizeT P e).map fun n => .idxSl n x i
    | some (.array len e), some x, some i => (sizeT P e).map fun n => .idxArr len n x i
    | _, _, _ => none
  | .index t x i =>
    match P.underlying t, cOpd nt x, cOpd nt i with
    | some .string, some x, some i => some (.byteAt x i)
    | some (.array len e), some x, some i => match sizeT P e, aggT P e with
      | some n, some g => some (.at len n g x i)
      | _, _ => none
    | _, _, _ => none
  | .lookup t m k ok =>
    match P.underlying t, cOpd nt m, cOpd nt k with
    | some (.map kt e), some m, some k => match kindsT P eqDepth kt, (zeroT P e).bind cv, aggT P kt with
      | some ks, some z, some g => some (.lookup g ks z ok m k)
      | _, _, _ => none
    | _, _, _ => none
  | .mapUpdate t m k v =>
    match P.underlying t, cOpd nt m, cOpd nt k, cOpd nt v with
    | some (.map kt _), some m, some k, some v => match kindsT P eqDepth kt, aggT P kt with
      | some ks, some g => some (.update g ks m k v)
      | _, _ => none
    | _, _, _, _ => none
  | .range t x =>
    match P.underlying t, cOpd nt x with
    | some .string, some x => some (.rangeStr x)
    | _, _ => none
  | .next it true => (cOpd nt it).map .nextStr
  | .extract x i => (cOpd nt x).map (.extract i)
  | .call c =>
    match c.callee with
    | .value f => match cOpd nt f, cOpds nt c.args.toList with
      | some f, some as => some (.call f as)
      | _, _ => none
    | .builtin b => cBuiltin P nt b c.argTypes c.args.toList
    | _ => none
  | _ => none
def cDst (nt : Nat) : Option Nat → Bool
  | none => true
  | some t => decide (t < nt)
def cOper (P : Program) (nt : Nat) (ops : Array Oper) (id : Nat) (pre : List Nat) (o : Oper) : Option AOper :=
  match cOp P nt o.op with
  | some op =>
    if cDst nt o.dst then
      match o.guard with
      | none => some { dst := o.dst, op, guard := none, id, pre }
      | some (j, want) => match (ops[j]?).bind (·.dst) with
        | some t => if t < nt then some { dst := o.dst, op, guard := some (t, want), id, pre } else none
        | none => none
    else none
  | none => none
def cOpers (P : Program) (nt : Nat) (ops : Array Oper) : Nat → List Oper → Option (List AOper)
  | _, [] => some []
  | i, o :: os => match cOper P nt ops i [] o with
    | some a => match cOpers P nt ops (i + 1) os with
      | some l => some (a :: l)
      | none => none
    | none => none
def befM (ops : List Oper) : List Nat :=
  (ops.foldl (fun (acc : List Nat) o =>
    (o.after.toList.foldl (fun m e => if Region.binds .any e then Nat.lor m (Nat.lor (2 ^ e.on) (((acc.reverse)[e.on]?).getD 0)) else m) 0) :: acc) []).reverse
def insNat (x : Nat) (l : List Nat) : List Nat := if hasNat l x then l else x :: l
def maskList (n m : Nat) : List Nat := (List.range n).filter fun i => Nat.testBit m i
def canonM : Nat → List (Nat × Nat × Bool) → Nat → List Nat → List Nat
  | 0, _, _, acc => acc.reverse
  | f + 1, todo, m, acc =>
    match todo.find? fun x => decide (Nat.land x.2.1 m = x.2.1) && !x.2.2 with
    | some x => canonM f (todo.filter fun y => !decide (y.1 = x.1)) (Nat.lor m (2 ^ x.1)) (x.1 :: acc)
    | none => match todo.find? fun x => decide (Nat.land x.2.1 m = x.2.1) with
      | some x => canonM f (todo.filter fun y => !decide (y.1 = x.1)) (Nat.lor m (2 ^ x.1)) (x.1 :: acc)
      | none => acc.reverse
def AOpd.reads : AOpd → List Nat
  | .s t => [t]
  | .c _ => []
def readsL : List AOpd → List Nat
  | [] => []
  | x :: xs => x.reads ++ readsL xs
def readsO : Option AOpd → List Nat
  | none => []
  | some x => x.reads
def readsP : List (Nat × Nat × AOpd) → List Nat
  | [] => []
  | (_, _, x) :: xs => x.reads ++ readsP xs
def AOp.reads : AOp → List Nat
  | .move x | .box x | .load x | .loadN _ x | .nilCheck x | .un _ x | .toInt _ x | .strId x | .off _ x | .part _ x | .partN _ _ x
  | .rangeStr x | .nextStr x | .extract _ x | .len _ x | .lenMap x => x.reads
  | .pick c a b => c.reads ++ (a.reads ++ b.reads)
  | .alloc _ | .makeMap => []
  | .build _ ps | .mkslice _ _ _ ps => readsP ps
  | .store _ a x | .bin _ a x | .eqFlat _ _ _ a x | .eqNil _ _ a x | .idxSl _ a x | .idxArr _ _ a x | .at _ _ _ a x | .byteAt a x | .lookup _ _ _ _ a x | .append _ _ a x | .copy _ a x => a.reads ++ x.reads
  | .makeSlice _ _ _ a x => a.reads ++ x.reads
  | .func _ a b => readsL a ++ readsL b
  | .sliceStr x lo hi | .sliceSl _ x lo hi | .sliceArr _ _ x lo hi => x.reads ++ (readsO lo ++ readsO hi)
  | .update _ _ a b c => a.reads ++ (b.reads ++ c.reads)
  | .call f xs | .maxInt f xs | .minInt f xs => f.reads ++ readsL xs
def AOper.reads (o : AOper) : List Nat :=
  match o.guard with
  | none => o.op.reads
  | some (t, _) => t :: o.op.reads
def clash (a b : AOper) : Bool :=
  (match a.dst with
   | some t => hasNat b.reads t || decide (b.dst = some t)
   | none => false) ||
  (match b.dst with
   | some t => hasNat a.reads t
   | none => false)
def pairOk (a b : AOper) : Bool :=
  hasNat b.pre a.id || (!clash a b && !(a.isEff && (b.isEff || decide (b.op.cls = .alloc))))
def pairsOk : List AOper → Bool
  | [] => true
  | a :: as => as.all (pairOk a) && pairsOk as
def cDraw (P : Program) (nt : Nat) (ops : Array Oper) : Option (List AOper) :=
  let ms := befM ops.toList
  let eff := ops.toList.map fun o => match cOp P nt o.op with
    | some op => decide (op.cls = .eff)
    | none => true
  let order := canonM ops.size ((List.range ops.size).zip (ms.zip eff)) 0 []
  let l := order.map fun i => (ops[i]?).bind fun o => cOper P nt ops i (maskList ops.size ((ms[i]?).getD 0)) o
  if l.all (·.isSome) then some (l.filterMap id) else none
def nodupN : List Nat → Bool
  | [] => true
  | x :: xs => !hasNat xs x && nodupN xs
def edgesOk (ops : Array Oper) : List AOper → List Nat → Bool
  | [], _ => true
  | a :: as, seen => (match ops[a.id]? with
      | some o => o.after.toList.all fun e => !Region.binds .any e || hasNat seen e.on
      | none => false) && edgesOk ops as (a.id :: seen)
def maskOf (l : List Nat) : Nat := l.foldl (fun m k => Nat.lor m (2 ^ k)) 0
def preMask (t : List (Nat × Nat)) (i : Nat) : Nat := match t.find? fun x => decide (x.1 = i) with
  | some x => x.2
  | none => 0
def preOk (ops : Array Oper) (l : List AOper) : Bool :=
  l.all fun a => match ops[a.id]? with
    | some o => decide (Nat.land (maskOf a.pre) (o.after.toList.foldl (fun m e => if Region.binds .any e then Nat.lor m (Nat.lor (2 ^ e.on) (preMask (l.map fun a => (a.id, maskOf a.pre)) e.on)) else m) 0) = maskOf a.pre)
    | none => false
def drawOk (ops : Array Oper) (l : List AOper) : Bool :=
  ((List.range ops.size).all fun i => l.any fun a => decide (a.id = i)) && nodupN (l.map (·.id)) && edgesOk ops l [] &&
  preOk ops l &&
  pairsOk l
def cCode (P : Program) (nt : Nat) (kp : List Nat) : Code → Option ACode
  | .skip => some .skip
  | .label _ => some .skip
  | .region _ ops false => (cOpers P nt ops 0 ops.toList).map (.reg · kp)
  | .region _ ops true => match cDraw P nt ops with
    | some l => if drawOk ops l then some (.draw l kp) else none
    | none => none
  | .seq a b => match cCode P nt kp a, cCode P nt kp b with
    | some a, some b => some (.seq a b)
    | _, _ => none
  | .cond c a b => match cOpd nt c, cCode P nt kp a, cCode P nt kp b with
    | some c, some a, some b => some (.cond c a b)
    | _, _, _ => none
  | .block id a => (cCode P nt kp a).map (.block id)
  | .loop a => (cCode P nt kp a).map .loop
  | .scope a => cCode P nt kp a
  | .rangeFunc f ps a b => match cOpd nt f, cCode P nt kp a, cCode P nt kp b with
    | some f, some a, some b => if ps.all (· < nt) then some (.range f ps.toList a b) else none
    | _, _, _ => none
  | .exit id => some (.exit id)
  | .ret => some .ret
  | _ => none
def cRes (P : Program) (nt : Nat) : List ResultVar → Option (List ARes)
  | [] => some []
  | .tmp t :: rs => if t < nt then (cRes P nt rs).map (.slot t :: ·) else none
  | .cell a t :: rs =>
    if a < nt then match aggT P t, sizeT P t with
      | some true, some n => (cRes P nt rs).map (.cellN n a :: ·)
      | some false, _ => (cRes P nt rs).map (.cell a :: ·)
      | _, _ => none
    else none
def opdSlots : Operand → List Nat
  | .tmp t => [t]
  | _ => []
def exposed (ops : Array Oper) : List Oper → List Nat → List Nat → List Nat
  | [], _, acc => acc
  | o :: os, defd, acc =>
    let rs := o.op.operands.toList.flatMap opdSlots ++ (match o.guard with
      | some (j, _) => ((ops[j]?).bind (·.dst)).toList
      | none => [])
    let acc := rs.foldl (fun acc t => if hasNat defd t then acc else insNat t acc) acc
    exposed ops os (match o.dst with
      | some t => insNat t defd
      | none => defd) acc
def livesC : Code → List Nat → List Nat
  | .region _ ops _, acc => exposed ops ops.toList [] acc
  | .seq a b, acc => livesC b (livesC a acc)
  | .cond c a b, acc => livesC b (livesC a ((opdSlots c).foldl (fun acc t => insNat t acc) acc))
  | .block _ a, acc | .loop a, acc | .scope a, acc => livesC a acc
  | .rangeFunc f _ a b, acc => livesC b (livesC a ((opdSlots f).foldl (fun acc t => insNat t acc) acc))
  | _, acc => acc
def insSorted (x : Nat) : List Nat → List Nat
  | [] => [x]
  | y :: ys => if x ≤ y then x :: y :: ys else y :: insSorted x ys
def sortNat : List Nat → List Nat
  | [] => []
  | x :: xs => insSorted x (sortNat xs)
def keepOf (fn : Func) (c : Code) : List Nat :=
  sortNat (fn.results.toList.foldl (fun acc r => match r with
    | .tmp t => insNat t acc
    | .cell a _ => insNat a acc) (livesC c []))
def cFunc (P : Program) (fn : Func) : Option AFunc :=
  match fn.body with
  | some c => match cCode P fn.ntmps (keepOf fn c) c, cRes P fn.ntmps fn.results.toList with
    | some b, some r => some { nt := fn.ntmps, body := b, res := r }
    | _, _ => none
  | none => none
end Go.AM
namespace Go.Proofs.Ytihahmggfjjkjaa
open Go.AM
def bs (l : List UInt8) : ByteArray := ⟨l.toArray⟩
def c14 : AFunc :=
  let k:List Nat:=[0,1,2,3,4,5,6,7,8,9,10,11,12,13,14,16,17,19,20,21,22,23,24,25,26,27,28,29,30,31,32,33,34,37,49,68,73,84,99,180,183,207,212,234]
  {nt := 236,body := (.seq (.reg [⟨.some 1,.box (.s 0),.none,0,[]⟩,⟨.some 2,.move (.c (.bool false)),.none,1,[]⟩] k) (.seq (.seq (.reg [⟨.some 35,.loadN 6 (.s 1),.none,0,[]⟩,⟨.some 36,.call (.c (.func 37 [] [])) [.s 35],.none,1,[]⟩,⟨.some 37,.un .not (.s 36),.none,2,[]⟩] k) (.cond (.s 37) (.seq (.reg [⟨.some 38,.call (.c (.func 22 [] [])) [],.none,0,[]⟩,⟨.some 2,.move (.s 38),.none,1,[]⟩] k) .ret) .skip)) (.seq (.reg [⟨.some 39,.loadN 6 (.s 1),.none,0,[]⟩,⟨.some 3,.alloc [.nilslice,.int .i64 0,.int .i64 0,.nilslice,.bool false,.nilslice],.none,1,[]⟩,⟨.none,.store 6 (.s 3) (.s 39),.none,2,[]⟩] k) (.seq (.reg [⟨.some 40,.off 0 (.s 1),.none,0,[]⟩,⟨.some 41,.load (.s 40),.none,1,[]⟩,⟨.some 42,.len false (.s 41),.none,2,[]⟩,⟨.some 43,.bin .sub (.s 42) (.c (.int .i64 1)),.none,3,[]⟩,⟨.some 4,.move (.s 43),.none,4,[]⟩] k) (.seq (.reg [⟨.some 44,.off 0 (.s 3),.none,0,[]⟩,⟨.none,.store 1 (.s 44) (.c .nilslice),.none,1,[]⟩,⟨.some 45,.off 3 (.s 3),.none,2,[]⟩,⟨.none,.store 1 (.s 45) (.c .nilslice),.none,3,[]⟩,⟨.some 46,.off 5 (.s 3),.none,4,[]⟩,⟨.none,.store 1 (.s 46) (.c .nilslice),.none,5,[]⟩] k) (.seq (.seq (.reg [⟨.some 47,.move (.s 4),.none,0,[]⟩,⟨.some 5,.move (.s 47),.none,1,[]⟩] k) (.block 0 (.loop (.seq (.seq (.reg [⟨.some 48,.move (.s 5),.none,0,[]⟩,⟨.some 49,.bin .geq (.s 48) (.c (.int .i64 0)),.none,1,[]⟩] k) (.cond (.s 49) .skip (.exit 0))) (.seq (.block 1 (.draw [⟨.some 52,.mkslice 0 1 [] [],.none,0,[]⟩,⟨.some 53,.off 0 (.s 3),.none,1,[]⟩,⟨.some 54,.load (.s 53),.none,2,[1]⟩,⟨.some 56,.off 0 (.s 1),.none,4,[]⟩,⟨.some 57,.load (.s 56),.none,5,[4]⟩,⟨.some 58,.move (.s 5),.none,6,[]⟩,⟨.some 59,.idxSl 1 (.s 57) (.s 58),.none,7,[4,5,6]⟩,⟨.some 60,.load (.s 59),.none,8,[4,5,6,7]⟩,⟨.some 61,.mkslice 1 1 [.bool false] [(0,(1,(.s 60)))],.none,9,[4,5,6,7,8]⟩,⟨.some 55,.append 1 1 (.s 52) (.s 54),.none,3,[0,1,2]⟩,⟨.some 62,.append 1 1 (.s 55) (.s 61),.none,10,[0,1,2,3,4,5,6,7,8,9]⟩,⟨.some 63,.off 0 (.s 3),.none,11,[0,1,2,3,4,5,6,7,8,9,10]⟩,⟨.none,.store 1 (.s 63) (.s
    62),.none,12,[0,1,2,3,4,5,6,7,8,9,10,11]⟩] k)) (.reg [⟨.some 50,.move (.s 5),.none,0,[]⟩,⟨.some 51,.bin .sub (.s 50) (.c (.int .i64 1)),.none,1,[]⟩,⟨.some 5,.move (.s 51),.none,2,[]⟩] k)))))) (.seq (.seq (.reg [⟨.some 6,.move (.c (.int .i64 0)),.none,0,[]⟩] k) (.block 2 (.loop (.seq (.seq (.reg [⟨.some 64,.move (.s 6),.none,0,[]⟩,⟨.some 65,.off 3 (.s 1),.none,1,[]⟩,⟨.some 66,.load (.s 65),.none,2,[]⟩,⟨.some 67,.len false (.s 66),.none,3,[]⟩,⟨.some 68,.bin .lss (.s 64) (.s 67),.none,4,[]⟩] k) (.cond (.s 68) .skip (.exit 2))) (.seq (.block 3 (.seq (.reg [⟨.some 7,.move (.c (.int .i64 0)),.none,0,[]⟩] k) (.seq (.seq (.reg [⟨.some 8,.move (.c (.int .i64 0)),.none,0,[]⟩] k) (.block 4 (.loop (.seq (.seq (.reg [⟨.some 71,.move (.s 8),.none,0,[]⟩,⟨.some 72,.move (.s 4),.none,1,[]⟩,⟨.some 73,.bin .leq (.s 71) (.s 72),.none,2,[]⟩] k) (.cond (.s 73) .skip (.exit 4))) (.seq (.block 5 (.seq (.reg [⟨.some 76,.move (.s 7),.none,0,[]⟩,⟨.some 77,.bin .mul (.c (.int .i64 2)) (.s 76),.none,1,[]⟩,⟨.some 7,.move (.s 77),.none,2,[]⟩] k) (.seq (.reg [⟨.some 78,.off 3 (.s 1),.none,0,[]⟩,⟨.some 79,.load (.s 78),.none,1,[]⟩,⟨.some 80,.move (.s 6),.none,2,[]⟩,⟨.some 81,.idxSl 1 (.s 79) (.s 80),.none,3,[]⟩,⟨.some 82,.load (.s 81),.none,4,[]⟩,⟨.some 83,.move (.s 8),.none,5,[]⟩,⟨.some 84,.call (.c (.func 43 [] [])) [.s 82,.s 83],.none,6,[]⟩] k) (.cond (.s 84) (.reg [⟨.some 85,.move (.s 7),.none,0,[]⟩,⟨.some 86,.bin .add (.s 85) (.c (.int .i64 1)),.none,1,[]⟩,⟨.some 7,.move (.s 86),.none,2,[]⟩] k) .skip)))) (.reg [⟨.some 74,.move (.s 8),.none,0,[]⟩,⟨.some 75,.bin .add (.s 74) (.c (.int .i64 1)),.none,1,[]⟩,⟨.some 8,.move (.s 75),.none,2,[]⟩] k)))))) (.reg [⟨.some 87,.mkslice 0 1 [] [],.none,0,[]⟩,⟨.some 88,.off 3 (.s 3),.none,1,[]⟩,⟨.some 89,.load (.s 88),.none,2,[]⟩,⟨.some 90,.append 1 8 (.s 87) (.s 89),.none,3,[]⟩,⟨.some 91,.move (.s 7),.none,4,[]⟩,⟨.some 92,.mkslice 1 1 [.int .i64 0] [(0,(1,(.s 91)))],.none,5,[]⟩,⟨.some 93,.append 1 8 (.s 90) (.s 92),.none,6,[]⟩,⟨.some 94,.off 3 (.s
    3),.none,7,[]⟩,⟨.none,.store 1 (.s 94) (.s 93),.none,8,[]⟩] k)))) (.reg [⟨.some 69,.move (.s 6),.none,0,[]⟩,⟨.some 70,.bin .add (.s 69) (.c (.int .i64 1)),.none,1,[]⟩,⟨.some 6,.move (.s 70),.none,2,[]⟩] k)))))) (.seq (.seq (.reg [⟨.some 9,.move (.c (.int .i64 0)),.none,0,[]⟩] k) (.block 6 (.loop (.seq (.seq (.reg [⟨.some 95,.move (.s 9),.none,0,[]⟩,⟨.some 96,.off 5 (.s 1),.none,1,[]⟩,⟨.some 97,.load (.s 96),.none,2,[]⟩,⟨.some 98,.len false (.s 97),.none,3,[]⟩,⟨.some 99,.bin .lss (.s 95) (.s 98),.none,4,[]⟩] k) (.cond (.s 99) .skip (.exit 6))) (.seq (.block 7 (.seq (.reg [⟨.some 102,.off 5 (.s 1),.none,0,[]⟩,⟨.some 103,.load (.s 102),.none,1,[]⟩,⟨.some 104,.move (.s 9),.none,2,[]⟩,⟨.some 105,.idxSl 2 (.s 103) (.s 104),.none,3,[]⟩,⟨.some 106,.loadN 2 (.s 105),.none,4,[]⟩,⟨.some 10,.alloc [.int .i64 0,.int .i64 0],.none,5,[]⟩,⟨.none,.store 2 (.s 10) (.s 106),.none,6,[]⟩] k) (.seq (.reg [⟨.some 107,.move (.s 4),.none,0,[]⟩,⟨.some 108,.off 0 (.s 10),.none,1,[]⟩,⟨.some 109,.load (.s 108),.none,2,[]⟩,⟨.some 110,.bin .sub (.s 107) (.s 109),.none,3,[]⟩,⟨.some 111,.off 0 (.s 10),.none,4,[]⟩,⟨.none,.store 1 (.s 111) (.s 110),.none,5,[]⟩] k) (.draw [⟨.some 112,.mkslice 0 2 [] [],.none,0,[]⟩,⟨.some 113,.off 5 (.s 3),.none,1,[]⟩,⟨.some 114,.load (.s 113),.none,2,[1]⟩,⟨.some 116,.loadN 2 (.s 10),.none,4,[]⟩,⟨.some 117,.mkslice 1 2 [.int .i64 0,.int .i64 0] [(0,(2,(.s 116)))],.none,5,[4]⟩,⟨.some 115,.append 2 16 (.s 112) (.s 114),.none,3,[0,1,2]⟩,⟨.some 118,.append 2 16 (.s 115) (.s 117),.none,6,[0,1,2,3,4,5]⟩,⟨.some 119,.off 5 (.s 3),.none,7,[0,1,2,3,4,5,6]⟩,⟨.none,.store 1 (.s 119) (.s 118),.none,8,[0,1,2,3,4,5,6,7]⟩] k)))) (.reg [⟨.some 100,.move (.s 9),.none,0,[]⟩,⟨.some 101,.bin .add (.s 100) (.c (.int .i64 1)),.none,1,[]⟩,⟨.some 9,.move (.s 101),.none,2,[]⟩] k)))))) (.seq (.reg [⟨.some 121,.loadN 6 (.s 1),.none,0,[]⟩,⟨.some 122,.call (.c (.func 32 [] [])) [.s 121],.none,1,[]⟩,⟨.some 120,.move (.s 122),.none,2,[]⟩,⟨.some 123,.extract 0 (.s 120),.none,3,[]⟩,⟨.some
    124,.extract 1 (.s 120),.none,4,[]⟩,⟨.some 11,.move (.s 123),.none,5,[]⟩,⟨.some 12,.move (.s 124),.none,6,[]⟩] k) (.seq (.reg [⟨.some 126,.loadN 6 (.s 3),.none,0,[]⟩,⟨.some 127,.call (.c (.func 32 [] [])) [.s 126],.none,1,[]⟩,⟨.some 125,.move (.s 127),.none,2,[]⟩,⟨.some 128,.extract 0 (.s 125),.none,3,[]⟩,⟨.some 129,.extract 1 (.s 125),.none,4,[]⟩,⟨.some 13,.move (.s 128),.none,5,[]⟩,⟨.some 14,.move (.s 129),.none,6,[]⟩] k) (.seq (.reg [⟨.some 131,.loadN 6 (.s 1),.none,0,[]⟩,⟨.some 132,.call (.c (.func 30 [] [])) [.s 131],.none,1,[]⟩,⟨.some 130,.move (.s 132),.none,2,[]⟩,⟨.some 133,.extract 0 (.s 130),.none,3,[]⟩,⟨.some 134,.extract 1 (.s 130),.none,4,[]⟩,⟨.some 135,.extract 2 (.s 130),.none,5,[]⟩,⟨.some 15,.move (.s 133),.none,6,[]⟩,⟨.some 16,.move (.s 134),.none,7,[]⟩,⟨.some 17,.move (.s 135),.none,8,[]⟩] k) (.seq (.reg [⟨.some 137,.loadN 6 (.s 3),.none,0,[]⟩,⟨.some 138,.call (.c (.func 30 [] [])) [.s 137],.none,1,[]⟩,⟨.some 136,.move (.s 138),.none,2,[]⟩,⟨.some 139,.extract 0 (.s 136),.none,3,[]⟩,⟨.some 140,.extract 1 (.s 136),.none,4,[]⟩,⟨.some 141,.extract 2 (.s 136),.none,5,[]⟩,⟨.some 18,.move (.s 139),.none,6,[]⟩,⟨.some 19,.move (.s 140),.none,7,[]⟩,⟨.some 20,.move (.s 141),.none,8,[]⟩] k) (.seq (.reg [⟨.some 143,.loadN 6 (.s 1),.none,0,[]⟩,⟨.some 144,.call (.c (.func 25 [] [])) [.s 143],.none,1,[]⟩,⟨.some 142,.move (.s 144),.none,2,[]⟩,⟨.some 145,.extract 0 (.s 142),.none,3,[]⟩,⟨.some 146,.extract 1 (.s 142),.none,4,[]⟩,⟨.some 21,.move (.s 145),.none,5,[]⟩,⟨.some 22,.move (.s 146),.none,6,[]⟩] k) (.seq (.reg [⟨.some 148,.loadN 6 (.s 3),.none,0,[]⟩,⟨.some 149,.call (.c (.func 25 [] [])) [.s 148],.none,1,[]⟩,⟨.some 147,.move (.s 149),.none,2,[]⟩,⟨.some 150,.extract 0 (.s 147),.none,3,[]⟩,⟨.some 151,.extract 1 (.s 147),.none,4,[]⟩,⟨.some 23,.move (.s 150),.none,5,[]⟩,⟨.some 24,.move (.s 151),.none,6,[]⟩] k) (.seq (.seq (.reg [⟨.some 152,.move (.s 11),.none,0,[]⟩,⟨.some 153,.move (.s 13),.none,1,[]⟩,⟨.some 154,.call (.c (.func 34 [] [])) [.s 152,.s
    153],.none,2,[]⟩,⟨.some 155,.un .not (.s 154),.none,3,[]⟩,⟨.some 156,.move (.s 155),.none,4,[]⟩,⟨.some 157,.move (.s 12),.some (156,false),5,[]⟩,⟨.some 158,.move (.s 14),.some (156,false),6,[]⟩,⟨.some 159,.bin .neq (.s 157) (.s 158),.some (156,false),7,[]⟩,⟨.some 160,.pick (.s 156) (.c (.bool true)) (.s 159),.none,8,[]⟩,⟨.some 161,.move (.s 160),.none,9,[]⟩,⟨.some 162,.move (.s 16),.some (161,false),10,[]⟩,⟨.some 163,.move (.s 19),.some (161,false),11,[]⟩,⟨.some 164,.bin .neq (.s 162) (.s 163),.some (161,false),12,[]⟩,⟨.some 165,.pick (.s 161) (.c (.bool true)) (.s 164),.none,13,[]⟩,⟨.some 166,.move (.s 165),.none,14,[]⟩,⟨.some 167,.move (.s 17),.some (166,false),15,[]⟩,⟨.some 168,.move (.s 20),.some (166,false),16,[]⟩,⟨.some 169,.bin .neq (.s 167) (.s 168),.some (166,false),17,[]⟩,⟨.some 170,.pick (.s 166) (.c (.bool true)) (.s 169),.none,18,[]⟩,⟨.some 171,.move (.s 170),.none,19,[]⟩,⟨.some 172,.move (.s 21),.some (171,false),20,[]⟩,⟨.some 173,.move (.s 23),.some (171,false),21,[]⟩,⟨.some 174,.bin .neq (.s 172) (.s 173),.some (171,false),22,[]⟩,⟨.some 175,.pick (.s 171) (.c (.bool true)) (.s 174),.none,23,[]⟩,⟨.some 176,.move (.s 175),.none,24,[]⟩,⟨.some 177,.move (.s 22),.some (176,false),25,[]⟩,⟨.some 178,.move (.s 24),.some (176,false),26,[]⟩,⟨.some 179,.bin .neq (.s 177) (.s 178),.some (176,false),27,[]⟩,⟨.some 180,.pick (.s 176) (.c (.bool true)) (.s 179),.none,28,[]⟩] k) (.cond (.s 180) (.seq (.reg [⟨.some 2,.move (.c (.bool false)),.none,0,[]⟩] k) .ret) .skip)) (.seq (.seq (.reg [⟨.some 25,.move (.c (.int .i64 0)),.none,0,[]⟩] k) (.block 8 (.loop (.seq (.seq (.reg [⟨.some 181,.move (.s 25),.none,0,[]⟩,⟨.some 182,.move (.s 4),.none,1,[]⟩,⟨.some 183,.bin .leq (.s 181) (.s 182),.none,2,[]⟩] k) (.cond (.s 183) .skip (.exit 8))) (.seq (.block 9 (.seq (.reg [⟨.some 187,.loadN 6 (.s 1),.none,0,[]⟩,⟨.some 188,.move (.s 25),.none,1,[]⟩,⟨.some 189,.call (.c (.func 20 [] [])) [.s 187,.s 188],.none,2,[]⟩,⟨.some 186,.move (.s 189),.none,3,[]⟩,⟨.some 190,.extract 0
    (.s 186),.none,4,[]⟩,⟨.some 191,.extract 1 (.s 186),.none,5,[]⟩,⟨.some 26,.alloc [.int .i64 0,.int .i64 0],.none,6,[]⟩,⟨.none,.store 2 (.s 26) (.s 190),.none,7,[]⟩,⟨.some 27,.move (.s 191),.none,8,[]⟩] k) (.seq (.reg [⟨.some 193,.loadN 6 (.s 3),.none,0,[]⟩,⟨.some 194,.move (.s 4),.none,1,[]⟩,⟨.some 195,.move (.s 25),.none,2,[]⟩,⟨.some 196,.bin .sub (.s 194) (.s 195),.none,3,[]⟩,⟨.some 197,.call (.c (.func 20 [] [])) [.s 193,.s 196],.none,4,[]⟩,⟨.some 192,.move (.s 197),.none,5,[]⟩,⟨.some 198,.extract 0 (.s 192),.none,6,[]⟩,⟨.some 199,.extract 1 (.s 192),.none,7,[]⟩,⟨.some 28,.alloc [.int .i64 0,.int .i64 0],.none,8,[]⟩,⟨.none,.store 2 (.s 28) (.s 198),.none,9,[]⟩,⟨.some 29,.move (.s 199),.none,10,[]⟩] k) (.seq (.reg [⟨.some 200,.loadN 2 (.s 26),.none,0,[]⟩,⟨.some 201,.loadN 2 (.s 28),.none,1,[]⟩,⟨.some 202,.eqFlat true [.i,.i] true (.s 200) (.s 201),.none,2,[]⟩,⟨.some 203,.move (.s 202),.none,3,[]⟩,⟨.some 204,.move (.s 27),.some (203,false),4,[]⟩,⟨.some 205,.move (.s 29),.some (203,false),5,[]⟩,⟨.some 206,.bin .neq (.s 204) (.s 205),.some (203,false),6,[]⟩,⟨.some 207,.pick (.s 203) (.c (.bool true)) (.s 206),.none,7,[]⟩] k) (.cond (.s 207) (.seq (.reg [⟨.some 2,.move (.c (.bool false)),.none,0,[]⟩] k) .ret) .skip))))) (.reg [⟨.some 184,.move (.s 25),.none,0,[]⟩,⟨.some 185,.bin .add (.s 184) (.c (.int .i64 1)),.none,1,[]⟩,⟨.some 25,.move (.s 185),.none,2,[]⟩] k)))))) (.seq (.seq (.reg [⟨.some 30,.move (.c (.int .i64 0)),.none,0,[]⟩] k) (.block 10 (.loop (.seq (.seq (.reg [⟨.some 208,.move (.s 30),.none,0,[]⟩,⟨.some 209,.off 3 (.s 1),.none,1,[]⟩,⟨.some 210,.load (.s 209),.none,2,[]⟩,⟨.some 211,.len false (.s 210),.none,3,[]⟩,⟨.some 212,.bin .lss (.s 208) (.s 211),.none,4,[]⟩] k) (.cond (.s 212) .skip (.exit 10))) (.seq (.block 11 (.seq (.reg [⟨.some 216,.loadN 6 (.s 1),.none,0,[]⟩,⟨.some 217,.move (.s 30),.none,1,[]⟩,⟨.some 218,.call (.c (.func 23 [] [])) [.s 216,.s 217],.none,2,[]⟩,⟨.some 215,.move (.s 218),.none,3,[]⟩,⟨.some 219,.extract 0 (.s
    215),.none,4,[]⟩,⟨.some 220,.extract 1 (.s 215),.none,5,[]⟩,⟨.some 31,.alloc [.int .i64 0,.int .i64 0],.none,6,[]⟩,⟨.none,.store 2 (.s 31) (.s 219),.none,7,[]⟩,⟨.some 32,.move (.s 220),.none,8,[]⟩] k) (.seq (.reg [⟨.some 222,.loadN 6 (.s 3),.none,0,[]⟩,⟨.some 223,.move (.s 30),.none,1,[]⟩,⟨.some 224,.call (.c (.func 23 [] [])) [.s 222,.s 223],.none,2,[]⟩,⟨.some 221,.move (.s 224),.none,3,[]⟩,⟨.some 225,.extract 0 (.s 221),.none,4,[]⟩,⟨.some 226,.extract 1 (.s 221),.none,5,[]⟩,⟨.some 33,.alloc [.int .i64 0,.int .i64 0],.none,6,[]⟩,⟨.none,.store 2 (.s 33) (.s 225),.none,7,[]⟩,⟨.some 34,.move (.s 226),.none,8,[]⟩] k) (.seq (.reg [⟨.some 227,.loadN 2 (.s 31),.none,0,[]⟩,⟨.some 228,.loadN 2 (.s 33),.none,1,[]⟩,⟨.some 229,.eqFlat true [.i,.i] true (.s 227) (.s 228),.none,2,[]⟩,⟨.some 230,.move (.s 229),.none,3,[]⟩,⟨.some 231,.move (.s 32),.some (230,false),4,[]⟩,⟨.some 232,.move (.s 34),.some (230,false),5,[]⟩,⟨.some 233,.bin .neq (.s 231) (.s 232),.some (230,false),6,[]⟩,⟨.some 234,.pick (.s 230) (.c (.bool true)) (.s 233),.none,7,[]⟩] k) (.cond (.s 234) (.seq (.reg [⟨.some 2,.move (.c (.bool false)),.none,0,[]⟩] k) .ret) .skip))))) (.reg [⟨.some 213,.move (.s 30),.none,0,[]⟩,⟨.some 214,.bin .add (.s 213) (.c (.int .i64 1)),.none,1,[]⟩,⟨.some 30,.move (.s 214),.none,2,[]⟩] k)))))) (.seq (.reg [⟨.some 235,.call (.c (.func 22 [] [])) [],.none,0,[]⟩,⟨.some 2,.move (.s 235),.none,1,[]⟩] k) .ret)))))))))))))))))),res := [.slot 2]}
def c16 : AFunc :=
  let k:List Nat:=[0,1,2,3,4,5,9,13,22,40,51]
  {nt := 54,body := (.seq (.reg [⟨.some 1,.box (.s 0),.none,0,[]⟩,⟨.some 2,.move (.c (.int .i64 0)),.none,1,[]⟩,⟨.some 3,.move (.c (.int .i64 0)),.none,2,[]⟩,⟨.some 4,.move (.c (.int .i64 0)),.none,3,[]⟩] k) (.seq (.reg [⟨.some 6,.off 0 (.s 1),.none,0,[]⟩,⟨.some 7,.load (.s 6),.none,1,[]⟩,⟨.some 8,.len false (.s 7),.none,2,[]⟩,⟨.some 5,.alloc [.int .i64 0],.none,3,[]⟩,⟨.none,.store 1 (.s 5) (.s 8),.none,4,[]⟩] k) (.seq (.block 0 (.seq (.reg [⟨.some 10,.load (.s 5),.none,0,[]⟩,⟨.some 11,.mkslice 1 1 [.int .i64 0] [(0,(1,(.s 10)))],.none,1,[]⟩,⟨.some 12,.call (.c (.func 51 [] [])) [.c (.int .i64 1),.c (.int .i64 8),.s 11],.none,2,[]⟩,⟨.some 9,.move (.s 12),.none,3,[]⟩] k) (.cond (.s 9) (.seq (.reg [⟨.some 2,.move (.c (.int .i64 1)),.none,0,[]⟩,⟨.some 3,.move (.c (.int .i64 0)),.none,1,[]⟩,⟨.some 4,.move (.c (.int .i64 3)),.none,2,[]⟩] k) .ret) (.seq (.reg [⟨.some 14,.off 1 (.s 1),.none,0,[]⟩,⟨.some 15,.off 0 (.s 14),.none,1,[]⟩,⟨.some 16,.load (.s 15),.none,2,[]⟩,⟨.some 17,.off 1 (.s 1),.none,3,[]⟩,⟨.some 18,.off 1 (.s 17),.none,4,[]⟩,⟨.some 19,.load (.s 18),.none,5,[]⟩,⟨.some 20,.mkslice 2 1 [.int .i64 0,.int .i64 0] [(0,(1,(.s 16))),(1,(1,(.s 19)))],.none,6,[]⟩,⟨.some 21,.call (.c (.func 51 [] [])) [.c (.int .i64 1),.c (.int .i64 8),.s 20],.none,7,[]⟩,⟨.some 13,.move (.s 21),.none,8,[]⟩] k) (.cond (.s 13) (.seq (.reg [⟨.some 2,.move (.c (.int .i64 2)),.none,0,[]⟩,⟨.some 3,.move (.c (.int .i64 0)),.none,1,[]⟩,⟨.some 4,.move (.c (.int .i64 7)),.none,2,[]⟩] k) .ret) (.seq (.reg [⟨.some 23,.off 1 (.s 1),.none,0,[]⟩,⟨.some 24,.off 1 (.s 23),.none,1,[]⟩,⟨.some 25,.load (.s 24),.none,2,[]⟩,⟨.some 26,.off 1 (.s 1),.none,3,[]⟩,⟨.some 27,.off 0 (.s 26),.none,4,[]⟩,⟨.some 28,.load (.s 27),.none,5,[]⟩,⟨.some 29,.bin .sub (.s 25) (.s 28),.none,6,[]⟩,⟨.some 30,.mkslice 1 1 [.int .i64 0] [(0,(1,(.s 29)))],.none,7,[]⟩,⟨.some 31,.call (.c (.func 51 [] [])) [.c (.int .i64 0),.c (.int .i64 2),.s 30],.none,8,[]⟩,⟨.some 22,.move (.s 31),.none,9,[]⟩] k) (.cond (.s 22) (.seq (.reg
    [⟨.some 2,.move (.c (.int .i64 2)),.none,0,[]⟩,⟨.some 3,.move (.c (.int .i64 0)),.none,1,[]⟩,⟨.some 4,.move (.c (.int .i64 2)),.none,2,[]⟩] k) .ret) .skip))))))) (.seq (.reg [⟨.some 33,.off 3 (.s 1),.none,0,[]⟩,⟨.some 34,.load (.s 33),.none,1,[]⟩,⟨.some 35,.func 53 [] [.s 5,.s 1],.none,2,[]⟩,⟨.some 36,.call (.c (.func 52 [] [])) [.s 34,.c (.int .i64 3),.s 35],.none,3,[]⟩,⟨.some 32,.move (.s 36),.none,4,[]⟩,⟨.some 37,.extract 0 (.s 32),.none,5,[]⟩,⟨.some 38,.extract 1 (.s 32),.none,6,[]⟩,⟨.some 3,.move (.s 37),.none,7,[]⟩,⟨.some 4,.move (.s 38),.none,8,[]⟩] k) (.seq (.seq (.reg [⟨.some 39,.move (.s 4),.none,0,[]⟩,⟨.some 40,.bin .neq (.s 39) (.c (.int .i64 0)),.none,1,[]⟩] k) (.cond (.s 40) (.seq (.reg [⟨.some 41,.move (.s 3),.none,0,[]⟩,⟨.some 42,.move (.s 4),.none,1,[]⟩,⟨.some 2,.move (.c (.int .i64 3)),.none,2,[]⟩,⟨.some 3,.move (.s 41),.none,3,[]⟩,⟨.some 4,.move (.s 42),.none,4,[]⟩] k) .ret) .skip)) (.seq (.reg [⟨.some 44,.off 5 (.s 1),.none,0,[]⟩,⟨.some 45,.load (.s 44),.none,1,[]⟩,⟨.some 46,.func 55 [] [.s 5,.s 1],.none,2,[]⟩,⟨.some 47,.call (.c (.func 54 [] [])) [.s 45,.c (.int .i64 4),.s 46],.none,3,[]⟩,⟨.some 43,.move (.s 47),.none,4,[]⟩,⟨.some 48,.extract 0 (.s 43),.none,5,[]⟩,⟨.some 49,.extract 1 (.s 43),.none,6,[]⟩,⟨.some 3,.move (.s 48),.none,7,[]⟩,⟨.some 4,.move (.s 49),.none,8,[]⟩] k) (.seq (.seq (.reg [⟨.some 50,.move (.s 4),.none,0,[]⟩,⟨.some 51,.bin .neq (.s 50) (.c (.int .i64 0)),.none,1,[]⟩] k) (.cond (.s 51) (.seq (.reg [⟨.some 52,.move (.s 3),.none,0,[]⟩,⟨.some 53,.move (.s 4),.none,1,[]⟩,⟨.some 2,.move (.c (.int .i64 4)),.none,2,[]⟩,⟨.some 3,.move (.s 52),.none,3,[]⟩,⟨.some 4,.move (.s 53),.none,4,[]⟩] k) .ret) .skip)) (.seq (.reg [⟨.some 2,.move (.c (.int .i64 0)),.none,0,[]⟩,⟨.some 3,.move (.c (.int .i64 0)),.none,1,[]⟩,⟨.some 4,.move (.c (.int .i64 0)),.none,2,[]⟩] k) .ret)))))))),res := [.slot 2,.slot 3,.slot 4]}
def c17 : AFunc :=
  let k:List Nat:=[0,1,2,3,4,5,6,7,12,27,29,34,39,50,56,61,68]
  {nt := 71,body := (.seq (.reg [⟨.some 1,.box (.s 0),.none,0,[]⟩,⟨.some 2,.move (.c (.int .i64 0)),.none,1,[]⟩,⟨.some 3,.move (.c (.int .i64 0)),.none,2,[]⟩,⟨.some 4,.move (.c (.int .i64 0)),.none,3,[]⟩] k) (.seq (.seq (.reg [⟨.some 8,.off 0 (.s 1),.none,0,[]⟩,⟨.some 9,.load (.s 8),.none,1,[]⟩,⟨.some 10,.len false (.s 9),.none,2,[]⟩,⟨.some 11,.call (.c (.func 49 [] [])) [.s 10,.c (.int .i64 1),.c (.int .i64 8)],.none,3,[]⟩,⟨.some 12,.un .not (.s 11),.none,4,[]⟩] k) (.cond (.s 12) (.seq (.reg [⟨.some 2,.move (.c (.int .i64 1)),.none,0,[]⟩,⟨.some 3,.move (.c (.int .i64 0)),.none,1,[]⟩,⟨.some 4,.move (.c (.int .i64 3)),.none,2,[]⟩] k) .ret) .skip)) (.seq (.reg [⟨.some 13,.off 1 (.s 1),.none,0,[]⟩,⟨.some 14,.loadN 2 (.s 13),.none,1,[]⟩,⟨.some 15,.call (.c (.func 58 [] [])) [.s 14,.c (.int .i64 1),.c (.int .i64 8)],.none,2,[]⟩,⟨.some 5,.move (.s 15),.none,3,[]⟩] k) (.seq (.seq (.reg [⟨.some 16,.move (.s 5),.none,0,[]⟩,⟨.some 17,.bin .eql (.s 16) (.c (.int .i64 0)),.none,1,[]⟩,⟨.some 18,.move (.s 17),.none,2,[]⟩,⟨.some 19,.off 1 (.s 1),.some (18,true),3,[]⟩,⟨.some 20,.off 1 (.s 19),.some (18,true),4,[]⟩,⟨.some 21,.load (.s 20),.some (18,true),5,[]⟩,⟨.some 22,.off 1 (.s 1),.some (18,true),6,[]⟩,⟨.some 23,.off 0 (.s 22),.some (18,true),7,[]⟩,⟨.some 24,.load (.s 23),.some (18,true),8,[]⟩,⟨.some 25,.bin .sub (.s 21) (.s 24),.some (18,true),9,[]⟩,⟨.some 26,.bin .gtr (.s 25) (.c (.int .i64 2)),.some (18,true),10,[]⟩,⟨.some 27,.pick (.s 18) (.s 26) (.c (.bool false)),.none,11,[]⟩] k) (.cond (.s 27) (.reg [⟨.some 5,.move (.c (.int .i64 2)),.none,0,[]⟩] k) .skip)) (.seq (.seq (.reg [⟨.some 28,.move (.s 5),.none,0,[]⟩,⟨.some 29,.bin .neq (.s 28) (.c (.int .i64 0)),.none,1,[]⟩] k) (.cond (.s 29) (.seq (.reg [⟨.some 30,.move (.s 5),.none,0,[]⟩,⟨.some 2,.move (.c (.int .i64 2)),.none,1,[]⟩,⟨.some 3,.move (.c (.int .i64 0)),.none,2,[]⟩,⟨.some 4,.move (.s 30),.none,3,[]⟩] k) .ret) .skip)) (.seq (.seq (.reg [⟨.some 31,.off 3 (.s 1),.none,0,[]⟩,⟨.some 32,.load (.s 31),.none,1,[]⟩,⟨.some
    33,.len false (.s 32),.none,2,[]⟩,⟨.some 34,.bin .gtr (.s 33) (.c (.int .i64 3)),.none,3,[]⟩] k) (.cond (.s 34) (.seq (.reg [⟨.some 2,.move (.c (.int .i64 3)),.none,0,[]⟩,⟨.some 3,.move (.c (.int .i64 0)),.none,1,[]⟩,⟨.some 4,.move (.c (.int .i64 3)),.none,2,[]⟩] k) .ret) .skip)) (.seq (.seq (.reg [⟨.some 6,.move (.c (.int .i64 0)),.none,0,[]⟩] k) (.block 0 (.loop (.seq (.seq (.reg [⟨.some 35,.move (.s 6),.none,0,[]⟩,⟨.some 36,.off 3 (.s 1),.none,1,[]⟩,⟨.some 37,.load (.s 36),.none,2,[]⟩,⟨.some 38,.len false (.s 37),.none,3,[]⟩,⟨.some 39,.bin .lss (.s 35) (.s 38),.none,4,[]⟩] k) (.cond (.s 39) .skip (.exit 0))) (.seq (.block 1 (.seq (.draw [⟨.some 42,.loadN 6 (.s 1),.none,0,[]⟩,⟨.some 43,.off 3 (.s 1),.none,1,[]⟩,⟨.some 44,.load (.s 43),.none,2,[1]⟩,⟨.some 45,.move (.s 6),.none,3,[]⟩,⟨.some 46,.idxSl 1 (.s 44) (.s 45),.none,4,[1,2,3]⟩,⟨.some 47,.load (.s 46),.none,5,[1,2,3,4]⟩,⟨.some 48,.call (.c (.func 59 [] [])) [.s 42,.s 47],.none,6,[0,1,2,3,4,5]⟩,⟨.some 5,.move (.s 48),.none,7,[0,1,2,3,4,5,6]⟩] k) (.seq (.reg [⟨.some 49,.move (.s 5),.none,0,[]⟩,⟨.some 50,.bin .neq (.s 49) (.c (.int .i64 0)),.none,1,[]⟩] k) (.cond (.s 50) (.seq (.reg [⟨.some 51,.move (.s 6),.none,0,[]⟩,⟨.some 52,.move (.s 5),.none,1,[]⟩,⟨.some 2,.move (.c (.int .i64 3)),.none,2,[]⟩,⟨.some 3,.move (.s 51),.none,3,[]⟩,⟨.some 4,.move (.s 52),.none,4,[]⟩] k) .ret) .skip)))) (.reg [⟨.some 40,.move (.s 6),.none,0,[]⟩,⟨.some 41,.bin .add (.s 40) (.c (.int .i64 1)),.none,1,[]⟩,⟨.some 6,.move (.s 41),.none,2,[]⟩] k)))))) (.seq (.seq (.reg [⟨.some 53,.off 5 (.s 1),.none,0,[]⟩,⟨.some 54,.load (.s 53),.none,1,[]⟩,⟨.some 55,.len false (.s 54),.none,2,[]⟩,⟨.some 56,.bin .gtr (.s 55) (.c (.int .i64 4)),.none,3,[]⟩] k) (.cond (.s 56) (.seq (.reg [⟨.some 2,.move (.c (.int .i64 4)),.none,0,[]⟩,⟨.some 3,.move (.c (.int .i64 0)),.none,1,[]⟩,⟨.some 4,.move (.c (.int .i64 3)),.none,2,[]⟩] k) .ret) .skip)) (.seq (.seq (.reg [⟨.some 7,.move (.c (.int .i64 0)),.none,0,[]⟩] k) (.block 2 (.loop (.seq (.seq (.reg
    [⟨.some 57,.move (.s 7),.none,0,[]⟩,⟨.some 58,.off 5 (.s 1),.none,1,[]⟩,⟨.some 59,.load (.s 58),.none,2,[]⟩,⟨.some 60,.len false (.s 59),.none,3,[]⟩,⟨.some 61,.bin .lss (.s 57) (.s 60),.none,4,[]⟩] k) (.cond (.s 61) .skip (.exit 2))) (.seq (.block 3 (.seq (.reg [⟨.some 64,.loadN 6 (.s 1),.none,0,[]⟩,⟨.some 65,.move (.s 7),.none,1,[]⟩,⟨.some 66,.call (.c (.func 60 [] [])) [.s 64,.s 65],.none,2,[]⟩,⟨.some 5,.move (.s 66),.none,3,[]⟩] k) (.seq (.reg [⟨.some 67,.move (.s 5),.none,0,[]⟩,⟨.some 68,.bin .neq (.s 67) (.c (.int .i64 0)),.none,1,[]⟩] k) (.cond (.s 68) (.seq (.reg [⟨.some 69,.move (.s 7),.none,0,[]⟩,⟨.some 70,.move (.s 5),.none,1,[]⟩,⟨.some 2,.move (.c (.int .i64 4)),.none,2,[]⟩,⟨.some 3,.move (.s 69),.none,3,[]⟩,⟨.some 4,.move (.s 70),.none,4,[]⟩] k) .ret) .skip)))) (.reg [⟨.some 62,.move (.s 7),.none,0,[]⟩,⟨.some 63,.bin .add (.s 62) (.c (.int .i64 1)),.none,1,[]⟩,⟨.some 7,.move (.s 63),.none,2,[]⟩] k)))))) (.seq (.reg [⟨.some 2,.move (.c (.int .i64 0)),.none,0,[]⟩,⟨.some 3,.move (.c (.int .i64 0)),.none,1,[]⟩,⟨.some 4,.move (.c (.int .i64 0)),.none,2,[]⟩] k) .ret)))))))))),res := [.slot 2,.slot 3,.slot 4]}
def c18 : AFunc :=
  let k:List Nat:=[0,1,2,3,4,5,6,7,8,9,25]
  {nt := 31,body := (.seq (.reg [⟨.some 3,.box (.s 0),.none,0,[]⟩,⟨.some 4,.box (.s 1),.none,1,[]⟩,⟨.some 5,.box (.s 2),.none,2,[]⟩,⟨.some 6,.move (.c (.int .i64 0)),.none,3,[]⟩,⟨.some 7,.move (.c (.int .i64 0)),.none,4,[]⟩] k) (.seq (.reg [⟨.some 11,.loadN 6 (.s 3),.none,0,[]⟩,⟨.some 12,.load (.s 4),.none,1,[]⟩,⟨.some 13,.off 3 (.s 3),.none,2,[]⟩,⟨.some 14,.load (.s 13),.none,3,[]⟩,⟨.some 15,.len false (.s 14),.none,4,[]⟩,⟨.some 16,.load (.s 5),.none,5,[]⟩,⟨.some 17,.off 0 (.s 3),.none,6,[]⟩,⟨.some 18,.load (.s 17),.none,7,[]⟩,⟨.some 19,.len false (.s 18),.none,8,[]⟩,⟨.some 20,.mkslice 4 1 [.int .i64 0,.int .i64 0,.int .i64 0,.int .i64 0] [(0,(1,(.s 12))),(1,(1,(.s 15))),(2,(1,(.s 16))),(3,(1,(.s 19)))],.none,9,[]⟩,⟨.some 21,.call (.c (.func 61 [] [])) [.s 11,.s 20],.none,10,[]⟩,⟨.some 10,.move (.s 21),.none,11,[]⟩,⟨.some 22,.extract 0 (.s 10),.none,12,[]⟩,⟨.some 23,.extract 1 (.s 10),.none,13,[]⟩,⟨.some 8,.move (.s 22),.none,14,[]⟩,⟨.some 9,.move (.s 23),.none,15,[]⟩] k) (.seq (.seq (.reg [⟨.some 24,.move (.s 9),.none,0,[]⟩,⟨.some 25,.bin .neq (.s 24) (.c (.int .i64 0)),.none,1,[]⟩] k) (.cond (.s 25) (.seq (.reg [⟨.some 26,.move (.s 9),.none,0,[]⟩,⟨.some 6,.move (.c (.int .i64 0)),.none,1,[]⟩,⟨.some 7,.move (.s 26),.none,2,[]⟩] k) .ret) .skip)) (.seq (.reg [⟨.some 27,.move (.s 8),.none,0,[]⟩,⟨.some 28,.func 63 [] [.s 4,.s 5],.none,1,[]⟩,⟨.some 29,.build [.nilfunc] [(0,(1,(.s 28)))],.none,2,[]⟩,⟨.some 30,.call (.c (.func 62 [] [])) [.s 27,.s 29],.none,3,[]⟩,⟨.some 6,.move (.s 30),.none,4,[]⟩,⟨.some 7,.move (.c (.int .i64 0)),.none,5,[]⟩] k) .ret)))),res := [.slot 6,.slot 7]}
def c20 : AFunc :=
  let k:List Nat:=[0,1,2,3,4,5,6,7,19]
  {nt := 25,body := (.seq (.reg [⟨.some 2,.box (.s 0),.none,0,[]⟩,⟨.some 3,.box (.s 1),.none,1,[]⟩,⟨.some 4,.alloc [.int .i64 0,.int .i64 0],.none,2,[]⟩,⟨.some 5,.move (.c (.int .i64 0)),.none,3,[]⟩] k) (.seq (.reg [⟨.some 9,.loadN 6 (.s 2),.none,0,[]⟩,⟨.some 10,.load (.s 3),.none,1,[]⟩,⟨.some 11,.off 0 (.s 2),.none,2,[]⟩,⟨.some 12,.load (.s 11),.none,3,[]⟩,⟨.some 13,.len false (.s 12),.none,4,[]⟩,⟨.some 14,.mkslice 2 1 [.int .i64 0,.int .i64 0] [(0,(1,(.s 10))),(1,(1,(.s 13)))],.none,5,[]⟩,⟨.some 15,.call (.c (.func 61 [] [])) [.s 9,.s 14],.none,6,[]⟩,⟨.some 8,.move (.s 15),.none,7,[]⟩,⟨.some 16,.extract 0 (.s 8),.none,8,[]⟩,⟨.some 17,.extract 1 (.s 8),.none,9,[]⟩,⟨.some 6,.move (.s 16),.none,10,[]⟩,⟨.some 7,.move (.s 17),.none,11,[]⟩] k) (.seq (.seq (.reg [⟨.some 18,.move (.s 7),.none,0,[]⟩,⟨.some 19,.bin .neq (.s 18) (.c (.int .i64 0)),.none,1,[]⟩] k) (.cond (.s 19) (.seq (.reg [⟨.some 20,.build [.int .i64 0,.int .i64 0] [],.none,0,[]⟩,⟨.some 21,.move (.s 7),.none,1,[]⟩,⟨.none,.store 2 (.s 4) (.s 20),.none,2,[]⟩,⟨.some 5,.move (.s 21),.none,3,[]⟩] k) .ret) .skip)) (.seq (.reg [⟨.some 22,.move (.s 6),.none,0,[]⟩,⟨.some 23,.func 68 [] [.s 3],.none,1,[]⟩,⟨.some 24,.call (.c (.func 67 [] [])) [.s 22,.s 23],.none,2,[]⟩,⟨.none,.store 2 (.s 4) (.s 24),.none,3,[]⟩,⟨.some 5,.move (.c (.int .i64 0)),.none,4,[]⟩] k) .ret)))),res := [.cellN 2 4,.slot 5]}
def c22 : AFunc :=
  let k:List Nat:=[0,1,2,3,4,5,6,7,8,9,10,11,12,13,14,15,16,17,18,19,20,21,22,23,24,26,28]
  {nt := 190,body := (.seq (.reg [⟨.some 0,.move (.c (.bool false)),.none,0,[]⟩] k) (.seq (.reg [⟨.some 29,.call (.c (.func 35 [] [])) [.c (.int .i64 (-1)),.c (.int .i64 (-1))],.none,0,[]⟩,⟨.some 30,.call (.c (.func 35 [] [])) [.c (.int .i64 3),.c (.int .i64 (-1))],.none,1,[]⟩,⟨.some 31,.call (.c (.func 35 [] [])) [.c (.int .i64 3),.c (.int .i64 0)],.none,2,[]⟩,⟨.some 1,.alloc [.nilslice,.int .i64 0,.int .i64 0,.nilslice,.bool false,.nilslice],.none,3,[]⟩,⟨.some 2,.alloc [.nilslice,.int .i64 0,.int .i64 0,.nilslice,.bool false,.nilslice],.none,4,[]⟩,⟨.some 3,.alloc [.nilslice,.int .i64 0,.int .i64 0,.nilslice,.bool false,.nilslice],.none,5,[]⟩,⟨.none,.store 6 (.s 1) (.s 29),.none,6,[]⟩,⟨.none,.store 6 (.s 2) (.s 30),.none,7,[]⟩,⟨.none,.store 6 (.s 3) (.s 31),.none,8,[]⟩] k) (.seq (.reg [⟨.some 33,.loadN 6 (.s 1),.none,0,[]⟩,⟨.some 34,.call (.c (.func 18 [] [])) [.s 33,.c (.int .i64 0),.c (.int .i64 4)],.none,1,[]⟩,⟨.some 32,.move (.s 34),.none,2,[]⟩,⟨.some 35,.extract 0 (.s 32),.none,3,[]⟩,⟨.some 36,.extract 1 (.s 32),.none,4,[]⟩,⟨.some 4,.move (.s 35),.none,5,[]⟩,⟨.some 5,.move (.s 36),.none,6,[]⟩] k) (.seq (.reg [⟨.some 38,.loadN 6 (.s 1),.none,0,[]⟩,⟨.some 39,.call (.c (.func 18 [] [])) [.s 38,.c (.int .i64 1),.c (.int .i64 2)],.none,1,[]⟩,⟨.some 37,.move (.s 39),.none,2,[]⟩,⟨.some 40,.extract 0 (.s 37),.none,3,[]⟩,⟨.some 41,.extract 1 (.s 37),.none,4,[]⟩,⟨.some 6,.move (.s 40),.none,5,[]⟩,⟨.some 7,.move (.s 41),.none,6,[]⟩] k) (.seq (.reg [⟨.some 43,.loadN 6 (.s 1),.none,0,[]⟩,⟨.some 44,.call (.c (.func 18 [] [])) [.s 43,.c (.int .i64 1),.c (.int .i64 5)],.none,1,[]⟩,⟨.some 42,.move (.s 44),.none,2,[]⟩,⟨.some 45,.extract 0 (.s 42),.none,3,[]⟩,⟨.some 46,.extract 1 (.s 42),.none,4,[]⟩,⟨.some 8,.move (.s 45),.none,5,[]⟩,⟨.some 9,.move (.s 46),.none,6,[]⟩] k) (.seq (.reg [⟨.some 48,.loadN 6 (.s 1),.none,0,[]⟩,⟨.some 49,.call (.c (.func 20 [] [])) [.s 48,.c (.int .i64 4)],.none,1,[]⟩,⟨.some 47,.move (.s 49),.none,2,[]⟩,⟨.some 50,.extract 0 (.s 47),.none,3,[]⟩,⟨.some
    51,.extract 1 (.s 47),.none,4,[]⟩,⟨.some 10,.alloc [.int .i64 0,.int .i64 0],.none,5,[]⟩,⟨.none,.store 2 (.s 10) (.s 50),.none,6,[]⟩,⟨.some 11,.move (.s 51),.none,7,[]⟩] k) (.seq (.reg [⟨.some 53,.loadN 6 (.s 2),.none,0,[]⟩,⟨.some 54,.call (.c (.func 20 [] [])) [.s 53,.c (.int .i64 5)],.none,1,[]⟩,⟨.some 52,.move (.s 54),.none,2,[]⟩,⟨.some 55,.extract 0 (.s 52),.none,3,[]⟩,⟨.some 56,.extract 1 (.s 52),.none,4,[]⟩,⟨.some 12,.alloc [.int .i64 0,.int .i64 0],.none,5,[]⟩,⟨.none,.store 2 (.s 12) (.s 55),.none,6,[]⟩,⟨.some 13,.move (.s 56),.none,7,[]⟩] k) (.seq (.reg [⟨.some 58,.loadN 6 (.s 1),.none,0,[]⟩,⟨.some 59,.call (.c (.func 23 [] [])) [.s 58,.c (.int .i64 1)],.none,1,[]⟩,⟨.some 57,.move (.s 59),.none,2,[]⟩,⟨.some 60,.extract 0 (.s 57),.none,3,[]⟩,⟨.some 61,.extract 1 (.s 57),.none,4,[]⟩,⟨.some 14,.alloc [.int .i64 0,.int .i64 0],.none,5,[]⟩,⟨.none,.store 2 (.s 14) (.s 60),.none,6,[]⟩,⟨.some 15,.move (.s 61),.none,7,[]⟩] k) (.seq (.reg [⟨.some 63,.loadN 6 (.s 2),.none,0,[]⟩,⟨.some 64,.call (.c (.func 25 [] [])) [.s 63],.none,1,[]⟩,⟨.some 62,.move (.s 64),.none,2,[]⟩,⟨.some 65,.extract 0 (.s 62),.none,3,[]⟩,⟨.some 66,.extract 1 (.s 62),.none,4,[]⟩,⟨.some 16,.move (.s 65),.none,5,[]⟩,⟨.some 17,.move (.s 66),.none,6,[]⟩] k) (.seq (.reg [⟨.some 68,.loadN 6 (.s 1),.none,0,[]⟩,⟨.some 69,.call (.c (.func 27 [] [])) [.s 68],.none,1,[]⟩,⟨.some 67,.move (.s 69),.none,2,[]⟩,⟨.some 70,.extract 0 (.s 67),.none,3,[]⟩,⟨.some 71,.extract 1 (.s 67),.none,4,[]⟩,⟨.some 18,.move (.s 70),.none,5,[]⟩,⟨.some 19,.move (.s 71),.none,6,[]⟩] k) (.seq (.reg [⟨.some 73,.loadN 6 (.s 1),.none,0,[]⟩,⟨.some 74,.call (.c (.func 30 [] [])) [.s 73],.none,1,[]⟩,⟨.some 72,.move (.s 74),.none,2,[]⟩,⟨.some 75,.extract 0 (.s 72),.none,3,[]⟩,⟨.some 76,.extract 1 (.s 72),.none,4,[]⟩,⟨.some 77,.extract 2 (.s 72),.none,5,[]⟩,⟨.some 20,.move (.s 75),.none,6,[]⟩,⟨.some 21,.move (.s 76),.none,7,[]⟩,⟨.some 22,.move (.s 77),.none,8,[]⟩] k) (.seq (.reg [⟨.some 79,.loadN 6 (.s 3),.none,0,[]⟩,⟨.some 80,.call (.c
    (.func 32 [] [])) [.s 79],.none,1,[]⟩,⟨.some 78,.move (.s 80),.none,2,[]⟩,⟨.some 81,.extract 0 (.s 78),.none,3,[]⟩,⟨.some 82,.extract 1 (.s 78),.none,4,[]⟩,⟨.some 23,.move (.s 81),.none,5,[]⟩,⟨.some 24,.move (.s 82),.none,6,[]⟩] k) (.seq (.reg [⟨.some 84,.loadN 6 (.s 3),.none,0,[]⟩,⟨.some 85,.call (.c (.func 25 [] [])) [.s 84],.none,1,[]⟩,⟨.some 83,.move (.s 85),.none,2,[]⟩,⟨.some 86,.extract 0 (.s 83),.none,3,[]⟩,⟨.some 87,.extract 1 (.s 83),.none,4,[]⟩,⟨.some 25,.move (.s 86),.none,5,[]⟩,⟨.some 26,.move (.s 87),.none,6,[]⟩] k) (.seq (.reg [⟨.some 89,.loadN 6 (.s 1),.none,0,[]⟩,⟨.some 90,.call (.c (.func 18 [] [])) [.s 89,.c (.int .i64 2),.c (.int .i64 0)],.none,1,[]⟩,⟨.some 88,.move (.s 90),.none,2,[]⟩,⟨.some 91,.extract 0 (.s 88),.none,3,[]⟩,⟨.some 92,.extract 1 (.s 88),.none,4,[]⟩,⟨.some 27,.move (.s 91),.none,5,[]⟩,⟨.some 28,.move (.s 92),.none,6,[]⟩] k) (.seq (.draw [⟨.some 93,.move (.s 5),.none,0,[]⟩,⟨.some 94,.bin .eql (.s 93) (.c (.int .i64 0)),.none,1,[0]⟩,⟨.some 95,.move (.s 94),.none,2,[0,1]⟩,⟨.some 96,.move (.s 7),.some (95,true),3,[0,1,2]⟩,⟨.some 97,.bin .eql (.s 96) (.c (.int .i64 0)),.some (95,true),4,[0,1,2,3]⟩,⟨.some 98,.pick (.s 95) (.s 97) (.c (.bool false)),.none,5,[0,1,2,3,4]⟩,⟨.some 99,.move (.s 98),.none,6,[0,1,2,3,4,5]⟩,⟨.some 100,.move (.s 9),.some (99,true),7,[0,1,2,3,4,5,6]⟩,⟨.some 101,.bin .eql (.s 100) (.c (.int .i64 0)),.some (99,true),8,[0,1,2,3,4,5,6,7]⟩,⟨.some 102,.pick (.s 99) (.s 101) (.c (.bool false)),.none,9,[0,1,2,3,4,5,6,7,8]⟩,⟨.some 103,.move (.s 102),.none,10,[0,1,2,3,4,5,6,7,8,9]⟩,⟨.some 104,.move (.s 11),.some (103,true),11,[0,1,2,3,4,5,6,7,8,9,10]⟩,⟨.some 105,.bin .eql (.s 104) (.c (.int .i64 0)),.some (103,true),12,[0,1,2,3,4,5,6,7,8,9,10,11]⟩,⟨.some 106,.pick (.s 103) (.s 105) (.c (.bool false)),.none,13,[0,1,2,3,4,5,6,7,8,9,10,11,12]⟩,⟨.some 107,.move (.s 106),.none,14,[0,1,2,3,4,5,6,7,8,9,10,11,12,13]⟩,⟨.some 108,.move (.s 13),.some (107,true),15,[0,1,2,3,4,5,6,7,8,9,10,11,12,13,14]⟩,⟨.some 109,.bin .eql (.s
    108) (.c (.int .i64 0)),.some (107,true),16,[0,1,2,3,4,5,6,7,8,9,10,11,12,13,14,15]⟩,⟨.some 110,.pick (.s 107) (.s 109) (.c (.bool false)),.none,17,[0,1,2,3,4,5,6,7,8,9,10,11,12,13,14,15,16]⟩,⟨.some 111,.move (.s 110),.none,18,[0,1,2,3,4,5,6,7,8,9,10,11,12,13,14,15,16,17]⟩,⟨.some 112,.move (.s 15),.some (111,true),19,[0,1,2,3,4,5,6,7,8,9,10,11,12,13,14,15,16,17,18]⟩,⟨.some 113,.bin .eql (.s 112) (.c (.int .i64 0)),.some (111,true),20,[0,1,2,3,4,5,6,7,8,9,10,11,12,13,14,15,16,17,18,19]⟩,⟨.some 114,.pick (.s 111) (.s 113) (.c (.bool false)),.none,21,[0,1,2,3,4,5,6,7,8,9,10,11,12,13,14,15,16,17,18,19,20]⟩,⟨.some 115,.move (.s 114),.none,22,[0,1,2,3,4,5,6,7,8,9,10,11,12,13,14,15,16,17,18,19,20,21]⟩,⟨.some 116,.move (.s 17),.some (115,true),23,[0,1,2,3,4,5,6,7,8,9,10,11,12,13,14,15,16,17,18,19,20,21,22]⟩,⟨.some 117,.bin .eql (.s 116) (.c (.int .i64 0)),.some (115,true),24,[0,1,2,3,4,5,6,7,8,9,10,11,12,13,14,15,16,17,18,19,20,21,22,23]⟩,⟨.some 118,.pick (.s 115) (.s 117) (.c (.bool false)),.none,25,[0,1,2,3,4,5,6,7,8,9,10,11,12,13,14,15,16,17,18,19,20,21,22,23,24]⟩,⟨.some 119,.move (.s 118),.none,26,[0,1,2,3,4,5,6,7,8,9,10,11,12,13,14,15,16,17,18,19,20,21,22,23,24,25]⟩,⟨.some 120,.move (.s 19),.some (119,true),27,[0,1,2,3,4,5,6,7,8,9,10,11,12,13,14,15,16,17,18,19,20,21,22,23,24,25,26]⟩,⟨.some 121,.bin .eql (.s 120) (.c (.int .i64 0)),.some (119,true),28,[0,1,2,3,4,5,6,7,8,9,10,11,12,13,14,15,16,17,18,19,20,21,22,23,24,25,26,27]⟩,⟨.some 122,.pick (.s 119) (.s 121) (.c (.bool false)),.none,29,[0,1,2,3,4,5,6,7,8,9,10,11,12,13,14,15,16,17,18,19,20,21,22,23,24,25,26,27,28]⟩,⟨.some 123,.move (.s 122),.none,30,[0,1,2,3,4,5,6,7,8,9,10,11,12,13,14,15,16,17,18,19,20,21,22,23,24,25,26,27,28,29]⟩,⟨.some 124,.move (.s 22),.some (123,true),31,[0,1,2,3,4,5,6,7,8,9,10,11,12,13,14,15,16,17,18,19,20,21,22,23,24,25,26,27,28,29,30]⟩,⟨.some 125,.bin .eql (.s 124) (.c (.int .i64 0)),.some
    (123,true),32,[0,1,2,3,4,5,6,7,8,9,10,11,12,13,14,15,16,17,18,19,20,21,22,23,24,25,26,27,28,29,30,31]⟩,⟨.some 126,.pick (.s 123) (.s 125) (.c (.bool false)),.none,33,[0,1,2,3,4,5,6,7,8,9,10,11,12,13,14,15,16,17,18,19,20,21,22,23,24,25,26,27,28,29,30,31,32]⟩,⟨.some 127,.move (.s 126),.none,34,[0,1,2,3,4,5,6,7,8,9,10,11,12,13,14,15,16,17,18,19,20,21,22,23,24,25,26,27,28,29,30,31,32,33]⟩,⟨.some 128,.move (.s 24),.some (127,true),35,[0,1,2,3,4,5,6,7,8,9,10,11,12,13,14,15,16,17,18,19,20,21,22,23,24,25,26,27,28,29,30,31,32,33,34]⟩,⟨.some 129,.bin .eql (.s 128) (.c (.int .i64 0)),.some (127,true),36,[0,1,2,3,4,5,6,7,8,9,10,11,12,13,14,15,16,17,18,19,20,21,22,23,24,25,26,27,28,29,30,31,32,33,34,35]⟩,⟨.some 130,.pick (.s 127) (.s 129) (.c (.bool false)),.none,37,[0,1,2,3,4,5,6,7,8,9,10,11,12,13,14,15,16,17,18,19,20,21,22,23,24,25,26,27,28,29,30,31,32,33,34,35,36]⟩,⟨.some 131,.move (.s 130),.none,38,[0,1,2,3,4,5,6,7,8,9,10,11,12,13,14,15,16,17,18,19,20,21,22,23,24,25,26,27,28,29,30,31,32,33,34,35,36,37]⟩,⟨.some 132,.move (.s 26),.some (131,true),39,[0,1,2,3,4,5,6,7,8,9,10,11,12,13,14,15,16,17,18,19,20,21,22,23,24,25,26,27,28,29,30,31,32,33,34,35,36,37,38]⟩,⟨.some 133,.bin .eql (.s 132) (.c (.int .i64 8)),.some (131,true),40,[0,1,2,3,4,5,6,7,8,9,10,11,12,13,14,15,16,17,18,19,20,21,22,23,24,25,26,27,28,29,30,31,32,33,34,35,36,37,38,39]⟩,⟨.some 134,.pick (.s 131) (.s 133) (.c (.bool false)),.none,41,[0,1,2,3,4,5,6,7,8,9,10,11,12,13,14,15,16,17,18,19,20,21,22,23,24,25,26,27,28,29,30,31,32,33,34,35,36,37,38,39,40]⟩,⟨.some 135,.move (.s 134),.none,42,[0,1,2,3,4,5,6,7,8,9,10,11,12,13,14,15,16,17,18,19,20,21,22,23,24,25,26,27,28,29,30,31,32,33,34,35,36,37,38,39,40,41]⟩,⟨.some 136,.move (.s 28),.some (135,true),43,[0,1,2,3,4,5,6,7,8,9,10,11,12,13,14,15,16,17,18,19,20,21,22,23,24,25,26,27,28,29,30,31,32,33,34,35,36,37,38,39,40,41,42]⟩,⟨.some 137,.bin .eql (.s 136) (.c (.int .i64 4)),.some
    (135,true),44,[0,1,2,3,4,5,6,7,8,9,10,11,12,13,14,15,16,17,18,19,20,21,22,23,24,25,26,27,28,29,30,31,32,33,34,35,36,37,38,39,40,41,42,43]⟩,⟨.some 138,.pick (.s 135) (.s 137) (.c (.bool false)),.none,45,[0,1,2,3,4,5,6,7,8,9,10,11,12,13,14,15,16,17,18,19,20,21,22,23,24,25,26,27,28,29,30,31,32,33,34,35,36,37,38,39,40,41,42,43,44]⟩,⟨.some 139,.move (.s 138),.none,46,[0,1,2,3,4,5,6,7,8,9,10,11,12,13,14,15,16,17,18,19,20,21,22,23,24,25,26,27,28,29,30,31,32,33,34,35,36,37,38,39,40,41,42,43,44,45]⟩,⟨.some 140,.move (.s 4),.some (139,true),47,[0,1,2,3,4,5,6,7,8,9,10,11,12,13,14,15,16,17,18,19,20,21,22,23,24,25,26,27,28,29,30,31,32,33,34,35,36,37,38,39,40,41,42,43,44,45,46]⟩,⟨.some 141,.bin .eql (.s 140) (.c (.int .i64 0)),.some (139,true),48,[0,1,2,3,4,5,6,7,8,9,10,11,12,13,14,15,16,17,18,19,20,21,22,23,24,25,26,27,28,29,30,31,32,33,34,35,36,37,38,39,40,41,42,43,44,45,46,47]⟩,⟨.some 142,.pick (.s 139) (.s 141) (.c (.bool false)),.none,49,[0,1,2,3,4,5,6,7,8,9,10,11,12,13,14,15,16,17,18,19,20,21,22,23,24,25,26,27,28,29,30,31,32,33,34,35,36,37,38,39,40,41,42,43,44,45,46,47,48]⟩,⟨.some 143,.move (.s 142),.none,50,[0,1,2,3,4,5,6,7,8,9,10,11,12,13,14,15,16,17,18,19,20,21,22,23,24,25,26,27,28,29,30,31,32,33,34,35,36,37,38,39,40,41,42,43,44,45,46,47,48,49]⟩,⟨.some 144,.move (.s 6),.some (143,true),51,[0,1,2,3,4,5,6,7,8,9,10,11,12,13,14,15,16,17,18,19,20,21,22,23,24,25,26,27,28,29,30,31,32,33,34,35,36,37,38,39,40,41,42,43,44,45,46,47,48,49,50]⟩,⟨.some 145,.bin .eql (.s 144) (.c (.int .i64 1)),.some (143,true),52,[0,1,2,3,4,5,6,7,8,9,10,11,12,13,14,15,16,17,18,19,20,21,22,23,24,25,26,27,28,29,30,31,32,33,34,35,36,37,38,39,40,41,42,43,44,45,46,47,48,49,50,51]⟩,⟨.some 146,.pick (.s 143) (.s 145) (.c (.bool false)),.none,53,[0,1,2,3,4,5,6,7,8,9,10,11,12,13,14,15,16,17,18,19,20,21,22,23,24,25,26,27,28,29,30,31,32,33,34,35,36,37,38,39,40,41,42,43,44,45,46,47,48,49,50,51,52]⟩,⟨.some 147,.move (.s
    146),.none,54,[0,1,2,3,4,5,6,7,8,9,10,11,12,13,14,15,16,17,18,19,20,21,22,23,24,25,26,27,28,29,30,31,32,33,34,35,36,37,38,39,40,41,42,43,44,45,46,47,48,49,50,51,52,53]⟩,⟨.some 148,.move (.s 8),.some (147,true),55,[0,1,2,3,4,5,6,7,8,9,10,11,12,13,14,15,16,17,18,19,20,21,22,23,24,25,26,27,28,29,30,31,32,33,34,35,36,37,38,39,40,41,42,43,44,45,46,47,48,49,50,51,52,53,54]⟩,⟨.some 149,.bin .eql (.s 148) (.c (.int .i64 2)),.some (147,true),56,[0,1,2,3,4,5,6,7,8,9,10,11,12,13,14,15,16,17,18,19,20,21,22,23,24,25,26,27,28,29,30,31,32,33,34,35,36,37,38,39,40,41,42,43,44,45,46,47,48,49,50,51,52,53,54,55]⟩,⟨.some 150,.pick (.s 147) (.s 149) (.c (.bool false)),.none,57,[0,1,2,3,4,5,6,7,8,9,10,11,12,13,14,15,16,17,18,19,20,21,22,23,24,25,26,27,28,29,30,31,32,33,34,35,36,37,38,39,40,41,42,43,44,45,46,47,48,49,50,51,52,53,54,55,56]⟩,⟨.some 151,.move (.s 150),.none,58,[0,1,2,3,4,5,6,7,8,9,10,11,12,13,14,15,16,17,18,19,20,21,22,23,24,25,26,27,28,29,30,31,32,33,34,35,36,37,38,39,40,41,42,43,44,45,46,47,48,49,50,51,52,53,54,55,56,57]⟩,⟨.some 152,.loadN 2 (.s 10),.some (151,true),59,[0,1,2,3,4,5,6,7,8,9,10,11,12,13,14,15,16,17,18,19,20,21,22,23,24,25,26,27,28,29,30,31,32,33,34,35,36,37,38,39,40,41,42,43,44,45,46,47,48,49,50,51,52,53,54,55,56,57,58]⟩,⟨.some 153,.call (.c (.func 36 [] [])) [.c (.int .i64 0),.c (.int .i64 3)],.some (151,true),60,[0,1,2,3,4,5,6,7,8,9,10,11,12,13,14,15,16,17,18,19,20,21,22,23,24,25,26,27,28,29,30,31,32,33,34,35,36,37,38,39,40,41,42,43,44,45,46,47,48,49,50,51,52,53,54,55,56,57,58]⟩,⟨.some 154,.eqFlat true [.i,.i] false (.s 152) (.s 153),.some (151,true),61,[0,1,2,3,4,5,6,7,8,9,10,11,12,13,14,15,16,17,18,19,20,21,22,23,24,25,26,27,28,29,30,31,32,33,34,35,36,37,38,39,40,41,42,43,44,45,46,47,48,49,50,51,52,53,54,55,56,57,58,59,60]⟩,⟨.some 155,.pick (.s 151) (.s 154) (.c (.bool
    false)),.none,62,[0,1,2,3,4,5,6,7,8,9,10,11,12,13,14,15,16,17,18,19,20,21,22,23,24,25,26,27,28,29,30,31,32,33,34,35,36,37,38,39,40,41,42,43,44,45,46,47,48,49,50,51,52,53,54,55,56,57,58,59,60,61]⟩,⟨.some 156,.move (.s 155),.none,63,[0,1,2,3,4,5,6,7,8,9,10,11,12,13,14,15,16,17,18,19,20,21,22,23,24,25,26,27,28,29,30,31,32,33,34,35,36,37,38,39,40,41,42,43,44,45,46,47,48,49,50,51,52,53,54,55,56,57,58,59,60,61,62]⟩,⟨.some 157,.loadN 2 (.s 12),.some (156,true),64,[0,1,2,3,4,5,6,7,8,9,10,11,12,13,14,15,16,17,18,19,20,21,22,23,24,25,26,27,28,29,30,31,32,33,34,35,36,37,38,39,40,41,42,43,44,45,46,47,48,49,50,51,52,53,54,55,56,57,58,59,60,61,62,63]⟩,⟨.some 158,.call (.c (.func 36 [] [])) [.c (.int .i64 1),.c (.int .i64 2)],.some (156,true),65,[0,1,2,3,4,5,6,7,8,9,10,11,12,13,14,15,16,17,18,19,20,21,22,23,24,25,26,27,28,29,30,31,32,33,34,35,36,37,38,39,40,41,42,43,44,45,46,47,48,49,50,51,52,53,54,55,56,57,58,59,60,61,62,63]⟩,⟨.some 159,.eqFlat true [.i,.i] false (.s 157) (.s 158),.some (156,true),66,[0,1,2,3,4,5,6,7,8,9,10,11,12,13,14,15,16,17,18,19,20,21,22,23,24,25,26,27,28,29,30,31,32,33,34,35,36,37,38,39,40,41,42,43,44,45,46,47,48,49,50,51,52,53,54,55,56,57,58,59,60,61,62,63,64,65]⟩,⟨.some 160,.pick (.s 156) (.s 159) (.c (.bool false)),.none,67,[0,1,2,3,4,5,6,7,8,9,10,11,12,13,14,15,16,17,18,19,20,21,22,23,24,25,26,27,28,29,30,31,32,33,34,35,36,37,38,39,40,41,42,43,44,45,46,47,48,49,50,51,52,53,54,55,56,57,58,59,60,61,62,63,64,65,66]⟩,⟨.some 161,.move (.s 160),.none,68,[0,1,2,3,4,5,6,7,8,9,10,11,12,13,14,15,16,17,18,19,20,21,22,23,24,25,26,27,28,29,30,31,32,33,34,35,36,37,38,39,40,41,42,43,44,45,46,47,48,49,50,51,52,53,54,55,56,57,58,59,60,61,62,63,64,65,66,67]⟩,⟨.some 162,.loadN 2 (.s 14),.some (161,true),69,[0,1,2,3,4,5,6,7,8,9,10,11,12,13,14,15,16,17,18,19,20,21,22,23,24,25,26,27,28,29,30,31,32,33,34,35,36,37,38,39,40,41,42,43,44,45,46,47,48,49,50,51,52,53,54,55,56,57,58,59,60,61,62,63,64,65,66,67,68]⟩,⟨.some 163,.call (.c (.func 36 [] [])) [.c (.int .i64 4),.c (.int
    .i64 5)],.some (161,true),70,[0,1,2,3,4,5,6,7,8,9,10,11,12,13,14,15,16,17,18,19,20,21,22,23,24,25,26,27,28,29,30,31,32,33,34,35,36,37,38,39,40,41,42,43,44,45,46,47,48,49,50,51,52,53,54,55,56,57,58,59,60,61,62,63,64,65,66,67,68]⟩,⟨.some 164,.eqFlat true [.i,.i] false (.s 162) (.s 163),.some (161,true),71,[0,1,2,3,4,5,6,7,8,9,10,11,12,13,14,15,16,17,18,19,20,21,22,23,24,25,26,27,28,29,30,31,32,33,34,35,36,37,38,39,40,41,42,43,44,45,46,47,48,49,50,51,52,53,54,55,56,57,58,59,60,61,62,63,64,65,66,67,68,69,70]⟩,⟨.some 165,.pick (.s 161) (.s 164) (.c (.bool false)),.none,72,[0,1,2,3,4,5,6,7,8,9,10,11,12,13,14,15,16,17,18,19,20,21,22,23,24,25,26,27,28,29,30,31,32,33,34,35,36,37,38,39,40,41,42,43,44,45,46,47,48,49,50,51,52,53,54,55,56,57,58,59,60,61,62,63,64,65,66,67,68,69,70,71]⟩,⟨.some 166,.move (.s 165),.none,73,[0,1,2,3,4,5,6,7,8,9,10,11,12,13,14,15,16,17,18,19,20,21,22,23,24,25,26,27,28,29,30,31,32,33,34,35,36,37,38,39,40,41,42,43,44,45,46,47,48,49,50,51,52,53,54,55,56,57,58,59,60,61,62,63,64,65,66,67,68,69,70,71,72]⟩,⟨.some 167,.move (.s 16),.some (166,true),74,[0,1,2,3,4,5,6,7,8,9,10,11,12,13,14,15,16,17,18,19,20,21,22,23,24,25,26,27,28,29,30,31,32,33,34,35,36,37,38,39,40,41,42,43,44,45,46,47,48,49,50,51,52,53,54,55,56,57,58,59,60,61,62,63,64,65,66,67,68,69,70,71,72,73]⟩,⟨.some 168,.bin .eql (.s 167) (.c (.int .i64 1)),.some (166,true),75,[0,1,2,3,4,5,6,7,8,9,10,11,12,13,14,15,16,17,18,19,20,21,22,23,24,25,26,27,28,29,30,31,32,33,34,35,36,37,38,39,40,41,42,43,44,45,46,47,48,49,50,51,52,53,54,55,56,57,58,59,60,61,62,63,64,65,66,67,68,69,70,71,72,73,74]⟩,⟨.some 169,.pick (.s 166) (.s 168) (.c (.bool false)),.none,76,[0,1,2,3,4,5,6,7,8,9,10,11,12,13,14,15,16,17,18,19,20,21,22,23,24,25,26,27,28,29,30,31,32,33,34,35,36,37,38,39,40,41,42,43,44,45,46,47,48,49,50,51,52,53,54,55,56,57,58,59,60,61,62,63,64,65,66,67,68,69,70,71,72,73,74,75]⟩,⟨.some 170,.move (.s
    169),.none,77,[0,1,2,3,4,5,6,7,8,9,10,11,12,13,14,15,16,17,18,19,20,21,22,23,24,25,26,27,28,29,30,31,32,33,34,35,36,37,38,39,40,41,42,43,44,45,46,47,48,49,50,51,52,53,54,55,56,57,58,59,60,61,62,63,64,65,66,67,68,69,70,71,72,73,74,75,76]⟩,⟨.some 171,.move (.s 18),.some (170,true),78,[0,1,2,3,4,5,6,7,8,9,10,11,12,13,14,15,16,17,18,19,20,21,22,23,24,25,26,27,28,29,30,31,32,33,34,35,36,37,38,39,40,41,42,43,44,45,46,47,48,49,50,51,52,53,54,55,56,57,58,59,60,61,62,63,64,65,66,67,68,69,70,71,72,73,74,75,76,77]⟩,⟨.some 172,.call (.c (.func 36 [] [])) [.c (.int .i64 1),.c (.int .i64 3)],.some (170,true),79,[0,1,2,3,4,5,6,7,8,9,10,11,12,13,14,15,16,17,18,19,20,21,22,23,24,25,26,27,28,29,30,31,32,33,34,35,36,37,38,39,40,41,42,43,44,45,46,47,48,49,50,51,52,53,54,55,56,57,58,59,60,61,62,63,64,65,66,67,68,69,70,71,72,73,74,75,76,77]⟩,⟨.some 173,.call (.c (.func 36 [] [])) [.c (.int .i64 0),.c (.int .i64 3)],.some (170,true),80,[0,1,2,3,4,5,6,7,8,9,10,11,12,13,14,15,16,17,18,19,20,21,22,23,24,25,26,27,28,29,30,31,32,33,34,35,36,37,38,39,40,41,42,43,44,45,46,47,48,49,50,51,52,53,54,55,56,57,58,59,60,61,62,63,64,65,66,67,68,69,70,71,72,73,74,75,76,77,79]⟩,⟨.some 174,.mkslice 2 2 [.int .i64 0,.int .i64 0,.int .i64 0,.int .i64 0] [(0,(2,(.s 172))),(2,(2,(.s 173)))],.some (170,true),81,[0,1,2,3,4,5,6,7,8,9,10,11,12,13,14,15,16,17,18,19,20,21,22,23,24,25,26,27,28,29,30,31,32,33,34,35,36,37,38,39,40,41,42,43,44,45,46,47,48,49,50,51,52,53,54,55,56,57,58,59,60,61,62,63,64,65,66,67,68,69,70,71,72,73,74,75,76,77,79,80]⟩,⟨.some 175,.call (.c (.func 29 [] [])) [.s 171,.s 174],.some (170,true),82,[0,1,2,3,4,5,6,7,8,9,10,11,12,13,14,15,16,17,18,19,20,21,22,23,24,25,26,27,28,29,30,31,32,33,34,35,36,37,38,39,40,41,42,43,44,45,46,47,48,49,50,51,52,53,54,55,56,57,58,59,60,61,62,63,64,65,66,67,68,69,70,71,72,73,74,75,76,77,78,79,80,81]⟩,⟨.some 176,.pick (.s 170) (.s 175) (.c (.bool
    false)),.none,83,[0,1,2,3,4,5,6,7,8,9,10,11,12,13,14,15,16,17,18,19,20,21,22,23,24,25,26,27,28,29,30,31,32,33,34,35,36,37,38,39,40,41,42,43,44,45,46,47,48,49,50,51,52,53,54,55,56,57,58,59,60,61,62,63,64,65,66,67,68,69,70,71,72,73,74,75,76,77,78,79,80,81,82]⟩,⟨.some 177,.move (.s 176),.none,84,[0,1,2,3,4,5,6,7,8,9,10,11,12,13,14,15,16,17,18,19,20,21,22,23,24,25,26,27,28,29,30,31,32,33,34,35,36,37,38,39,40,41,42,43,44,45,46,47,48,49,50,51,52,53,54,55,56,57,58,59,60,61,62,63,64,65,66,67,68,69,70,71,72,73,74,75,76,77,78,79,80,81,82,83]⟩,⟨.some 178,.move (.s 20),.some (177,true),85,[0,1,2,3,4,5,6,7,8,9,10,11,12,13,14,15,16,17,18,19,20,21,22,23,24,25,26,27,28,29,30,31,32,33,34,35,36,37,38,39,40,41,42,43,44,45,46,47,48,49,50,51,52,53,54,55,56,57,58,59,60,61,62,63,64,65,66,67,68,69,70,71,72,73,74,75,76,77,78,79,80,81,82,83,84]⟩,⟨.some 179,.bin .eql (.s 178) (.c (.int .i64 4)),.some (177,true),86,[0,1,2,3,4,5,6,7,8,9,10,11,12,13,14,15,16,17,18,19,20,21,22,23,24,25,26,27,28,29,30,31,32,33,34,35,36,37,38,39,40,41,42,43,44,45,46,47,48,49,50,51,52,53,54,55,56,57,58,59,60,61,62,63,64,65,66,67,68,69,70,71,72,73,74,75,76,77,78,79,80,81,82,83,84,85]⟩,⟨.some 180,.pick (.s 177) (.s 179) (.c (.bool false)),.none,87,[0,1,2,3,4,5,6,7,8,9,10,11,12,13,14,15,16,17,18,19,20,21,22,23,24,25,26,27,28,29,30,31,32,33,34,35,36,37,38,39,40,41,42,43,44,45,46,47,48,49,50,51,52,53,54,55,56,57,58,59,60,61,62,63,64,65,66,67,68,69,70,71,72,73,74,75,76,77,78,79,80,81,82,83,84,85,86]⟩,⟨.some 181,.move (.s 180),.none,88,[0,1,2,3,4,5,6,7,8,9,10,11,12,13,14,15,16,17,18,19,20,21,22,23,24,25,26,27,28,29,30,31,32,33,34,35,36,37,38,39,40,41,42,43,44,45,46,47,48,49,50,51,52,53,54,55,56,57,58,59,60,61,62,63,64,65,66,67,68,69,70,71,72,73,74,75,76,77,78,79,80,81,82,83,84,85,86,87]⟩,⟨.some 182,.move (.s 21),.some
    (181,true),89,[0,1,2,3,4,5,6,7,8,9,10,11,12,13,14,15,16,17,18,19,20,21,22,23,24,25,26,27,28,29,30,31,32,33,34,35,36,37,38,39,40,41,42,43,44,45,46,47,48,49,50,51,52,53,54,55,56,57,58,59,60,61,62,63,64,65,66,67,68,69,70,71,72,73,74,75,76,77,78,79,80,81,82,83,84,85,86,87,88]⟩,⟨.some 183,.bin .eql (.s 182) (.c (.int .i64 3)),.some (181,true),90,[0,1,2,3,4,5,6,7,8,9,10,11,12,13,14,15,16,17,18,19,20,21,22,23,24,25,26,27,28,29,30,31,32,33,34,35,36,37,38,39,40,41,42,43,44,45,46,47,48,49,50,51,52,53,54,55,56,57,58,59,60,61,62,63,64,65,66,67,68,69,70,71,72,73,74,75,76,77,78,79,80,81,82,83,84,85,86,87,88,89]⟩,⟨.some 184,.pick (.s 181) (.s 183) (.c (.bool false)),.none,91,[0,1,2,3,4,5,6,7,8,9,10,11,12,13,14,15,16,17,18,19,20,21,22,23,24,25,26,27,28,29,30,31,32,33,34,35,36,37,38,39,40,41,42,43,44,45,46,47,48,49,50,51,52,53,54,55,56,57,58,59,60,61,62,63,64,65,66,67,68,69,70,71,72,73,74,75,76,77,78,79,80,81,82,83,84,85,86,87,88,89,90]⟩,⟨.some 185,.move (.s 184),.none,92,[0,1,2,3,4,5,6,7,8,9,10,11,12,13,14,15,16,17,18,19,20,21,22,23,24,25,26,27,28,29,30,31,32,33,34,35,36,37,38,39,40,41,42,43,44,45,46,47,48,49,50,51,52,53,54,55,56,57,58,59,60,61,62,63,64,65,66,67,68,69,70,71,72,73,74,75,76,77,78,79,80,81,82,83,84,85,86,87,88,89,90,91]⟩,⟨.some 186,.move (.s 23),.some (185,true),93,[0,1,2,3,4,5,6,7,8,9,10,11,12,13,14,15,16,17,18,19,20,21,22,23,24,25,26,27,28,29,30,31,32,33,34,35,36,37,38,39,40,41,42,43,44,45,46,47,48,49,50,51,52,53,54,55,56,57,58,59,60,61,62,63,64,65,66,67,68,69,70,71,72,73,74,75,76,77,78,79,80,81,82,83,84,85,86,87,88,89,90,91,92]⟩,⟨.some 187,.mkslice 1 1 [.int .i64 0] [(0,(1,(.c (.int .i64 1))))],.some (185,true),94,[0,1,2,3,4,5,6,7,8,9,10,11,12,13,14,15,16,17,18,19,20,21,22,23,24,25,26,27,28,29,30,31,32,33,34,35,36,37,38,39,40,41,42,43,44,45,46,47,48,49,50,51,52,53,54,55,56,57,58,59,60,61,62,63,64,65,66,67,68,69,70,71,72,73,74,75,76,77,78,79,80,81,82,83,84,85,86,87,88,89,90,91,92]⟩,⟨.some 188,.call (.c (.func 34 [] [])) [.s 186,.s 187],.some
    (185,true),95,[0,1,2,3,4,5,6,7,8,9,10,11,12,13,14,15,16,17,18,19,20,21,22,23,24,25,26,27,28,29,30,31,32,33,34,35,36,37,38,39,40,41,42,43,44,45,46,47,48,49,50,51,52,53,54,55,56,57,58,59,60,61,62,63,64,65,66,67,68,69,70,71,72,73,74,75,76,77,78,79,80,81,82,83,84,85,86,87,88,89,90,91,92,93,94]⟩,⟨.some 189,.pick (.s 185) (.s 188) (.c (.bool false)),.none,96,[0,1,2,3,4,5,6,7,8,9,10,11,12,13,14,15,16,17,18,19,20,21,22,23,24,25,26,27,28,29,30,31,32,33,34,35,36,37,38,39,40,41,42,43,44,45,46,47,48,49,50,51,52,53,54,55,56,57,58,59,60,61,62,63,64,65,66,67,68,69,70,71,72,73,74,75,76,77,78,79,80,81,82,83,84,85,86,87,88,89,90,91,92,93,94,95]⟩,⟨.some 0,.move (.s 189),.none,97,[0,1,2,3,4,5,6,7,8,9,10,11,12,13,14,15,16,17,18,19,20,21,22,23,24,25,26,27,28,29,30,31,32,33,34,35,36,37,38,39,40,41,42,43,44,45,46,47,48,49,50,51,52,53,54,55,56,57,58,59,60,61,62,63,64,65,66,67,68,69,70,71,72,73,74,75,76,77,78,79,80,81,82,83,84,85,86,87,88,89,90,91,92,93,94,95,96]⟩] k) .ret))))))))))))))),res := [.slot 0]}
def c23 : AFunc :=
  let k:List Nat:=[0,1,2,3,4,5,6,7,19]
  {nt := 25,body := (.seq (.reg [⟨.some 2,.box (.s 0),.none,0,[]⟩,⟨.some 3,.box (.s 1),.none,1,[]⟩,⟨.some 4,.alloc [.int .i64 0,.int .i64 0],.none,2,[]⟩,⟨.some 5,.move (.c (.int .i64 0)),.none,3,[]⟩] k) (.seq (.reg [⟨.some 9,.loadN 6 (.s 2),.none,0,[]⟩,⟨.some 10,.load (.s 3),.none,1,[]⟩,⟨.some 11,.off 3 (.s 2),.none,2,[]⟩,⟨.some 12,.load (.s 11),.none,3,[]⟩,⟨.some 13,.len false (.s 12),.none,4,[]⟩,⟨.some 14,.mkslice 2 1 [.int .i64 0,.int .i64 0] [(0,(1,(.s 10))),(1,(1,(.s 13)))],.none,5,[]⟩,⟨.some 15,.call (.c (.func 61 [] [])) [.s 9,.s 14],.none,6,[]⟩,⟨.some 8,.move (.s 15),.none,7,[]⟩,⟨.some 16,.extract 0 (.s 8),.none,8,[]⟩,⟨.some 17,.extract 1 (.s 8),.none,9,[]⟩,⟨.some 6,.move (.s 16),.none,10,[]⟩,⟨.some 7,.move (.s 17),.none,11,[]⟩] k) (.seq (.seq (.reg [⟨.some 18,.move (.s 7),.none,0,[]⟩,⟨.some 19,.bin .neq (.s 18) (.c (.int .i64 0)),.none,1,[]⟩] k) (.cond (.s 19) (.seq (.reg [⟨.some 20,.build [.int .i64 0,.int .i64 0] [],.none,0,[]⟩,⟨.some 21,.move (.s 7),.none,1,[]⟩,⟨.none,.store 2 (.s 4) (.s 20),.none,2,[]⟩,⟨.some 5,.move (.s 21),.none,3,[]⟩] k) .ret) .skip)) (.seq (.reg [⟨.some 22,.move (.s 6),.none,0,[]⟩,⟨.some 23,.func 70 [] [.s 3],.none,1,[]⟩,⟨.some 24,.call (.c (.func 67 [] [])) [.s 22,.s 23],.none,2,[]⟩,⟨.none,.store 2 (.s 4) (.s 24),.none,3,[]⟩,⟨.some 5,.move (.c (.int .i64 0)),.none,4,[]⟩] k) .ret)))),res := [.cellN 2 4,.slot 5]}
def c25 : AFunc :=
  let k:List Nat:=[0,1,2,3,4,5,12]
  {nt := 17,body := (.seq (.reg [⟨.some 1,.box (.s 0),.none,0,[]⟩,⟨.some 2,.move (.c (.int .i64 0)),.none,1,[]⟩,⟨.some 3,.move (.c (.int .i64 0)),.none,2,[]⟩] k) (.seq (.reg [⟨.some 7,.loadN 6 (.s 1),.none,0,[]⟩,⟨.some 8,.call (.c (.func 61 [] [])) [.s 7,.c .nilslice],.none,1,[]⟩,⟨.some 6,.move (.s 8),.none,2,[]⟩,⟨.some 9,.extract 0 (.s 6),.none,3,[]⟩,⟨.some 10,.extract 1 (.s 6),.none,4,[]⟩,⟨.some 4,.move (.s 9),.none,5,[]⟩,⟨.some 5,.move (.s 10),.none,6,[]⟩] k) (.seq (.seq (.reg [⟨.some 11,.move (.s 5),.none,0,[]⟩,⟨.some 12,.bin .neq (.s 11) (.c (.int .i64 0)),.none,1,[]⟩] k) (.cond (.s 12) (.seq (.reg [⟨.some 13,.move (.s 5),.none,0,[]⟩,⟨.some 2,.move (.c (.int .i64 0)),.none,1,[]⟩,⟨.some 3,.move (.s 13),.none,2,[]⟩] k) .ret) .skip)) (.seq (.reg [⟨.some 14,.move (.s 4),.none,0,[]⟩,⟨.some 15,.build [.nilfunc] [(0,(1,(.c (.func 73 [] []))))],.none,1,[]⟩,⟨.some 16,.call (.c (.func 62 [] [])) [.s 14,.s 15],.none,2,[]⟩,⟨.some 2,.move (.s 16),.none,3,[]⟩,⟨.some 3,.move (.c (.int .i64 0)),.none,4,[]⟩] k) .ret)))),res := [.slot 2,.slot 3]}
def c27 : AFunc :=
  let k:List Nat:=[0,1,2,3,4,5,6,7,14,21,22]
  {nt := 28,body := (.seq (.reg [⟨.some 1,.box (.s 0),.none,0,[]⟩,⟨.some 2,.move (.c .nilslice),.none,1,[]⟩,⟨.some 3,.move (.c (.int .i64 0)),.none,2,[]⟩] k) (.seq (.reg [⟨.some 9,.loadN 6 (.s 1),.none,0,[]⟩,⟨.some 10,.call (.c (.func 61 [] [])) [.s 9,.c .nilslice],.none,1,[]⟩,⟨.some 8,.move (.s 10),.none,2,[]⟩,⟨.some 11,.extract 0 (.s 8),.none,3,[]⟩,⟨.some 12,.extract 1 (.s 8),.none,4,[]⟩,⟨.some 4,.move (.s 11),.none,5,[]⟩,⟨.some 5,.move (.s 12),.none,6,[]⟩] k) (.seq (.seq (.reg [⟨.some 13,.move (.s 5),.none,0,[]⟩,⟨.some 14,.bin .neq (.s 13) (.c (.int .i64 0)),.none,1,[]⟩] k) (.cond (.s 14) (.seq (.reg [⟨.some 15,.move (.s 5),.none,0,[]⟩,⟨.some 2,.move (.c .nilslice),.none,1,[]⟩,⟨.some 3,.move (.s 15),.none,2,[]⟩] k) .ret) .skip)) (.seq (.reg [⟨.some 16,.off 3 (.s 1),.none,0,[]⟩,⟨.some 17,.load (.s 16),.none,1,[]⟩,⟨.some 18,.len false (.s 17),.none,2,[]⟩,⟨.some 19,.makeSlice 2 16 [.int .i64 0,.int .i64 0] (.s 18) (.s 18),.none,3,[]⟩,⟨.some 6,.alloc [.nilslice],.none,4,[]⟩,⟨.none,.store 1 (.s 6) (.s 19),.none,5,[]⟩] k) (.seq (.seq (.reg [⟨.some 20,.move (.s 4),.none,0,[]⟩,⟨.some 21,.call (.c (.func 75 [] [])) [.s 20],.none,1,[]⟩] k) (.block 0 (.range (.s 21) [22,23] (.reg [⟨.some 7,.alloc [.int .i64 0,.int .i64 0,.int .i64 0,.int .i64 0,.int .i64 0,.int .i64 0,.int .i64 0,.int .i64 0],.none,0,[]⟩,⟨.none,.store 8 (.s 7) (.s 22),.none,1,[]⟩] k) (.block 1 (.seq (.draw [⟨.some 24,.load (.s 6),.none,0,[]⟩,⟨.some 25,.sliceArr 4 2 (.s 7) .none .none,.none,1,[]⟩,⟨.some 26,.copy 2 (.s 24) (.s 25),.none,2,[0,1]⟩] k) (.exit 0)))))) (.seq (.reg [⟨.some 27,.load (.s 6),.none,0,[]⟩,⟨.some 2,.move (.s 27),.none,1,[]⟩,⟨.some 3,.move (.c (.int .i64 0)),.none,2,[]⟩] k) .ret)))))),res := [.slot 2,.slot 3]}
def c29 : AFunc :=
  let k:List Nat:=[0,1,4,5,6,18]
  {nt := 31,body := (.seq (.reg [⟨.some 4,.move (.c (.bool false)),.none,0,[]⟩] k) (.seq (.reg [⟨.some 7,.move (.s 0),.none,0,[]⟩,⟨.some 8,.len false (.s 7),.none,1,[]⟩,⟨.some 9,.move (.s 1),.none,2,[]⟩,⟨.some 10,.len false (.s 9),.none,3,[]⟩,⟨.some 11,.bin .eql (.s 8) (.s 10),.none,4,[]⟩,⟨.some 5,.move (.s 11),.none,5,[]⟩] k) (.seq (.seq (.reg [⟨.some 6,.move (.c (.int .i64 0)),.none,0,[]⟩] k) (.block 0 (.loop (.seq (.seq (.reg [⟨.some 12,.move (.s 5),.none,0,[]⟩,⟨.some 13,.move (.s 12),.none,1,[]⟩,⟨.some 14,.move (.s 6),.some (13,true),2,[]⟩,⟨.some 15,.move (.s 0),.some (13,true),3,[]⟩,⟨.some 16,.len false (.s 15),.some (13,true),4,[]⟩,⟨.some 17,.bin .lss (.s 14) (.s 16),.some (13,true),5,[]⟩,⟨.some 18,.pick (.s 13) (.s 17) (.c (.bool false)),.none,6,[]⟩] k) (.cond (.s 18) .skip (.exit 0))) (.seq (.block 1 (.draw [⟨.some 21,.move (.s 0),.none,0,[]⟩,⟨.some 22,.move (.s 6),.none,1,[]⟩,⟨.some 23,.idxSl 2 (.s 21) (.s 22),.none,2,[0,1]⟩,⟨.some 24,.loadN 2 (.s 23),.none,3,[0,1,2]⟩,⟨.some 25,.move (.s 1),.none,4,[]⟩,⟨.some 26,.move (.s 6),.none,5,[]⟩,⟨.some 27,.idxSl 2 (.s 25) (.s 26),.none,6,[4,5]⟩,⟨.some 28,.loadN 2 (.s 27),.none,7,[4,5,6]⟩,⟨.some 29,.eqFlat true [.i,.i] false (.s 24) (.s 28),.none,8,[0,1,2,3,4,5,6,7]⟩,⟨.some 5,.move (.s 29),.none,9,[0,1,2,3,4,5,6,7,8]⟩] k)) (.reg [⟨.some 19,.move (.s 6),.none,0,[]⟩,⟨.some 20,.bin .add (.s 19) (.c (.int .i64 1)),.none,1,[]⟩,⟨.some 6,.move (.s 20),.none,2,[]⟩] k)))))) (.seq (.reg [⟨.some 30,.move (.s 5),.none,0,[]⟩,⟨.some 4,.move (.s 30),.none,1,[]⟩] k) .ret)))),res := [.slot 4]}
def c30 : AFunc :=
  let k:List Nat:=[0,1,2,3,4,5,6,7,8,10,11,12,13,20,23,25,26,31,32,33,55,56,57,58,74,85]
  {nt := 88,body := (.seq (.reg [⟨.some 1,.box (.s 0),.none,0,[]⟩,⟨.some 2,.move (.c (.int .i64 0)),.none,1,[]⟩,⟨.some 3,.move (.c (.int .i64 0)),.none,2,[]⟩,⟨.some 4,.move (.c (.int .i64 0)),.none,3,[]⟩] k) (.seq (.reg [⟨.some 15,.loadN 6 (.s 1),.none,0,[]⟩,⟨.some 16,.call (.c (.func 61 [] [])) [.s 15,.c .nilslice],.none,1,[]⟩,⟨.some 14,.move (.s 16),.none,2,[]⟩,⟨.some 17,.extract 0 (.s 14),.none,3,[]⟩,⟨.some 18,.extract 1 (.s 14),.none,4,[]⟩,⟨.some 5,.move (.s 17),.none,5,[]⟩,⟨.some 4,.move (.s 18),.none,6,[]⟩] k) (.seq (.seq (.reg [⟨.some 19,.move (.s 4),.none,0,[]⟩,⟨.some 20,.bin .neq (.s 19) (.c (.int .i64 0)),.none,1,[]⟩] k) (.cond (.s 20) (.seq (.reg [⟨.some 21,.move (.s 4),.none,0,[]⟩,⟨.some 2,.move (.c (.int .i64 0)),.none,1,[]⟩,⟨.some 3,.move (.c (.int .i64 0)),.none,2,[]⟩,⟨.some 4,.move (.s 21),.none,3,[]⟩] k) .ret) .skip)) (.seq (.reg [⟨.some 6,.alloc [.int .i64 0,.int .i64 0,.int .i64 0,.int .i64 0,.int .i64 0,.int .i64 0,.int .i64 0,.int .i64 0],.none,0,[]⟩,⟨.some 7,.alloc [.int .i64 0,.int .i64 0,.int .i64 0,.int .i64 0,.int .i64 0,.int .i64 0,.int .i64 0,.int .i64 0],.none,1,[]⟩] k) (.seq (.reg [⟨.some 8,.alloc [.bool false],.none,0,[]⟩,⟨.none,.store 1 (.s 8) (.c (.bool true)),.none,1,[]⟩] k) (.seq (.seq (.reg [⟨.some 22,.move (.s 5),.none,0,[]⟩,⟨.some 23,.call (.c (.func 75 [] [])) [.s 22],.none,1,[]⟩] k) (.block 0 (.range (.s 23) [24,25] (.reg [⟨.some 10,.alloc [.int .i64 0,.int .i64 0,.int .i64 0,.int .i64 0,.int .i64 0,.int .i64 0,.int .i64 0,.int .i64 0],.none,0,[]⟩,⟨.none,.store 8 (.s 10) (.s 25),.none,1,[]⟩] k) (.block 1 (.seq (.seq (.reg [⟨.some 26,.load (.s 8),.none,0,[]⟩] k) (.cond (.s 26) (.draw [⟨.some 27,.loadN 8 (.s 10),.none,0,[]⟩,⟨.some 28,.loadN 8 (.s 10),.none,1,[]⟩,⟨.none,.store 8 (.s 6) (.s 27),.none,2,[0]⟩,⟨.none,.store 8 (.s 7) (.s 28),.none,3,[0,1,2]⟩,⟨.none,.store 1 (.s 8) (.c (.bool false)),.none,4,[0,1,2,3]⟩] k) .skip)) (.seq (.seq (.reg [⟨.some 29,.loadN 8 (.s 10),.none,0,[]⟩,⟨.some 30,.loadN 8 (.s 6),.none,1,[]⟩,⟨.some
    31,.eqFlat true [.i,.i,.i,.i,.i,.i,.i,.i] false (.s 29) (.s 30),.none,2,[]⟩] k) (.cond (.s 31) (.exit 1) .skip)) (.seq (.reg [⟨.some 32,.move (.c (.int .i64 0)),.none,0,[]⟩] k) (.block 2 (.loop (.seq (.reg [⟨.some 33,.bin .lss (.s 32) (.c (.int .i64 8)),.none,0,[]⟩] k) (.seq (.cond (.s 33) .skip (.exit 2)) (.seq (.block 3 (.seq (.reg [⟨.some 34,.move (.s 32),.none,0,[]⟩,⟨.some 11,.move (.s 34),.none,1,[]⟩] k) (.draw [⟨.some 35,.move (.s 11),.none,0,[]⟩,⟨.some 36,.move (.s 11),.none,1,[]⟩,⟨.some 37,.move (.s 11),.none,2,[]⟩,⟨.some 38,.idxArr 8 1 (.s 6) (.s 37),.none,3,[2]⟩,⟨.some 39,.load (.s 38),.none,4,[2,3]⟩,⟨.some 40,.move (.s 11),.none,5,[]⟩,⟨.some 41,.idxArr 8 1 (.s 10) (.s 40),.none,6,[5]⟩,⟨.some 42,.load (.s 41),.none,7,[5,6]⟩,⟨.some 43,.minInt (.s 39) [.s 42],.none,8,[2,3,4,5,6,7]⟩,⟨.some 44,.move (.s 11),.none,9,[]⟩,⟨.some 45,.idxArr 8 1 (.s 7) (.s 44),.none,10,[9]⟩,⟨.some 46,.load (.s 45),.none,11,[9,10]⟩,⟨.some 47,.move (.s 11),.none,12,[]⟩,⟨.some 48,.idxArr 8 1 (.s 10) (.s 47),.none,13,[12]⟩,⟨.some 49,.load (.s 48),.none,14,[12,13]⟩,⟨.some 50,.maxInt (.s 46) [.s 49],.none,15,[9,10,11,12,13,14]⟩,⟨.some 51,.idxArr 8 1 (.s 6) (.s 35),.none,16,[0,2,3,4,5,6,7,8]⟩,⟨.none,.store 1 (.s 51) (.s 43),.none,17,[0,2,3,4,5,6,7,8,16]⟩,⟨.some 52,.idxArr 8 1 (.s 7) (.s 36),.none,18,[0,1,2,3,4,5,6,7,8,9,10,11,12,13,14,15,16,17]⟩,⟨.none,.store 1 (.s 52) (.s 50),.none,19,[0,1,2,3,4,5,6,7,8,9,10,11,12,13,14,15,16,17,18]⟩] k))) (.reg [⟨.some 53,.bin .add (.s 32) (.c (.int .i64 1)),.none,0,[]⟩,⟨.some 32,.move (.s 53),.none,1,[]⟩] k))))))))))))) (.seq (.seq (.reg [⟨.some 54,.off 0 (.s 1),.none,0,[]⟩,⟨.some 55,.load (.s 54),.none,1,[]⟩,⟨.some 56,.len false (.s 55),.none,2,[]⟩,⟨.some 57,.move (.c (.int .i64 0)),.none,3,[]⟩] k) (.block 4 (.loop (.seq (.reg [⟨.some 58,.bin .lss (.s 57) (.s 56),.none,0,[]⟩] k) (.seq (.cond (.s 58) .skip (.exit 4)) (.seq (.block 5 (.seq (.reg [⟨.some 59,.move (.s 57),.none,0,[]⟩,⟨.some 60,.idxSl 1 (.s 55) (.s 57),.none,1,[]⟩,⟨.some 61,.load (.s
    60),.none,2,[]⟩,⟨.some 12,.move (.s 59),.none,3,[]⟩,⟨.some 13,.move (.s 61),.none,4,[]⟩] k) (.seq (.draw [⟨.some 62,.move (.s 13),.none,0,[]⟩,⟨.some 63,.un .not (.s 62),.none,1,[0]⟩,⟨.some 64,.move (.s 63),.none,2,[0,1]⟩,⟨.some 65,.move (.s 12),.some (64,true),3,[0,1,2]⟩,⟨.some 66,.idxArr 8 1 (.s 7) (.s 65),.some (64,true),4,[0,1,2,3]⟩,⟨.some 67,.load (.s 66),.some (64,true),5,[0,1,2,3,4]⟩,⟨.some 68,.move (.s 12),.some (64,true),6,[0,1,2]⟩,⟨.some 69,.idxArr 8 1 (.s 6) (.s 68),.some (64,true),7,[0,1,2,6]⟩,⟨.some 70,.load (.s 69),.some (64,true),8,[0,1,2,6,7]⟩,⟨.some 71,.bin .sub (.s 67) (.s 70),.some (64,true),9,[0,1,2,3,4,5,6,7,8]⟩,⟨.some 72,.move (.s 3),.some (64,true),10,[0,1,2]⟩,⟨.some 73,.bin .gtr (.s 71) (.s 72),.some (64,true),11,[0,1,2,3,4,5,6,7,8,9,10]⟩,⟨.some 74,.pick (.s 64) (.s 73) (.c (.bool false)),.none,12,[0,1,2,3,4,5,6,7,8,9,10,11]⟩] k) (.cond (.s 74) (.draw [⟨.some 75,.move (.s 12),.none,0,[]⟩,⟨.some 76,.move (.s 12),.none,1,[]⟩,⟨.some 77,.idxArr 8 1 (.s 7) (.s 76),.none,2,[1]⟩,⟨.some 78,.load (.s 77),.none,3,[1,2]⟩,⟨.some 79,.move (.s 12),.none,4,[]⟩,⟨.some 80,.idxArr 8 1 (.s 6) (.s 79),.none,5,[4]⟩,⟨.some 81,.load (.s 80),.none,6,[4,5]⟩,⟨.some 82,.bin .sub (.s 78) (.s 81),.none,7,[1,2,3,4,5,6]⟩,⟨.some 2,.move (.s 75),.none,8,[0]⟩,⟨.some 3,.move (.s 82),.none,9,[0,1,2,3,4,5,6,7,8]⟩] k) .skip)))) (.reg [⟨.some 83,.bin .add (.s 57) (.c (.int .i64 1)),.none,0,[]⟩,⟨.some 57,.move (.s 83),.none,1,[]⟩] k))))))) (.seq (.seq (.reg [⟨.some 84,.move (.s 3),.none,0,[]⟩,⟨.some 85,.bin .eql (.s 84) (.c (.int .i64 0)),.none,1,[]⟩] k) (.cond (.s 85) (.seq (.reg [⟨.some 2,.move (.c (.int .i64 0)),.none,0,[]⟩,⟨.some 3,.move (.c (.int .i64 0)),.none,1,[]⟩,⟨.some 4,.move (.c (.int .i64 9)),.none,2,[]⟩] k) .ret) .skip)) (.seq (.reg [⟨.some 86,.move (.s 2),.none,0,[]⟩,⟨.some 87,.move (.s 3),.none,1,[]⟩,⟨.some 2,.move (.s 86),.none,2,[]⟩,⟨.some 3,.move (.s 87),.none,3,[]⟩,⟨.some 4,.move (.c (.int .i64 0)),.none,4,[]⟩] k) .ret))))))))),res := [.slot 2,.slot 3,.slot
    4]}
def c32 : AFunc :=
  let k:List Nat:=[0,1,2,3,4,5,6,7,15,20,21,22,26,27,28,34,60,64,68]
  {nt := 70,body := (.seq (.reg [⟨.some 1,.box (.s 0),.none,0,[]⟩,⟨.some 2,.move (.c .nilslice),.none,1,[]⟩,⟨.some 3,.move (.c (.int .i64 0)),.none,2,[]⟩] k) (.seq (.seq (.reg [⟨.some 9,.loadN 6 (.s 1),.none,0,[]⟩,⟨.some 10,.call (.c (.func 16 [] [])) [.s 9],.none,1,[]⟩,⟨.some 8,.move (.s 10),.none,2,[]⟩,⟨.some 11,.extract 0 (.s 8),.none,3,[]⟩,⟨.some 12,.extract 1 (.s 8),.none,4,[]⟩,⟨.some 13,.extract 2 (.s 8),.none,5,[]⟩,⟨.some 3,.move (.s 13),.none,6,[]⟩] k) (.seq (.reg [⟨.some 14,.move (.s 3),.none,0,[]⟩,⟨.some 15,.bin .neq (.s 14) (.c (.int .i64 0)),.none,1,[]⟩] k) (.cond (.s 15) (.seq (.reg [⟨.some 16,.move (.s 3),.none,0,[]⟩,⟨.some 2,.move (.c .nilslice),.none,1,[]⟩,⟨.some 3,.move (.s 16),.none,2,[]⟩] k) .ret) .skip))) (.seq (.reg [⟨.some 4,.move (.c (.bool false)),.none,0,[]⟩] k) (.seq (.seq (.reg [⟨.some 17,.off 5 (.s 1),.none,0,[]⟩,⟨.some 18,.load (.s 17),.none,1,[]⟩,⟨.some 19,.len false (.s 18),.none,2,[]⟩,⟨.some 20,.bin .shl (.c (.int .i64 1)) (.s 19),.none,3,[]⟩,⟨.some 21,.move (.c (.int .i64 0)),.none,4,[]⟩] k) (.block 0 (.loop (.seq (.reg [⟨.some 22,.bin .lss (.s 21) (.s 20),.none,0,[]⟩] k) (.seq (.cond (.s 22) .skip (.exit 0)) (.seq (.block 1 (.seq (.reg [⟨.some 23,.move (.s 21),.none,0,[]⟩,⟨.some 5,.move (.s 23),.none,1,[]⟩] k) (.seq (.reg [⟨.some 6,.move (.c .nilslice),.none,0,[]⟩] k) (.seq (.seq (.reg [⟨.some 24,.off 5 (.s 1),.none,0,[]⟩,⟨.some 25,.load (.s 24),.none,1,[]⟩,⟨.some 26,.len false (.s 25),.none,2,[]⟩,⟨.some 27,.move (.c (.int .i64 0)),.none,3,[]⟩] k) (.block 2 (.loop (.seq (.reg [⟨.some 28,.bin .lss (.s 27) (.s 26),.none,0,[]⟩] k) (.seq (.cond (.s 28) .skip (.exit 2)) (.seq (.block 3 (.seq (.reg [⟨.some 29,.move (.s 27),.none,0,[]⟩,⟨.some 7,.move (.s 29),.none,1,[]⟩] k) (.seq (.reg [⟨.some 30,.move (.s 5),.none,0,[]⟩,⟨.some 31,.move (.s 7),.none,1,[]⟩,⟨.some 32,.bin .shr (.s 30) (.s 31),.none,2,[]⟩,⟨.some 33,.bin .and (.s 32) (.c (.int .i64 1)),.none,3,[]⟩,⟨.some 34,.bin .eql (.s 33) (.c (.int .i64 1)),.none,4,[]⟩] k) (.cond (.s 34)
    (.reg [⟨.some 35,.move (.s 6),.none,0,[]⟩,⟨.some 36,.move (.s 7),.none,1,[]⟩,⟨.some 37,.mkslice 1 1 [.int .i64 0] [(0,(1,(.s 36)))],.none,2,[]⟩,⟨.some 38,.append 1 8 (.s 35) (.s 37),.none,3,[]⟩,⟨.some 6,.move (.s 38),.none,4,[]⟩] k) .skip)))) (.reg [⟨.some 39,.bin .add (.s 27) (.c (.int .i64 1)),.none,0,[]⟩,⟨.some 27,.move (.s 39),.none,1,[]⟩] k))))))) (.seq (.seq (.reg [⟨.some 40,.move (.s 4),.none,0,[]⟩,⟨.some 41,.move (.s 40),.none,1,[]⟩,⟨.some 42,.move (.s 6),.some (41,true),2,[]⟩,⟨.some 43,.len false (.s 42),.some (41,true),3,[]⟩,⟨.some 44,.move (.s 2),.some (41,true),4,[]⟩,⟨.some 45,.len false (.s 44),.some (41,true),5,[]⟩,⟨.some 46,.bin .gtr (.s 43) (.s 45),.some (41,true),6,[]⟩,⟨.some 47,.move (.s 46),.some (41,true),7,[]⟩,⟨.some 48,.move (.s 6),.some (47,false),8,[]⟩,⟨.some 49,.len false (.s 48),.some (47,false),9,[]⟩,⟨.some 50,.move (.s 2),.some (47,false),10,[]⟩,⟨.some 51,.len false (.s 50),.some (47,false),11,[]⟩,⟨.some 52,.bin .eql (.s 49) (.s 51),.some (47,false),12,[]⟩,⟨.some 53,.move (.s 52),.some (47,false),13,[]⟩,⟨.some 54,.move (.s 6),.some (53,true),14,[]⟩,⟨.some 55,.move (.s 2),.some (53,true),15,[]⟩,⟨.some 56,.call (.c (.func 76 [] [])) [.s 54,.s 55],.some (53,true),16,[]⟩,⟨.some 57,.bin .gtr (.s 56) (.c (.int .i64 0)),.some (53,true),17,[]⟩,⟨.some 58,.pick (.s 53) (.s 57) (.c (.bool false)),.some (47,false),18,[]⟩,⟨.some 59,.pick (.s 47) (.c (.bool true)) (.s 58),.some (41,true),19,[]⟩,⟨.some 60,.pick (.s 41) (.s 59) (.c (.bool false)),.none,20,[]⟩] k) (.cond (.s 60) (.exit 1) .skip)) (.seq (.reg [⟨.some 61,.loadN 6 (.s 1),.none,0,[]⟩,⟨.some 62,.move (.s 5),.none,1,[]⟩,⟨.some 63,.call (.c (.func 77 [] [])) [.s 61,.s 62],.none,2,[]⟩,⟨.some 64,.call (.c (.func 78 [] [])) [.s 63],.none,3,[]⟩] k) (.cond (.s 64) (.reg [⟨.some 65,.move (.s 6),.none,0,[]⟩,⟨.some 2,.move (.s 65),.none,1,[]⟩,⟨.some 4,.move (.c (.bool true)),.none,2,[]⟩] k) .skip))))))) (.reg [⟨.some 66,.bin .add (.s 21) (.c (.int .i64 1)),.none,0,[]⟩,⟨.some 21,.move (.s
    66),.none,1,[]⟩] k))))))) (.seq (.seq (.reg [⟨.some 67,.move (.s 4),.none,0,[]⟩,⟨.some 68,.un .not (.s 67),.none,1,[]⟩] k) (.cond (.s 68) (.seq (.reg [⟨.some 2,.move (.c .nilslice),.none,0,[]⟩,⟨.some 3,.move (.c (.int .i64 8)),.none,1,[]⟩] k) .ret) .skip)) (.seq (.reg [⟨.some 69,.move (.s 2),.none,0,[]⟩,⟨.some 2,.move (.s 69),.none,1,[]⟩,⟨.some 3,.move (.c (.int .i64 0)),.none,2,[]⟩] k) .ret)))))),res := [.slot 2,.slot 3]}
def c34 : AFunc :=
  let k:List Nat:=[0,1,4,5,6,18]
  {nt := 31,body := (.seq (.reg [⟨.some 4,.move (.c (.bool false)),.none,0,[]⟩] k) (.seq (.reg [⟨.some 7,.move (.s 0),.none,0,[]⟩,⟨.some 8,.len false (.s 7),.none,1,[]⟩,⟨.some 9,.move (.s 1),.none,2,[]⟩,⟨.some 10,.len false (.s 9),.none,3,[]⟩,⟨.some 11,.bin .eql (.s 8) (.s 10),.none,4,[]⟩,⟨.some 5,.move (.s 11),.none,5,[]⟩] k) (.seq (.seq (.reg [⟨.some 6,.move (.c (.int .i64 0)),.none,0,[]⟩] k) (.block 0 (.loop (.seq (.seq (.reg [⟨.some 12,.move (.s 5),.none,0,[]⟩,⟨.some 13,.move (.s 12),.none,1,[]⟩,⟨.some 14,.move (.s 6),.some (13,true),2,[]⟩,⟨.some 15,.move (.s 0),.some (13,true),3,[]⟩,⟨.some 16,.len false (.s 15),.some (13,true),4,[]⟩,⟨.some 17,.bin .lss (.s 14) (.s 16),.some (13,true),5,[]⟩,⟨.some 18,.pick (.s 13) (.s 17) (.c (.bool false)),.none,6,[]⟩] k) (.cond (.s 18) .skip (.exit 0))) (.seq (.block 1 (.draw [⟨.some 21,.move (.s 0),.none,0,[]⟩,⟨.some 22,.move (.s 6),.none,1,[]⟩,⟨.some 23,.idxSl 1 (.s 21) (.s 22),.none,2,[0,1]⟩,⟨.some 24,.load (.s 23),.none,3,[0,1,2]⟩,⟨.some 25,.move (.s 1),.none,4,[]⟩,⟨.some 26,.move (.s 6),.none,5,[]⟩,⟨.some 27,.idxSl 1 (.s 25) (.s 26),.none,6,[4,5]⟩,⟨.some 28,.load (.s 27),.none,7,[4,5,6]⟩,⟨.some 29,.bin .eql (.s 24) (.s 28),.none,8,[0,1,2,3,4,5,6,7]⟩,⟨.some 5,.move (.s 29),.none,9,[0,1,2,3,4,5,6,7,8]⟩] k)) (.reg [⟨.some 19,.move (.s 6),.none,0,[]⟩,⟨.some 20,.bin .add (.s 19) (.c (.int .i64 1)),.none,1,[]⟩,⟨.some 6,.move (.s 20),.none,2,[]⟩] k)))))) (.seq (.reg [⟨.some 30,.move (.s 5),.none,0,[]⟩,⟨.some 4,.move (.s 30),.none,1,[]⟩] k) .ret)))),res := [.slot 4]}
def c35 : AFunc :=
  let k:List Nat:=[0,1,4,5,11,20]
  {nt := 31,body := (.seq (.reg [⟨.some 4,.alloc [.nilslice,.int .i64 0,.int .i64 0,.nilslice,.bool false,.nilslice],.none,0,[]⟩] k) (.seq (.reg [⟨.some 6,.mkslice 8 1 [.bool false,.bool false,.bool false,.bool false,.bool false,.bool false,.bool false,.bool false] [(0,(1,(.c (.bool true)))),(1,(1,(.c (.bool false)))),(2,(1,(.c (.bool false)))),(3,(1,(.c (.bool true)))),(4,(1,(.c (.bool false)))),(5,(1,(.c (.bool false)))),(6,(1,(.c (.bool false)))),(7,(1,(.c (.bool true))))],.none,0,[]⟩,⟨.some 7,.call (.c (.func 36 [] [])) [.c (.int .i64 3),.c (.int .i64 5)],.none,1,[]⟩,⟨.some 8,.mkslice 2 1 [.int .i64 0,.int .i64 0] [(0,(1,(.c (.int .i64 8)))),(1,(1,(.c (.int .i64 9))))],.none,2,[]⟩,⟨.some 9,.build [.nilslice,.int .i64 0,.int .i64 0,.nilslice,.bool false,.nilslice] [(0,(1,(.s 6))),(1,(2,(.s 7))),(3,(1,(.s 8))),(4,(1,(.c (.bool true))))],.none,3,[]⟩,⟨.some 5,.alloc [.nilslice,.int .i64 0,.int .i64 0,.nilslice,.bool false,.nilslice],.none,4,[]⟩,⟨.none,.store 6 (.s 5) (.s 9),.none,5,[]⟩] k) (.seq (.seq (.reg [⟨.some 10,.move (.s 0),.none,0,[]⟩,⟨.some 11,.bin .geq (.s 10) (.c (.int .i64 0)),.none,1,[]⟩] k) (.cond (.s 11) (.reg [⟨.some 12,.off 5 (.s 5),.none,0,[]⟩,⟨.some 13,.load (.s 12),.none,1,[]⟩,⟨.some 14,.move (.s 0),.none,2,[]⟩,⟨.some 15,.build [.int .i64 0,.int .i64 0] [(0,(1,(.c (.int .i64 4)))),(1,(1,(.s 14)))],.none,3,[]⟩,⟨.some 16,.mkslice 1 2 [.int .i64 0,.int .i64 0] [(0,(2,(.s 15)))],.none,4,[]⟩,⟨.some 17,.append 2 16 (.s 13) (.s 16),.none,5,[]⟩,⟨.some 18,.off 5 (.s 5),.none,6,[]⟩,⟨.none,.store 1 (.s 18) (.s 17),.none,7,[]⟩] k) .skip)) (.seq (.seq (.reg [⟨.some 19,.move (.s 1),.none,0,[]⟩,⟨.some 20,.bin .geq (.s 19) (.c (.int .i64 0)),.none,1,[]⟩] k) (.cond (.s 20) (.reg [⟨.some 21,.mkslice 0 2 [] [],.none,0,[]⟩,⟨.some 22,.off 5 (.s 5),.none,1,[]⟩,⟨.some 23,.load (.s 22),.none,2,[]⟩,⟨.some 24,.append 2 16 (.s 21) (.s 23),.none,3,[]⟩,⟨.some 25,.move (.s 1),.none,4,[]⟩,⟨.some 26,.build [.int .i64 0,.int .i64 0] [(0,(1,(.c (.int .i64 2)))),(1,(1,(.s
    25)))],.none,5,[]⟩,⟨.some 27,.mkslice 1 2 [.int .i64 0,.int .i64 0] [(0,(2,(.s 26)))],.none,6,[]⟩,⟨.some 28,.append 2 16 (.s 24) (.s 27),.none,7,[]⟩,⟨.some 29,.off 5 (.s 5),.none,8,[]⟩,⟨.none,.store 1 (.s 29) (.s 28),.none,9,[]⟩] k) .skip)) (.seq (.reg [⟨.some 30,.loadN 6 (.s 5),.none,0,[]⟩,⟨.none,.store 6 (.s 4) (.s 30),.none,1,[]⟩] k) .ret))))),res := [.cellN 6 4]}
def c36 : AFunc :=
  {nt := 8,body := (.seq (.reg [⟨.some 4,.alloc [.int .i64 0,.int .i64 0],.none,0,[]⟩] [0,1,4]) (.seq (.reg [⟨.some 5,.move (.s 0),.none,0,[]⟩,⟨.some 6,.move (.s 1),.none,1,[]⟩,⟨.some 7,.build [.int .i64 0,.int .i64 0] [(0,(1,(.s 5))),(1,(1,(.s 6)))],.none,2,[]⟩,⟨.none,.store 2 (.s 4) (.s 7),.none,3,[]⟩] [0,1,4]) .ret)),res := [.cellN 2 4]}
def c37 : AFunc :=
  let k:List Nat:=[0,1,2,5]
  {nt := 14,body := (.seq (.reg [⟨.some 1,.box (.s 0),.none,0,[]⟩,⟨.some 2,.move (.c (.bool false)),.none,1,[]⟩] k) (.seq (.reg [⟨.some 7,.loadN 6 (.s 1),.none,0,[]⟩,⟨.some 8,.call (.c (.func 17 [] [])) [.s 7],.none,1,[]⟩,⟨.some 6,.move (.s 8),.none,2,[]⟩,⟨.some 9,.extract 0 (.s 6),.none,3,[]⟩,⟨.some 10,.extract 1 (.s 6),.none,4,[]⟩,⟨.some 11,.extract 2 (.s 6),.none,5,[]⟩,⟨.some 3,.move (.s 9),.none,6,[]⟩,⟨.some 4,.move (.s 10),.none,7,[]⟩,⟨.some 5,.move (.s 11),.none,8,[]⟩] k) (.seq (.reg [⟨.some 12,.move (.s 5),.none,0,[]⟩,⟨.some 13,.bin .eql (.s 12) (.c (.int .i64 0)),.none,1,[]⟩,⟨.some 2,.move (.s 13),.none,2,[]⟩] k) .ret))),res := [.slot 2]}
def c43 : AFunc :=
  let k:List Nat:=[0,1,4,6]
  {nt := 14,body := (.seq (.reg [⟨.some 4,.move (.c (.bool false)),.none,0,[]⟩] k) (.seq (.block 0 (.loop (.seq (.seq (.reg [⟨.some 5,.move (.s 1),.none,0,[]⟩,⟨.some 6,.bin .gtr (.s 5) (.c (.int .i64 0)),.none,1,[]⟩] k) (.cond (.s 6) .skip (.exit 0))) (.seq (.block 1 (.reg [⟨.some 9,.move (.s 0),.none,0,[]⟩,⟨.some 10,.bin .quo (.s 9) (.c (.int .i64 2)),.none,1,[]⟩,⟨.some 0,.move (.s 10),.none,2,[]⟩] k)) (.reg [⟨.some 7,.move (.s 1),.none,0,[]⟩,⟨.some 8,.bin .sub (.s 7) (.c (.int .i64 1)),.none,1,[]⟩,⟨.some 1,.move (.s 8),.none,2,[]⟩] k))))) (.seq (.reg [⟨.some 11,.move (.s 0),.none,0,[]⟩,⟨.some 12,.bin .rem (.s 11) (.c (.int .i64 2)),.none,1,[]⟩,⟨.some 13,.bin .eql (.s 12) (.c (.int .i64 1)),.none,2,[]⟩,⟨.some 4,.move (.s 13),.none,3,[]⟩] k) .ret))),res := [.slot 4]}
def c49 : AFunc :=
  {nt := 15,body := (.seq (.reg [⟨.some 6,.move (.c (.bool false)),.none,0,[]⟩] [0,1,2,6]) (.seq (.reg [⟨.some 7,.move (.s 1),.none,0,[]⟩,⟨.some 8,.move (.s 0),.none,1,[]⟩,⟨.some 9,.bin .leq (.s 7) (.s 8),.none,2,[]⟩,⟨.some 10,.move (.s 9),.none,3,[]⟩,⟨.some 11,.move (.s 0),.some (10,true),4,[]⟩,⟨.some 12,.move (.s 2),.some (10,true),5,[]⟩,⟨.some 13,.bin .leq (.s 11) (.s 12),.some (10,true),6,[]⟩,⟨.some 14,.pick (.s 10) (.s 13) (.c (.bool false)),.none,7,[]⟩,⟨.some 6,.move (.s 14),.none,8,[]⟩] [0,1,2,6]) .ret)),res := [.slot 6]}
def c51 : AFunc :=
  let k:List Nat:=[0,1,2,6,8,9,10,11,12,22]
  {nt := 24,body := (.seq (.reg [⟨.some 6,.move (.c (.bool false)),.none,0,[]⟩] k) (.seq (.seq (.reg [⟨.some 9,.move (.s 2),.none,0,[]⟩,⟨.some 10,.len false (.s 9),.none,1,[]⟩,⟨.some 11,.move (.c (.int .i64 0)),.none,2,[]⟩] k) (.block 0 (.loop (.seq (.reg [⟨.some 12,.bin .lss (.s 11) (.s 10),.none,0,[]⟩] k) (.seq (.cond (.s 12) .skip (.exit 0)) (.seq (.block 1 (.seq (.reg [⟨.some 13,.idxSl 1 (.s 9) (.s 11),.none,0,[]⟩,⟨.some 14,.load (.s 13),.none,1,[]⟩,⟨.some 8,.move (.s 14),.none,2,[]⟩] k) (.seq (.reg [⟨.some 15,.move (.s 8),.none,0,[]⟩,⟨.some 16,.move (.s 0),.none,1,[]⟩,⟨.some 17,.bin .lss (.s 15) (.s 16),.none,2,[]⟩,⟨.some 18,.move (.s 17),.none,3,[]⟩,⟨.some 19,.move (.s 8),.some (18,false),4,[]⟩,⟨.some 20,.move (.s 1),.some (18,false),5,[]⟩,⟨.some 21,.bin .gtr (.s 19) (.s 20),.some (18,false),6,[]⟩,⟨.some 22,.pick (.s 18) (.c (.bool true)) (.s 21),.none,7,[]⟩] k) (.cond (.s 22) (.seq (.reg [⟨.some 6,.move (.c (.bool true)),.none,0,[]⟩] k) .ret) .skip)))) (.reg [⟨.some 23,.bin .add (.s 11) (.c (.int .i64 1)),.none,0,[]⟩,⟨.some 11,.move (.s 23),.none,1,[]⟩] k))))))) (.seq (.reg [⟨.some 6,.move (.c (.bool false)),.none,0,[]⟩] k) .ret))),res := [.slot 6]}
def c52 : AFunc :=
  let k:List Nat:=[0,1,2,6,7,8,9,10,14,15,16,17,18,27]
  {nt := 31,body := (.seq (.reg [⟨.some 6,.move (.c (.int .i64 0)),.none,0,[]⟩,⟨.some 7,.move (.c (.int .i64 0)),.none,1,[]⟩] k) (.seq (.seq (.reg [⟨.some 11,.move (.s 0),.none,0,[]⟩,⟨.some 12,.len false (.s 11),.none,1,[]⟩,⟨.some 13,.move (.s 1),.none,2,[]⟩,⟨.some 14,.bin .gtr (.s 12) (.s 13),.none,3,[]⟩] k) (.cond (.s 14) (.seq (.reg [⟨.some 6,.move (.c (.int .i64 0)),.none,0,[]⟩,⟨.some 7,.move (.c (.int .i64 3)),.none,1,[]⟩] k) .ret) .skip)) (.seq (.seq (.reg [⟨.some 15,.move (.s 0),.none,0,[]⟩,⟨.some 16,.len false (.s 15),.none,1,[]⟩,⟨.some 17,.move (.c (.int .i64 0)),.none,2,[]⟩] k) (.block 0 (.loop (.seq (.reg [⟨.some 18,.bin .lss (.s 17) (.s 16),.none,0,[]⟩] k) (.seq (.cond (.s 18) .skip (.exit 0)) (.seq (.block 1 (.seq (.reg [⟨.some 19,.move (.s 17),.none,0,[]⟩,⟨.some 20,.idxSl 1 (.s 15) (.s 17),.none,1,[]⟩,⟨.some 21,.load (.s 20),.none,2,[]⟩,⟨.some 8,.move (.s 19),.none,3,[]⟩,⟨.some 9,.move (.s 21),.none,4,[]⟩] k) (.seq (.reg [⟨.some 22,.move (.s 2),.none,0,[]⟩,⟨.some 23,.move (.s 8),.none,1,[]⟩,⟨.some 24,.move (.s 9),.none,2,[]⟩,⟨.some 25,.call (.s 22) [.s 23,.s 24],.none,3,[]⟩,⟨.some 10,.move (.s 25),.none,4,[]⟩] k) (.seq (.reg [⟨.some 26,.move (.s 10),.none,0,[]⟩,⟨.some 27,.bin .neq (.s 26) (.c (.int .i64 0)),.none,1,[]⟩] k) (.cond (.s 27) (.seq (.reg [⟨.some 28,.move (.s 8),.none,0,[]⟩,⟨.some 29,.move (.s 10),.none,1,[]⟩,⟨.some 6,.move (.s 28),.none,2,[]⟩,⟨.some 7,.move (.s 29),.none,3,[]⟩] k) .ret) .skip))))) (.reg [⟨.some 30,.bin .add (.s 17) (.c (.int .i64 1)),.none,0,[]⟩,⟨.some 17,.move (.s 30),.none,1,[]⟩] k))))))) (.seq (.reg [⟨.some 6,.move (.c (.int .i64 0)),.none,0,[]⟩,⟨.some 7,.move (.c (.int .i64 0)),.none,1,[]⟩] k) .ret)))),res := [.slot 6,.slot 7]}
def c53 : AFunc :=
  let k:List Nat:=[1,2,3,6,7,8,14,16,17,18,19,31]
  {nt := 33,body := (.seq (.reg [⟨.some 6,.move (.c (.int .i64 0)),.none,0,[]⟩] k) (.seq (.seq (.reg [⟨.some 9,.load (.s 2),.none,0,[]⟩,⟨.some 10,.bin .shl (.c (.int .i64 1)) (.s 9),.none,1,[]⟩,⟨.some 11,.bin .sub (.s 10) (.c (.int .i64 1)),.none,2,[]⟩,⟨.some 12,.move (.s 1),.none,3,[]⟩,⟨.some 13,.mkslice 1 1 [.int .i64 0] [(0,(1,(.s 12)))],.none,4,[]⟩,⟨.some 14,.call (.c (.func 51 [] [])) [.c (.int .i64 1),.s 11,.s 13],.none,5,[]⟩] k) (.cond (.s 14) (.seq (.reg [⟨.some 6,.move (.c (.int .i64 4)),.none,0,[]⟩] k) .ret) .skip)) (.seq (.seq (.reg [⟨.some 15,.off 0 (.s 3),.none,0,[]⟩,⟨.some 16,.load (.s 15),.none,1,[]⟩,⟨.some 17,.len false (.s 16),.none,2,[]⟩,⟨.some 18,.move (.c (.int .i64 0)),.none,3,[]⟩] k) (.block 0 (.loop (.seq (.reg [⟨.some 19,.bin .lss (.s 18) (.s 17),.none,0,[]⟩] k) (.seq (.cond (.s 19) .skip (.exit 0)) (.seq (.block 1 (.seq (.reg [⟨.some 20,.move (.s 18),.none,0,[]⟩,⟨.some 21,.idxSl 1 (.s 16) (.s 18),.none,1,[]⟩,⟨.some 22,.load (.s 21),.none,2,[]⟩,⟨.some 7,.move (.s 20),.none,3,[]⟩,⟨.some 8,.move (.s 22),.none,4,[]⟩] k) (.seq (.reg [⟨.some 23,.move (.s 1),.none,0,[]⟩,⟨.some 24,.move (.s 7),.none,1,[]⟩,⟨.some 25,.bin .shr (.s 23) (.s 24),.none,2,[]⟩,⟨.some 26,.bin .and (.s 25) (.c (.int .i64 1)),.none,3,[]⟩,⟨.some 27,.bin .eql (.s 26) (.c (.int .i64 1)),.none,4,[]⟩,⟨.some 28,.move (.s 27),.none,5,[]⟩,⟨.some 29,.move (.s 8),.some (28,true),6,[]⟩,⟨.some 30,.un .not (.s 29),.some (28,true),7,[]⟩,⟨.some 31,.pick (.s 28) (.s 30) (.c (.bool false)),.none,8,[]⟩] k) (.cond (.s 31) (.seq (.reg [⟨.some 6,.move (.c (.int .i64 2)),.none,0,[]⟩] k) .ret) .skip)))) (.reg [⟨.some 32,.bin .add (.s 18) (.c (.int .i64 1)),.none,0,[]⟩,⟨.some 18,.move (.s 32),.none,1,[]⟩] k))))))) (.seq (.reg [⟨.some 6,.move (.c (.int .i64 0)),.none,0,[]⟩] k) .ret)))),res := [.slot 6]}
def c54 : AFunc :=
  let k:List Nat:=[0,1,2,6,7,8,9,10,14,15,16,17,18,27]
  {nt := 31,body := (.seq (.reg [⟨.some 6,.move (.c (.int .i64 0)),.none,0,[]⟩,⟨.some 7,.move (.c (.int .i64 0)),.none,1,[]⟩] k) (.seq (.seq (.reg [⟨.some 11,.move (.s 0),.none,0,[]⟩,⟨.some 12,.len false (.s 11),.none,1,[]⟩,⟨.some 13,.move (.s 1),.none,2,[]⟩,⟨.some 14,.bin .gtr (.s 12) (.s 13),.none,3,[]⟩] k) (.cond (.s 14) (.seq (.reg [⟨.some 6,.move (.c (.int .i64 0)),.none,0,[]⟩,⟨.some 7,.move (.c (.int .i64 3)),.none,1,[]⟩] k) .ret) .skip)) (.seq (.seq (.reg [⟨.some 15,.move (.s 0),.none,0,[]⟩,⟨.some 16,.len false (.s 15),.none,1,[]⟩,⟨.some 17,.move (.c (.int .i64 0)),.none,2,[]⟩] k) (.block 0 (.loop (.seq (.reg [⟨.some 18,.bin .lss (.s 17) (.s 16),.none,0,[]⟩] k) (.seq (.cond (.s 18) .skip (.exit 0)) (.seq (.block 1 (.seq (.reg [⟨.some 19,.move (.s 17),.none,0,[]⟩,⟨.some 20,.idxSl 2 (.s 15) (.s 17),.none,1,[]⟩,⟨.some 21,.loadN 2 (.s 20),.none,2,[]⟩,⟨.some 9,.alloc [.int .i64 0,.int .i64 0],.none,3,[]⟩,⟨.some 8,.move (.s 19),.none,4,[]⟩,⟨.none,.store 2 (.s 9) (.s 21),.none,5,[]⟩] k) (.seq (.reg [⟨.some 22,.move (.s 2),.none,0,[]⟩,⟨.some 23,.move (.s 8),.none,1,[]⟩,⟨.some 24,.loadN 2 (.s 9),.none,2,[]⟩,⟨.some 25,.call (.s 22) [.s 23,.s 24],.none,3,[]⟩,⟨.some 10,.move (.s 25),.none,4,[]⟩] k) (.seq (.reg [⟨.some 26,.move (.s 10),.none,0,[]⟩,⟨.some 27,.bin .neq (.s 26) (.c (.int .i64 0)),.none,1,[]⟩] k) (.cond (.s 27) (.seq (.reg [⟨.some 28,.move (.s 8),.none,0,[]⟩,⟨.some 29,.move (.s 10),.none,1,[]⟩,⟨.some 6,.move (.s 28),.none,2,[]⟩,⟨.some 7,.move (.s 29),.none,3,[]⟩] k) .ret) .skip))))) (.reg [⟨.some 30,.bin .add (.s 17) (.c (.int .i64 1)),.none,0,[]⟩,⟨.some 17,.move (.s 30),.none,1,[]⟩] k))))))) (.seq (.reg [⟨.some 6,.move (.c (.int .i64 0)),.none,0,[]⟩,⟨.some 7,.move (.c (.int .i64 0)),.none,1,[]⟩] k) .ret)))),res := [.slot 6,.slot 7]}
def c55 : AFunc :=
  let k:List Nat:=[0,1,2,3,5,6,7,14,21,28]
  {nt := 33,body := (.seq (.reg [⟨.some 5,.box (.s 1),.none,0,[]⟩,⟨.some 6,.move (.c (.int .i64 0)),.none,1,[]⟩] k) (.seq (.block 0 (.seq (.reg [⟨.some 8,.load (.s 2),.none,0,[]⟩,⟨.some 9,.bin .sub (.s 8) (.c (.int .i64 1)),.none,1,[]⟩,⟨.some 10,.off 0 (.s 5),.none,2,[]⟩,⟨.some 11,.load (.s 10),.none,3,[]⟩,⟨.some 12,.mkslice 1 1 [.int .i64 0] [(0,(1,(.s 11)))],.none,4,[]⟩,⟨.some 13,.call (.c (.func 51 [] [])) [.c (.int .i64 0),.s 9,.s 12],.none,5,[]⟩,⟨.some 7,.move (.s 13),.none,6,[]⟩] k) (.cond (.s 7) (.seq (.reg [⟨.some 6,.move (.c (.int .i64 4)),.none,0,[]⟩] k) .ret) (.seq (.reg [⟨.some 15,.off 0 (.s 3),.none,0,[]⟩,⟨.some 16,.load (.s 15),.none,1,[]⟩,⟨.some 17,.off 0 (.s 5),.none,2,[]⟩,⟨.some 18,.load (.s 17),.none,3,[]⟩,⟨.some 19,.idxSl 1 (.s 16) (.s 18),.none,4,[]⟩,⟨.some 20,.load (.s 19),.none,5,[]⟩,⟨.some 14,.move (.s 20),.none,6,[]⟩] k) (.cond (.s 14) (.seq (.reg [⟨.some 6,.move (.c (.int .i64 2)),.none,0,[]⟩] k) .ret) (.seq (.reg [⟨.some 22,.off 5 (.s 3),.none,0,[]⟩,⟨.some 23,.load (.s 22),.none,1,[]⟩,⟨.some 24,.move (.s 0),.none,2,[]⟩,⟨.some 25,.sliceSl 2 (.s 23) .none (.some (.s 24)),.none,3,[]⟩,⟨.some 26,.func 57 [] [.s 5],.none,4,[]⟩,⟨.some 27,.call (.c (.func 56 [] [])) [.s 25,.s 26],.none,5,[]⟩,⟨.some 21,.move (.s 27),.none,6,[]⟩] k) (.cond (.s 21) (.seq (.reg [⟨.some 6,.move (.c (.int .i64 5)),.none,0,[]⟩] k) .ret) (.seq (.reg [⟨.some 29,.off 1 (.s 5),.none,0,[]⟩,⟨.some 30,.load (.s 29),.none,1,[]⟩,⟨.some 31,.mkslice 1 1 [.int .i64 0] [(0,(1,(.s 30)))],.none,2,[]⟩,⟨.some 32,.call (.c (.func 51 [] [])) [.c (.int .i64 0),.c (.int .i64 4),.s 31],.none,3,[]⟩,⟨.some 28,.move (.s 32),.none,4,[]⟩] k) (.cond (.s 28) (.seq (.reg [⟨.some 6,.move (.c (.int .i64 7)),.none,0,[]⟩] k) .ret) .skip))))))))) (.seq (.reg [⟨.some 6,.move (.c (.int .i64 0)),.none,0,[]⟩] k) .ret))),res := [.slot 6]}
def c56 : AFunc :=
  {nt := 9,body := (.seq (.reg [⟨.some 4,.move (.c (.bool false)),.none,0,[]⟩] [0,1,4]) (.seq (.reg [⟨.some 5,.move (.s 0),.none,0,[]⟩,⟨.some 6,.move (.s 1),.none,1,[]⟩,⟨.some 7,.call (.c (.func 84 [] [])) [.s 5,.s 6],.none,2,[]⟩,⟨.some 8,.bin .geq (.s 7) (.c (.int .i64 0)),.none,3,[]⟩,⟨.some 4,.move (.s 8),.none,4,[]⟩] [0,1,4]) .ret)),res := [.slot 4]}
def c57 : AFunc :=
  {nt := 9,body := (.seq (.reg [⟨.some 2,.box (.s 0),.none,0,[]⟩,⟨.some 3,.move (.c (.bool false)),.none,1,[]⟩] [0,1,2,3]) (.seq (.reg [⟨.some 4,.off 0 (.s 2),.none,0,[]⟩,⟨.some 5,.load (.s 4),.none,1,[]⟩,⟨.some 6,.off 0 (.s 1),.none,2,[]⟩,⟨.some 7,.load (.s 6),.none,3,[]⟩,⟨.some 8,.bin .eql (.s 5) (.s 7),.none,4,[]⟩,⟨.some 3,.move (.s 8),.none,5,[]⟩] [0,1,2,3]) .ret)),res := [.slot 3]}
def c58 : AFunc :=
  let k:List Nat:=[0,1,2,3,6,7,22]
  {nt := 28,body := (.seq (.reg [⟨.some 3,.box (.s 0),.none,0,[]⟩,⟨.some 6,.move (.c (.int .i64 0)),.none,1,[]⟩] k) (.seq (.block 0 (.seq (.reg [⟨.some 8,.off 0 (.s 3),.none,0,[]⟩,⟨.some 9,.load (.s 8),.none,1,[]⟩,⟨.some 10,.move (.s 1),.none,2,[]⟩,⟨.some 11,.move (.s 2),.none,3,[]⟩,⟨.some 12,.call (.c (.func 49 [] [])) [.s 9,.s 10,.s 11],.none,4,[]⟩,⟨.some 13,.un .not (.s 12),.none,5,[]⟩,⟨.some 14,.move (.s 13),.none,6,[]⟩,⟨.some 15,.off 1 (.s 3),.some (14,false),7,[]⟩,⟨.some 16,.load (.s 15),.some (14,false),8,[]⟩,⟨.some 17,.move (.s 1),.some (14,false),9,[]⟩,⟨.some 18,.move (.s 2),.some (14,false),10,[]⟩,⟨.some 19,.call (.c (.func 49 [] [])) [.s 16,.s 17,.s 18],.some (14,false),11,[]⟩,⟨.some 20,.un .not (.s 19),.some (14,false),12,[]⟩,⟨.some 21,.pick (.s 14) (.c (.bool true)) (.s 20),.none,13,[]⟩,⟨.some 7,.move (.s 21),.none,14,[]⟩] k) (.cond (.s 7) (.seq (.reg [⟨.some 6,.move (.c (.int .i64 7)),.none,0,[]⟩] k) .ret) (.seq (.reg [⟨.some 23,.off 0 (.s 3),.none,0,[]⟩,⟨.some 24,.load (.s 23),.none,1,[]⟩,⟨.some 25,.off 1 (.s 3),.none,2,[]⟩,⟨.some 26,.load (.s 25),.none,3,[]⟩,⟨.some 27,.bin .gtr (.s 24) (.s 26),.none,4,[]⟩,⟨.some 22,.move (.s 27),.none,5,[]⟩] k) (.cond (.s 22) (.seq (.reg [⟨.some 6,.move (.c (.int .i64 2)),.none,0,[]⟩] k) .ret) .skip))))) (.seq (.reg [⟨.some 6,.move (.c (.int .i64 0)),.none,0,[]⟩] k) .ret))),res := [.slot 6]}
def c59 : AFunc :=
  let k:List Nat:=[0,1,2,4,5,12,17,30]
  {nt := 31,body := (.seq (.reg [⟨.some 2,.box (.s 0),.none,0,[]⟩,⟨.some 4,.move (.c (.int .i64 0)),.none,1,[]⟩] k) (.seq (.seq (.reg [⟨.some 6,.move (.s 1),.none,0,[]⟩,⟨.some 7,.off 0 (.s 2),.none,1,[]⟩,⟨.some 8,.load (.s 7),.none,2,[]⟩,⟨.some 9,.len false (.s 8),.none,3,[]⟩,⟨.some 10,.call (.c (.func 85 [] [])) [.s 9],.none,4,[]⟩,⟨.some 11,.call (.c (.func 49 [] [])) [.s 6,.c (.int .i64 1),.s 10],.none,5,[]⟩,⟨.some 12,.un .not (.s 11),.none,6,[]⟩] k) (.cond (.s 12) (.seq (.reg [⟨.some 4,.move (.c (.int .i64 4)),.none,0,[]⟩] k) .ret) .skip)) (.seq (.seq (.reg [⟨.some 5,.move (.c (.int .i64 0)),.none,0,[]⟩] k) (.block 0 (.loop (.seq (.seq (.reg [⟨.some 13,.move (.s 5),.none,0,[]⟩,⟨.some 14,.off 0 (.s 2),.none,1,[]⟩,⟨.some 15,.load (.s 14),.none,2,[]⟩,⟨.some 16,.len false (.s 15),.none,3,[]⟩,⟨.some 17,.bin .lss (.s 13) (.s 16),.none,4,[]⟩] k) (.cond (.s 17) .skip (.exit 0))) (.seq (.block 1 (.seq (.reg [⟨.some 20,.move (.s 1),.none,0,[]⟩,⟨.some 21,.move (.s 5),.none,1,[]⟩,⟨.some 22,.call (.c (.func 43 [] [])) [.s 20,.s 21],.none,2,[]⟩,⟨.some 23,.move (.s 22),.none,3,[]⟩,⟨.some 24,.off 0 (.s 2),.some (23,true),4,[]⟩,⟨.some 25,.load (.s 24),.some (23,true),5,[]⟩,⟨.some 26,.move (.s 5),.some (23,true),6,[]⟩,⟨.some 27,.idxSl 1 (.s 25) (.s 26),.some (23,true),7,[]⟩,⟨.some 28,.load (.s 27),.some (23,true),8,[]⟩,⟨.some 29,.un .not (.s 28),.some (23,true),9,[]⟩,⟨.some 30,.pick (.s 23) (.s 29) (.c (.bool false)),.none,10,[]⟩] k) (.cond (.s 30) (.seq (.reg [⟨.some 4,.move (.c (.int .i64 2)),.none,0,[]⟩] k) .ret) .skip))) (.reg [⟨.some 18,.move (.s 5),.none,0,[]⟩,⟨.some 19,.bin .add (.s 18) (.c (.int .i64 1)),.none,1,[]⟩,⟨.some 5,.move (.s 19),.none,2,[]⟩] k)))))) (.seq (.reg [⟨.some 4,.move (.c (.int .i64 0)),.none,0,[]⟩] k) .ret)))),res := [.slot 4]}
def c60 : AFunc :=
  let k:List Nat:=[0,1,2,4,5,6,19,25,28,39,43]
  {nt := 44,body := (.seq (.reg [⟨.some 2,.box (.s 0),.none,0,[]⟩,⟨.some 4,.move (.c (.int .i64 0)),.none,1,[]⟩] k) (.seq (.reg [⟨.some 7,.off 5 (.s 2),.none,0,[]⟩,⟨.some 8,.load (.s 7),.none,1,[]⟩,⟨.some 9,.move (.s 1),.none,2,[]⟩,⟨.some 10,.idxSl 2 (.s 8) (.s 9),.none,3,[]⟩,⟨.some 11,.loadN 2 (.s 10),.none,4,[]⟩,⟨.some 5,.alloc [.int .i64 0,.int .i64 0],.none,5,[]⟩,⟨.none,.store 2 (.s 5) (.s 11),.none,6,[]⟩] k) (.seq (.seq (.reg [⟨.some 12,.off 0 (.s 5),.none,0,[]⟩,⟨.some 13,.load (.s 12),.none,1,[]⟩,⟨.some 14,.off 0 (.s 2),.none,2,[]⟩,⟨.some 15,.load (.s 14),.none,3,[]⟩,⟨.some 16,.len false (.s 15),.none,4,[]⟩,⟨.some 17,.bin .sub (.s 16) (.c (.int .i64 1)),.none,5,[]⟩,⟨.some 18,.call (.c (.func 49 [] [])) [.s 13,.c (.int .i64 0),.s 17],.none,6,[]⟩,⟨.some 19,.un .not (.s 18),.none,7,[]⟩] k) (.cond (.s 19) (.seq (.reg [⟨.some 4,.move (.c (.int .i64 4)),.none,0,[]⟩] k) .ret) .skip)) (.seq (.seq (.reg [⟨.some 20,.off 0 (.s 2),.none,0,[]⟩,⟨.some 21,.load (.s 20),.none,1,[]⟩,⟨.some 22,.off 0 (.s 5),.none,2,[]⟩,⟨.some 23,.load (.s 22),.none,3,[]⟩,⟨.some 24,.idxSl 1 (.s 21) (.s 23),.none,4,[]⟩,⟨.some 25,.load (.s 24),.none,5,[]⟩] k) (.cond (.s 25) (.seq (.reg [⟨.some 4,.move (.c (.int .i64 2)),.none,0,[]⟩] k) .ret) .skip)) (.seq (.seq (.reg [⟨.some 6,.move (.c (.int .i64 0)),.none,0,[]⟩] k) (.block 0 (.loop (.seq (.seq (.reg [⟨.some 26,.move (.s 6),.none,0,[]⟩,⟨.some 27,.move (.s 1),.none,1,[]⟩,⟨.some 28,.bin .lss (.s 26) (.s 27),.none,2,[]⟩] k) (.cond (.s 28) .skip (.exit 0))) (.seq (.block 1 (.seq (.draw [⟨.some 31,.off 5 (.s 2),.none,0,[]⟩,⟨.some 32,.load (.s 31),.none,1,[0]⟩,⟨.some 33,.move (.s 6),.none,2,[]⟩,⟨.some 34,.idxSl 2 (.s 32) (.s 33),.none,3,[0,1,2]⟩,⟨.some 35,.off 0 (.s 34),.none,4,[0,1,2,3]⟩,⟨.some 36,.load (.s 35),.none,5,[0,1,2,3,4]⟩,⟨.some 37,.off 0 (.s 5),.none,6,[]⟩,⟨.some 38,.load (.s 37),.none,7,[6]⟩,⟨.some 39,.bin .eql (.s 36) (.s 38),.none,8,[0,1,2,3,4,5,6,7]⟩] k) (.cond (.s 39) (.seq (.reg [⟨.some 4,.move (.c (.int .i64 5)),.none,0,[]⟩] k)
    .ret) .skip))) (.reg [⟨.some 29,.move (.s 6),.none,0,[]⟩,⟨.some 30,.bin .add (.s 29) (.c (.int .i64 1)),.none,1,[]⟩,⟨.some 6,.move (.s 30),.none,2,[]⟩] k)))))) (.seq (.seq (.reg [⟨.some 40,.off 1 (.s 5),.none,0,[]⟩,⟨.some 41,.load (.s 40),.none,1,[]⟩,⟨.some 42,.call (.c (.func 49 [] [])) [.s 41,.c (.int .i64 0),.c (.int .i64 4)],.none,2,[]⟩,⟨.some 43,.un .not (.s 42),.none,3,[]⟩] k) (.cond (.s 43) (.seq (.reg [⟨.some 4,.move (.c (.int .i64 7)),.none,0,[]⟩] k) .ret) .skip)) (.seq (.reg [⟨.some 4,.move (.c (.int .i64 0)),.none,0,[]⟩] k) .ret))))))),res := [.slot 4]}
def c61 : AFunc :=
  let k:List Nat:=[0,1,2,4,5,8,9,10,18,24,38,43]
  {nt := 45,body := (.seq (.reg [⟨.some 2,.box (.s 0),.none,0,[]⟩,⟨.some 4,.move (.c .nilptr),.none,1,[]⟩,⟨.some 5,.move (.c (.int .i64 0)),.none,2,[]⟩] k) (.seq (.seq (.reg [⟨.some 12,.loadN 6 (.s 2),.none,0,[]⟩,⟨.some 13,.call (.c (.func 16 [] [])) [.s 12],.none,1,[]⟩,⟨.some 11,.move (.s 13),.none,2,[]⟩,⟨.some 14,.extract 0 (.s 11),.none,3,[]⟩,⟨.some 15,.extract 1 (.s 11),.none,4,[]⟩,⟨.some 16,.extract 2 (.s 11),.none,5,[]⟩,⟨.some 6,.move (.s 14),.none,6,[]⟩,⟨.some 7,.move (.s 15),.none,7,[]⟩,⟨.some 8,.move (.s 16),.none,8,[]⟩] k) (.seq (.reg [⟨.some 17,.move (.s 8),.none,0,[]⟩,⟨.some 18,.bin .neq (.s 17) (.c (.int .i64 0)),.none,1,[]⟩] k) (.cond (.s 18) (.seq (.reg [⟨.some 19,.move (.s 8),.none,0,[]⟩,⟨.some 4,.move (.c .nilptr),.none,1,[]⟩,⟨.some 5,.move (.s 19),.none,2,[]⟩] k) .ret) .skip))) (.seq (.seq (.reg [⟨.some 9,.move (.c (.int .i64 0)),.none,0,[]⟩] k) (.block 0 (.loop (.seq (.seq (.reg [⟨.some 20,.move (.s 9),.none,0,[]⟩,⟨.some 21,.bin .add (.s 20) (.c (.int .i64 1)),.none,1,[]⟩,⟨.some 22,.move (.s 1),.none,2,[]⟩,⟨.some 23,.len false (.s 22),.none,3,[]⟩,⟨.some 24,.bin .lss (.s 21) (.s 23),.none,4,[]⟩] k) (.cond (.s 24) .skip (.exit 0))) (.seq (.block 1 (.seq (.draw [⟨.some 27,.move (.s 1),.none,0,[]⟩,⟨.some 28,.move (.s 9),.none,1,[]⟩,⟨.some 29,.bin .add (.s 28) (.c (.int .i64 1)),.none,2,[1]⟩,⟨.some 30,.idxSl 1 (.s 27) (.s 29),.none,3,[0,1,2]⟩,⟨.some 31,.load (.s 30),.none,4,[0,1,2,3]⟩,⟨.some 32,.bin .sub (.s 31) (.c (.int .i64 1)),.none,5,[0,1,2,3,4]⟩,⟨.some 33,.move (.s 1),.none,6,[]⟩,⟨.some 34,.move (.s 9),.none,7,[]⟩,⟨.some 35,.idxSl 1 (.s 33) (.s 34),.none,8,[6,7]⟩,⟨.some 36,.load (.s 35),.none,9,[6,7,8]⟩,⟨.some 37,.mkslice 1 1 [.int .i64 0] [(0,(1,(.s 36)))],.none,10,[6,7,8,9]⟩,⟨.some 38,.call (.c (.func 51 [] [])) [.c (.int .i64 0),.s 32,.s 37],.none,11,[0,1,2,3,4,5,6,7,8,9,10]⟩] k) (.cond (.s 38) (.seq (.reg [⟨.some 4,.move (.c .nilptr),.none,0,[]⟩,⟨.some 5,.move (.c (.int .i64 4)),.none,1,[]⟩] k) .ret) .skip))) (.reg [⟨.some 25,.move (.s
    9),.none,0,[]⟩,⟨.some 26,.bin .add (.s 25) (.c (.int .i64 2)),.none,1,[]⟩,⟨.some 9,.move (.s 26),.none,2,[]⟩] k)))))) (.seq (.reg [⟨.some 39,.loadN 6 (.s 2),.none,0,[]⟩,⟨.some 40,.call (.c (.func 77 [] [])) [.s 39,.c (.int .i64 0)],.none,1,[]⟩,⟨.some 10,.move (.s 40),.none,2,[]⟩] k) (.seq (.seq (.reg [⟨.some 41,.move (.s 10),.none,0,[]⟩,⟨.some 42,.call (.c (.func 78 [] [])) [.s 41],.none,1,[]⟩,⟨.some 43,.un .not (.s 42),.none,2,[]⟩] k) (.cond (.s 43) (.seq (.reg [⟨.some 4,.move (.c .nilptr),.none,0,[]⟩,⟨.some 5,.move (.c (.int .i64 8)),.none,1,[]⟩] k) .ret) .skip)) (.seq (.reg [⟨.some 44,.move (.s 10),.none,0,[]⟩,⟨.some 4,.move (.s 44),.none,1,[]⟩,⟨.some 5,.move (.c (.int .i64 0)),.none,2,[]⟩] k) .ret)))))),res := [.slot 4,.slot 5]}
def c62 : AFunc :=
  let k:List Nat:=[0,1,3,4,5,6,7,9,10,17,20,21,24]
  {nt := 26,body := (.seq (.reg [⟨.some 3,.box (.s 1),.none,0,[]⟩,⟨.some 4,.move (.c (.int .i64 0)),.none,1,[]⟩] k) (.seq (.reg [⟨.some 5,.alloc [.int .i64 0],.none,0,[]⟩,⟨.some 6,.alloc [.int .i64 0],.none,1,[]⟩,⟨.none,.store 1 (.s 5) (.c (.int .i64 0)),.none,2,[]⟩,⟨.none,.store 1 (.s 6) (.c (.int .i64 0)),.none,3,[]⟩] k) (.seq (.seq (.reg [⟨.some 8,.move (.s 0),.none,0,[]⟩,⟨.some 9,.call (.c (.func 75 [] [])) [.s 8],.none,1,[]⟩] k) (.block 0 (.range (.s 9) [10,11] (.reg [⟨.some 7,.alloc [.int .i64 0,.int .i64 0,.int .i64 0,.int .i64 0,.int .i64 0,.int .i64 0,.int .i64 0,.int .i64 0],.none,0,[]⟩,⟨.none,.store 8 (.s 7) (.s 10),.none,1,[]⟩] k) (.block 1 (.seq (.reg [⟨.some 12,.load (.s 6),.none,0,[]⟩,⟨.some 13,.bin .add (.s 12) (.c (.int .i64 1)),.none,1,[]⟩,⟨.none,.store 1 (.s 6) (.s 13),.none,2,[]⟩] k) (.seq (.reg [⟨.some 14,.off 0 (.s 3),.none,0,[]⟩,⟨.some 15,.load (.s 14),.none,1,[]⟩,⟨.some 16,.loadN 8 (.s 7),.none,2,[]⟩,⟨.some 17,.call (.s 15) [.s 16],.none,3,[]⟩] k) (.cond (.s 17) (.reg [⟨.some 18,.load (.s 5),.none,0,[]⟩,⟨.some 19,.bin .add (.s 18) (.c (.int .i64 1)),.none,1,[]⟩,⟨.none,.store 1 (.s 5) (.s 19),.none,2,[]⟩] k) .skip))))))) (.seq (.seq (.reg [⟨.some 20,.load (.s 5),.none,0,[]⟩] k) (.block 2 (.seq (.reg [⟨.some 22,.load (.s 6),.none,0,[]⟩,⟨.some 23,.bin .eql (.s 20) (.s 22),.none,1,[]⟩,⟨.some 21,.move (.s 23),.none,2,[]⟩] k) (.cond (.s 21) (.seq (.reg [⟨.some 4,.move (.c (.int .i64 1)),.none,0,[]⟩] k) .ret) (.seq (.reg [⟨.some 25,.bin .eql (.s 20) (.c (.int .i64 0)),.none,0,[]⟩,⟨.some 24,.move (.s 25),.none,1,[]⟩] k) (.cond (.s 24) (.seq (.reg [⟨.some 4,.move (.c (.int .i64 2)),.none,0,[]⟩] k) .ret) .skip)))))) (.seq (.reg [⟨.some 4,.move (.c (.int .i64 0)),.none,0,[]⟩] k) .ret))))),res := [.slot 4]}
def c63 : AFunc :=
  {nt := 17,body := (.seq (.reg [⟨.some 3,.box (.s 0),.none,0,[]⟩,⟨.some 4,.move (.c (.bool false)),.none,1,[]⟩] [0,1,2,3,4]) (.seq (.draw [⟨.some 5,.load (.s 1),.none,0,[]⟩,⟨.some 6,.idxArr 4 2 (.s 3) (.s 5),.none,1,[0]⟩,⟨.some 7,.off 0 (.s 6),.none,2,[0,1]⟩,⟨.some 8,.load (.s 7),.none,3,[0,1,2]⟩,⟨.some 9,.load (.s 1),.none,4,[]⟩,⟨.some 10,.idxArr 4 2 (.s 3) (.s 9),.none,5,[4]⟩,⟨.some 11,.off 1 (.s 10),.none,6,[4,5]⟩,⟨.some 12,.load (.s 11),.none,7,[4,5,6]⟩,⟨.some 13,.load (.s 2),.none,8,[]⟩,⟨.some 14,.mkslice 1 1 [.int .i64 0] [(0,(1,(.s 13)))],.none,9,[8]⟩,⟨.some 15,.call (.c (.func 51 [] [])) [.s 8,.s 12,.s 14],.none,10,[0,1,2,3,4,5,6,7,8,9]⟩,⟨.some 16,.un .not (.s 15),.none,11,[0,1,2,3,4,5,6,7,8,9,10]⟩,⟨.some 4,.move (.s 16),.none,12,[0,1,2,3,4,5,6,7,8,9,10,11]⟩] [0,1,2,3,4]) .ret)),res := [.slot 4]}
def c67 : AFunc :=
  let k:List Nat:=[0,1,3,4,5,6,7,10,11,12,19]
  {nt := 33,body := (.seq (.reg [⟨.some 3,.box (.s 1),.none,0,[]⟩,⟨.some 4,.alloc [.int .i64 0,.int .i64 0],.none,1,[]⟩] k) (.seq (.reg [⟨.some 8,.call (.c (.func 74 [] [])) [],.none,0,[]⟩,⟨.none,.store 2 (.s 4) (.s 8),.none,1,[]⟩] k) (.seq (.seq (.reg [⟨.some 9,.move (.s 0),.none,0,[]⟩,⟨.some 10,.call (.c (.func 75 [] [])) [.s 9],.none,1,[]⟩] k) (.block 0 (.range (.s 10) [11,12] (.seq (.reg [⟨.some 5,.alloc [.int .i64 0,.int .i64 0,.int .i64 0,.int .i64 0,.int .i64 0,.int .i64 0,.int .i64 0,.int .i64 0],.none,0,[]⟩,⟨.none,.store 8 (.s 5) (.s 11),.none,1,[]⟩] k) (.reg [⟨.some 6,.alloc [.int .i64 0,.int .i64 0,.int .i64 0,.int .i64 0,.int .i64 0,.int .i64 0,.int .i64 0,.int .i64 0],.none,0,[]⟩,⟨.none,.store 8 (.s 6) (.s 12),.none,1,[]⟩] k)) (.block 1 (.seq (.reg [⟨.some 13,.load (.s 3),.none,0,[]⟩,⟨.some 14,.loadN 8 (.s 5),.none,1,[]⟩,⟨.some 15,.loadN 8 (.s 6),.none,2,[]⟩,⟨.some 16,.call (.s 13) [.s 14,.s 15],.none,3,[]⟩,⟨.some 7,.move (.s 16),.none,4,[]⟩] k) (.seq (.seq (.draw [⟨.some 17,.loadN 2 (.s 4),.none,0,[]⟩,⟨.some 18,.call (.c (.func 74 [] [])) [],.none,1,[]⟩,⟨.some 19,.eqFlat true [.i,.i] false (.s 17) (.s 18),.none,2,[0,1]⟩] k) (.cond (.s 19) (.reg [⟨.some 20,.move (.s 7),.none,0,[]⟩,⟨.some 21,.move (.s 7),.none,1,[]⟩,⟨.some 22,.build [.int .i64 0,.int .i64 0] [(0,(1,(.s 20))),(1,(1,(.s 21)))],.none,2,[]⟩,⟨.none,.store 2 (.s 4) (.s 22),.none,3,[]⟩] k) .skip)) (.reg [⟨.some 23,.off 0 (.s 4),.none,0,[]⟩,⟨.some 24,.load (.s 23),.none,1,[]⟩,⟨.some 25,.move (.s 7),.none,2,[]⟩,⟨.some 26,.minInt (.s 24) [.s 25],.none,3,[]⟩,⟨.some 27,.off 1 (.s 4),.none,4,[]⟩,⟨.some 28,.load (.s 27),.none,5,[]⟩,⟨.some 29,.move (.s 7),.none,6,[]⟩,⟨.some 30,.maxInt (.s 28) [.s 29],.none,7,[]⟩,⟨.some 31,.build [.int .i64 0,.int .i64 0] [(0,(1,(.s 26))),(1,(1,(.s 30)))],.none,8,[]⟩,⟨.none,.store 2 (.s 4) (.s 31),.none,9,[]⟩] k))))))) (.seq (.reg [⟨.some 32,.loadN 2 (.s 4),.none,0,[]⟩,⟨.none,.store 2 (.s 4) (.s 32),.none,1,[]⟩] k) .ret)))),res := [.cellN 2 4]}
def c68 : AFunc :=
  {nt := 9,body := (.seq (.reg [⟨.some 3,.box (.s 0),.none,0,[]⟩,⟨.some 4,.box (.s 1),.none,1,[]⟩,⟨.some 5,.move (.c (.int .i64 0)),.none,2,[]⟩] [0,1,2,4,5]) (.seq (.reg [⟨.some 6,.load (.s 2),.none,0,[]⟩,⟨.some 7,.idxArr 8 1 (.s 4) (.s 6),.none,1,[]⟩,⟨.some 8,.load (.s 7),.none,2,[]⟩,⟨.some 5,.move (.s 8),.none,3,[]⟩] [0,1,2,4,5]) .ret)),res := [.slot 5]}
def c70 : AFunc :=
  {nt := 16,body := (.seq (.reg [⟨.some 3,.box (.s 0),.none,0,[]⟩,⟨.some 4,.box (.s 1),.none,1,[]⟩,⟨.some 5,.move (.c (.int .i64 0)),.none,2,[]⟩] [0,1,2,3,5]) (.seq (.draw [⟨.some 6,.load (.s 2),.none,0,[]⟩,⟨.some 7,.idxArr 4 2 (.s 3) (.s 6),.none,1,[0]⟩,⟨.some 8,.off 1 (.s 7),.none,2,[0,1]⟩,⟨.some 9,.load (.s 8),.none,3,[0,1,2]⟩,⟨.some 10,.load (.s 2),.none,4,[]⟩,⟨.some 11,.idxArr 4 2 (.s 3) (.s 10),.none,5,[4]⟩,⟨.some 12,.off 0 (.s 11),.none,6,[4,5]⟩,⟨.some 13,.load (.s 12),.none,7,[4,5,6]⟩,⟨.some 14,.bin .sub (.s 9) (.s 13),.none,8,[0,1,2,3,4,5,6,7]⟩,⟨.some 15,.bin .add (.s 14) (.c (.int .i64 1)),.none,9,[0,1,2,3,4,5,6,7,8]⟩,⟨.some 5,.move (.s 15),.none,10,[0,1,2,3,4,5,6,7,8,9]⟩] [0,1,2,3,5]) .ret)),res := [.slot 5]}
def c73 : AFunc :=
  {nt := 7,body := (.seq (.reg [⟨.some 1,.box (.s 0),.none,0,[]⟩,⟨.some 2,.move (.c (.bool false)),.none,1,[]⟩] [0,1,2]) (.seq (.draw [⟨.some 3,.idxArr 4 2 (.s 1) (.c (.int .i64 3)),.none,0,[]⟩,⟨.some 4,.loadN 2 (.s 3),.none,1,[0]⟩,⟨.some 5,.call (.c (.func 74 [] [])) [],.none,2,[]⟩,⟨.some 6,.eqFlat true [.i,.i] true (.s 4) (.s 5),.none,3,[0,1,2]⟩,⟨.some 2,.move (.s 6),.none,4,[0,1,2,3]⟩] [0,1,2]) .ret)),res := [.slot 2]}
def c74 : AFunc :=
  {nt := 2,body := (.seq (.reg [⟨.some 0,.alloc [.int .i64 0,.int .i64 0],.none,0,[]⟩] [0]) (.seq (.reg [⟨.some 1,.build [.int .i64 0,.int .i64 0] [(0,(1,(.c (.int .i64 0)))),(1,(1,(.c (.int .i64 (-1)))))],.none,0,[]⟩,⟨.none,.store 2 (.s 0) (.s 1),.none,1,[]⟩] [0]) .ret)),res := [.cellN 2 0]}
def c75 : AFunc :=
  {nt := 4,body := (.seq (.reg [⟨.some 1,.box (.s 0),.none,0,[]⟩,⟨.some 2,.move (.c .nilfunc),.none,1,[]⟩] [0,1,2]) (.seq (.reg [⟨.some 3,.func 86 [] [.s 1],.none,0,[]⟩,⟨.some 2,.move (.s 3),.none,1,[]⟩] [0,1,2]) .ret)),res := [.slot 2]}
def c76 : AFunc :=
  let k:List Nat:=[0,1,4,5,6,7,8,9,10,11,12,19,28,35]
  {nt := 36,body := (.seq (.reg [⟨.some 4,.move (.c (.int .i64 0)),.none,0,[]⟩] k) (.seq (.seq (.reg [⟨.some 9,.move (.s 0),.none,0,[]⟩,⟨.some 10,.len false (.s 9),.none,1,[]⟩,⟨.some 11,.move (.c (.int .i64 0)),.none,2,[]⟩] k) (.block 0 (.loop (.seq (.reg [⟨.some 12,.bin .lss (.s 11) (.s 10),.none,0,[]⟩] k) (.seq (.cond (.s 12) .skip (.exit 0)) (.seq (.block 1 (.seq (.reg [⟨.some 13,.move (.s 11),.none,0,[]⟩,⟨.some 14,.idxSl 1 (.s 9) (.s 11),.none,1,[]⟩,⟨.some 15,.load (.s 14),.none,2,[]⟩,⟨.some 5,.move (.s 13),.none,3,[]⟩,⟨.some 6,.move (.s 15),.none,4,[]⟩] k) (.seq (.seq (.reg [⟨.some 16,.move (.s 5),.none,0,[]⟩,⟨.some 17,.move (.s 1),.none,1,[]⟩,⟨.some 18,.len false (.s 17),.none,2,[]⟩,⟨.some 19,.bin .geq (.s 16) (.s 18),.none,3,[]⟩] k) (.cond (.s 19) (.seq (.reg [⟨.some 4,.move (.c (.int .i64 1)),.none,0,[]⟩] k) .ret) .skip)) (.seq (.reg [⟨.some 20,.move (.s 1),.none,0,[]⟩,⟨.some 21,.move (.s 5),.none,1,[]⟩,⟨.some 22,.idxSl 1 (.s 20) (.s 21),.none,2,[]⟩,⟨.some 23,.load (.s 22),.none,3,[]⟩,⟨.some 7,.move (.s 23),.none,4,[]⟩] k) (.seq (.reg [⟨.some 24,.move (.s 6),.none,0,[]⟩,⟨.some 25,.move (.s 7),.none,1,[]⟩,⟨.some 26,.call (.c (.func 91 [] [])) [.s 24,.s 25],.none,2,[]⟩,⟨.some 8,.move (.s 26),.none,3,[]⟩] k) (.seq (.reg [⟨.some 27,.move (.s 8),.none,0,[]⟩,⟨.some 28,.bin .neq (.s 27) (.c (.int .i64 0)),.none,1,[]⟩] k) (.cond (.s 28) (.seq (.reg [⟨.some 29,.move (.s 8),.none,0,[]⟩,⟨.some 4,.move (.s 29),.none,1,[]⟩] k) .ret) .skip))))))) (.reg [⟨.some 30,.bin .add (.s 11) (.c (.int .i64 1)),.none,0,[]⟩,⟨.some 11,.move (.s 30),.none,1,[]⟩] k))))))) (.seq (.seq (.reg [⟨.some 31,.move (.s 0),.none,0,[]⟩,⟨.some 32,.len false (.s 31),.none,1,[]⟩,⟨.some 33,.move (.s 1),.none,2,[]⟩,⟨.some 34,.len false (.s 33),.none,3,[]⟩,⟨.some 35,.bin .lss (.s 32) (.s 34),.none,4,[]⟩] k) (.cond (.s 35) (.seq (.reg [⟨.some 4,.move (.c (.int .i64 (-1))),.none,0,[]⟩] k) .ret) .skip)) (.seq (.reg [⟨.some 4,.move (.c (.int .i64 0)),.none,0,[]⟩] k) .ret)))),res := [.slot 4]}
def c77 : AFunc :=
  {nt := 10,body := (.seq (.reg [⟨.some 2,.box (.s 0),.none,0,[]⟩,⟨.some 4,.move (.c .nilptr),.none,1,[]⟩] [0,1,2,4]) (.seq (.reg [⟨.some 5,.loadN 6 (.s 2),.none,0,[]⟩,⟨.some 6,.move (.s 1),.none,1,[]⟩,⟨.some 7,.makeMap,.none,2,[]⟩,⟨.some 8,.build [.nilslice,.int .i64 0,.int .i64 0,.nilslice,.bool false,.nilslice,.int .i64 0,.nilmap] [(0,(6,(.s 5))),(6,(1,(.s 6))),(7,(1,(.s 7)))],.none,3,[]⟩,⟨.some 9,.box (.s 8),.none,4,[]⟩,⟨.some 4,.move (.s 9),.none,5,[]⟩] [0,1,2,4]) .ret)),res := [.slot 4]}
def c78 : AFunc :=
  let k:List Nat:=[0,2,4]
  {nt := 7,body := (.seq (.reg [⟨.some 2,.alloc [.bool false],.none,0,[]⟩] k) (.seq (.seq (.reg [⟨.some 3,.move (.s 0),.none,0,[]⟩,⟨.some 4,.call (.c (.func 75 [] [])) [.s 3],.none,1,[]⟩] k) (.block 0 (.range (.s 4) [5,6] .skip (.block 1 (.seq (.reg [⟨.none,.store 1 (.s 2) (.c (.bool true)),.none,0,[]⟩] k) .ret))))) (.seq (.reg [⟨.none,.store 1 (.s 2) (.c (.bool false)),.none,0,[]⟩] k) .ret))),res := [.cell 2]}
def c84 : AFunc :=
  let k:List Nat:=[0,1,4,5,7,8,9,16]
  {nt := 19,body := (.seq (.reg [⟨.some 4,.move (.c (.int .i64 0)),.none,0,[]⟩] k) (.seq (.seq (.reg [⟨.some 6,.move (.s 0),.none,0,[]⟩,⟨.some 7,.len false (.s 6),.none,1,[]⟩,⟨.some 8,.move (.c (.int .i64 0)),.none,2,[]⟩] k) (.block 0 (.loop (.seq (.reg [⟨.some 9,.bin .lss (.s 8) (.s 7),.none,0,[]⟩] k) (.seq (.cond (.s 9) .skip (.exit 0)) (.seq (.block 1 (.seq (.reg [⟨.some 10,.move (.s 8),.none,0,[]⟩,⟨.some 5,.move (.s 10),.none,1,[]⟩] k) (.seq (.reg [⟨.some 11,.move (.s 1),.none,0,[]⟩,⟨.some 12,.move (.s 0),.none,1,[]⟩,⟨.some 13,.move (.s 5),.none,2,[]⟩,⟨.some 14,.idxSl 2 (.s 12) (.s 13),.none,3,[]⟩,⟨.some 15,.loadN 2 (.s 14),.none,4,[]⟩,⟨.some 16,.call (.s 11) [.s 15],.none,5,[]⟩] k) (.cond (.s 16) (.seq (.reg [⟨.some 17,.move (.s 5),.none,0,[]⟩,⟨.some 4,.move (.s 17),.none,1,[]⟩] k) .ret) .skip)))) (.reg [⟨.some 18,.bin .add (.s 8) (.c (.int .i64 1)),.none,0,[]⟩,⟨.some 8,.move (.s 18),.none,1,[]⟩] k))))))) (.seq (.reg [⟨.some 4,.move (.c (.int .i64 (-1))),.none,0,[]⟩] k) .ret))),res := [.slot 4]}
def c85 : AFunc :=
  let k:List Nat:=[0,2,3,4,7]
  {nt := 14,body := (.seq (.reg [⟨.some 2,.move (.c (.int .i64 0)),.none,0,[]⟩] k) (.seq (.reg [⟨.some 3,.move (.c (.int .i64 0)),.none,0,[]⟩] k) (.seq (.seq (.reg [⟨.some 4,.move (.c (.int .i64 0)),.none,0,[]⟩] k) (.block 0 (.loop (.seq (.seq (.reg [⟨.some 5,.move (.s 4),.none,0,[]⟩,⟨.some 6,.move (.s 0),.none,1,[]⟩,⟨.some 7,.bin .lss (.s 5) (.s 6),.none,2,[]⟩] k) (.cond (.s 7) .skip (.exit 0))) (.seq (.block 1 (.reg [⟨.some 10,.move (.s 3),.none,0,[]⟩,⟨.some 11,.bin .mul (.c (.int .i64 2)) (.s 10),.none,1,[]⟩,⟨.some 12,.bin .add (.s 11) (.c (.int .i64 1)),.none,2,[]⟩,⟨.some 3,.move (.s 12),.none,3,[]⟩] k)) (.reg [⟨.some 8,.move (.s 4),.none,0,[]⟩,⟨.some 9,.bin .add (.s 8) (.c (.int .i64 1)),.none,1,[]⟩,⟨.some 4,.move (.s 9),.none,2,[]⟩] k)))))) (.seq (.reg [⟨.some 13,.move (.s 3),.none,0,[]⟩,⟨.some 2,.move (.s 13),.none,1,[]⟩] k) .ret)))),res := [.slot 2]}
def c86 : AFunc :=
  let k:List Nat:=[0,1,2,3,4,5,6,9,10]
  {nt := 19,body := (.seq (.reg [⟨.some 2,.box (.s 0),.none,0,[]⟩] k) (.seq (.reg [⟨.some 7,.load (.s 1),.none,0,[]⟩,⟨.some 8,.func 87 [.s 7] [],.none,1,[]⟩,⟨.some 3,.alloc [.nilfunc],.none,2,[]⟩,⟨.none,.store 1 (.s 3) (.s 8),.none,3,[]⟩] k) (.seq (.reg [⟨.some 4,.alloc [.int .i64 0,.int .i64 0,.int .i64 0,.int .i64 0,.int .i64 0,.int .i64 0,.int .i64 0,.int .i64 0],.none,0,[]⟩] k) (.seq (.seq (.reg [⟨.some 9,.move (.c (.int .i64 0)),.none,0,[]⟩] k) (.block 0 (.loop (.seq (.reg [⟨.some 10,.bin .lss (.s 9) (.c (.int .i64 4)),.none,0,[]⟩] k) (.seq (.cond (.s 10) .skip (.exit 0)) (.seq (.block 1 (.seq (.reg [⟨.some 11,.move (.s 9),.none,0,[]⟩,⟨.some 5,.move (.s 11),.none,1,[]⟩] k) (.reg [⟨.some 12,.move (.s 5),.none,0,[]⟩,⟨.some 13,.call (.c (.func 74 [] [])) [],.none,1,[]⟩,⟨.some 14,.idxArr 4 2 (.s 4) (.s 12),.none,2,[]⟩,⟨.none,.store 2 (.s 14) (.s 13),.none,3,[]⟩] k))) (.reg [⟨.some 15,.bin .add (.s 9) (.c (.int .i64 1)),.none,0,[]⟩,⟨.some 9,.move (.s 15),.none,1,[]⟩] k))))))) (.seq (.reg [⟨.some 6,.alloc [.nilfunc],.none,0,[]⟩] k) (.seq (.reg [⟨.some 16,.func 88 [] [.s 1,.s 4,.s 6,.s 3,.s 2],.none,0,[]⟩,⟨.none,.store 1 (.s 6) (.s 16),.none,1,[]⟩] k) (.reg [⟨.some 17,.load (.s 6),.none,0,[]⟩,⟨.some 18,.call (.s 17) [.c (.int .i64 0)],.none,1,[]⟩] k))))))),res := []}
def c87 : AFunc :=
  let k:List Nat:=[0,1,3,4,5,6,11,12,13,14,34]
  {nt := 36,body := (.seq (.reg [⟨.some 3,.box (.s 1),.none,0,[]⟩,⟨.some 4,.move (.c (.bool false)),.none,1,[]⟩] k) (.seq (.seq (.reg [⟨.some 7,.move (.s 0),.none,0,[]⟩,⟨.some 8,.nilCheck (.s 7),.none,1,[]⟩,⟨.some 9,.off 0 (.s 8),.none,2,[]⟩,⟨.some 10,.off 5 (.s 9),.none,3,[]⟩,⟨.some 11,.load (.s 10),.none,4,[]⟩,⟨.some 12,.len false (.s 11),.none,5,[]⟩,⟨.some 13,.move (.c (.int .i64 0)),.none,6,[]⟩] k) (.block 0 (.loop (.seq (.reg [⟨.some 14,.bin .lss (.s 13) (.s 12),.none,0,[]⟩] k) (.seq (.cond (.s 14) .skip (.exit 0)) (.seq (.block 1 (.seq (.reg [⟨.some 15,.move (.s 13),.none,0,[]⟩,⟨.some 16,.idxSl 2 (.s 11) (.s 13),.none,1,[]⟩,⟨.some 17,.loadN 2 (.s 16),.none,2,[]⟩,⟨.some 6,.alloc [.int .i64 0,.int .i64 0],.none,3,[]⟩,⟨.some 5,.move (.s 15),.none,4,[]⟩,⟨.none,.store 2 (.s 6) (.s 17),.none,5,[]⟩] k) (.seq (.draw [⟨.some 18,.move (.s 0),.none,0,[]⟩,⟨.some 19,.nilCheck (.s 18),.none,1,[0]⟩,⟨.some 20,.off 6 (.s 19),.none,2,[0,1]⟩,⟨.some 21,.load (.s 20),.none,3,[0,1,2]⟩,⟨.some 22,.move (.s 5),.none,4,[]⟩,⟨.some 23,.bin .shr (.s 21) (.s 22),.none,5,[0,1,2,3,4]⟩,⟨.some 24,.bin .and (.s 23) (.c (.int .i64 1)),.none,6,[0,1,2,3,4,5]⟩,⟨.some 25,.bin .eql (.s 24) (.c (.int .i64 0)),.none,7,[0,1,2,3,4,5,6]⟩,⟨.some 26,.move (.s 25),.none,8,[0,1,2,3,4,5,6,7]⟩,⟨.some 27,.off 0 (.s 6),.some (26,true),9,[0,1,2,3,4,5,6,7,8]⟩,⟨.some 28,.load (.s 27),.some (26,true),10,[0,1,2,3,4,5,6,7,8,9]⟩,⟨.some 29,.idxArr 8 1 (.s 3) (.s 28),.some (26,true),11,[0,1,2,3,4,5,6,7,8,9,10]⟩,⟨.some 30,.load (.s 29),.some (26,true),12,[0,1,2,3,4,5,6,7,8,9,10,11]⟩,⟨.some 31,.off 1 (.s 6),.some (26,true),13,[0,1,2,3,4,5,6,7,8]⟩,⟨.some 32,.load (.s 31),.some (26,true),14,[0,1,2,3,4,5,6,7,8,13]⟩,⟨.some 33,.bin .neq (.s 30) (.s 32),.some (26,true),15,[0,1,2,3,4,5,6,7,8,9,10,11,12,13,14]⟩,⟨.some 34,.pick (.s 26) (.s 33) (.c (.bool false)),.none,16,[0,1,2,3,4,5,6,7,8,9,10,11,12,13,14,15]⟩] k) (.cond (.s 34) (.seq (.reg [⟨.some 4,.move (.c (.bool false)),.none,0,[]⟩] k) .ret) .skip)))) (.reg [⟨.some 35,.bin
    .add (.s 13) (.c (.int .i64 1)),.none,0,[]⟩,⟨.some 13,.move (.s 35),.none,1,[]⟩] k))))))) (.seq (.reg [⟨.some 4,.move (.c (.bool true)),.none,0,[]⟩] k) .ret))),res := [.slot 4]}
def c88 : AFunc :=
  let k:List Nat:=[0,1,2,3,4,5,7,9,10,12,13,21,31,32,33,34,44,52,57,58,59,60,77]
  {nt := 79,body := (.seq (.reg [⟨.some 7,.move (.c (.bool false)),.none,0,[]⟩] k) (.seq (.seq (.reg [⟨.some 14,.move (.s 0),.none,0,[]⟩,⟨.some 15,.load (.s 1),.none,1,[]⟩,⟨.some 16,.nilCheck (.s 15),.none,2,[]⟩,⟨.some 17,.off 0 (.s 16),.none,3,[]⟩,⟨.some 18,.off 3 (.s 17),.none,4,[]⟩,⟨.some 19,.load (.s 18),.none,5,[]⟩,⟨.some 20,.len false (.s 19),.none,6,[]⟩,⟨.some 21,.bin .lss (.s 14) (.s 20),.none,7,[]⟩] k) (.cond (.s 21) (.seq (.seq (.draw [⟨.some 22,.load (.s 1),.none,0,[]⟩,⟨.some 23,.load (.s 1),.none,1,[]⟩,⟨.some 24,.nilCheck (.s 23),.none,2,[1]⟩,⟨.some 25,.off 0 (.s 24),.none,3,[1,2]⟩,⟨.some 26,.off 3 (.s 25),.none,4,[1,2,3]⟩,⟨.some 27,.load (.s 26),.none,5,[1,2,3,4]⟩,⟨.some 28,.move (.s 0),.none,6,[]⟩,⟨.some 29,.idxSl 1 (.s 27) (.s 28),.none,7,[1,2,3,4,5,6]⟩,⟨.some 30,.load (.s 29),.none,8,[1,2,3,4,5,6,7]⟩,⟨.some 33,.move (.c (.int .i64 0)),.none,11,[]⟩,⟨.some 31,.call (.c (.func 89 [] [])) [.s 22,.s 30],.none,9,[0,1,2,3,4,5,6,7,8]⟩,⟨.some 32,.len false (.s 31),.none,10,[0,1,2,3,4,5,6,7,8,9]⟩] k) (.block 0 (.loop (.seq (.reg [⟨.some 34,.bin .lss (.s 33) (.s 32),.none,0,[]⟩] k) (.seq (.cond (.s 34) .skip (.exit 0)) (.seq (.block 1 (.seq (.reg [⟨.some 35,.idxSl 2 (.s 31) (.s 33),.none,0,[]⟩,⟨.some 36,.loadN 2 (.s 35),.none,1,[]⟩,⟨.some 9,.alloc [.int .i64 0,.int .i64 0],.none,2,[]⟩,⟨.none,.store 2 (.s 9) (.s 36),.none,3,[]⟩] k) (.seq (.reg [⟨.some 37,.move (.s 0),.none,0,[]⟩,⟨.some 38,.loadN 2 (.s 9),.none,1,[]⟩,⟨.some 39,.idxArr 4 2 (.s 2) (.s 37),.none,2,[]⟩,⟨.none,.store 2 (.s 39) (.s 38),.none,3,[]⟩] k) (.seq (.reg [⟨.some 40,.load (.s 3),.none,0,[]⟩,⟨.some 41,.move (.s 0),.none,1,[]⟩,⟨.some 42,.bin .add (.s 41) (.c (.int .i64 1)),.none,2,[]⟩,⟨.some 43,.call (.s 40) [.s 42],.none,3,[]⟩,⟨.some 44,.un .not (.s 43),.none,4,[]⟩] k) (.cond (.s 44) (.seq (.reg [⟨.some 7,.move (.c (.bool false)),.none,0,[]⟩] k) .ret) .skip))))) (.reg [⟨.some 45,.bin .add (.s 33) (.c (.int .i64 1)),.none,0,[]⟩,⟨.some 33,.move (.s 45),.none,1,[]⟩] k))))))) (.seq (.reg [⟨.some
    7,.move (.c (.bool true)),.none,0,[]⟩] k) .ret)) .skip)) (.seq (.reg [⟨.some 46,.call (.c (.func 74 [] [])) [],.none,0,[]⟩,⟨.some 47,.mkslice 1 2 [.int .i64 0,.int .i64 0] [(0,(2,(.s 46)))],.none,1,[]⟩,⟨.some 10,.move (.s 47),.none,2,[]⟩] k) (.seq (.seq (.reg [⟨.some 48,.load (.s 1),.none,0,[]⟩,⟨.some 49,.nilCheck (.s 48),.none,1,[]⟩,⟨.some 50,.off 0 (.s 49),.none,2,[]⟩,⟨.some 51,.off 4 (.s 50),.none,3,[]⟩,⟨.some 52,.load (.s 51),.none,4,[]⟩] k) (.cond (.s 52) (.reg [⟨.some 53,.move (.s 10),.none,0,[]⟩,⟨.some 54,.load (.s 1),.none,1,[]⟩,⟨.some 55,.call (.c (.func 89 [] [])) [.s 54,.c (.int .i64 0)],.none,2,[]⟩,⟨.some 56,.append 2 16 (.s 53) (.s 55),.none,3,[]⟩,⟨.some 10,.move (.s 56),.none,4,[]⟩] k) .skip)) (.seq (.seq (.reg [⟨.some 57,.move (.s 10),.none,0,[]⟩,⟨.some 58,.len false (.s 57),.none,1,[]⟩,⟨.some 59,.move (.c (.int .i64 0)),.none,2,[]⟩] k) (.block 2 (.loop (.seq (.reg [⟨.some 60,.bin .lss (.s 59) (.s 58),.none,0,[]⟩] k) (.seq (.cond (.s 60) .skip (.exit 2)) (.seq (.block 3 (.seq (.reg [⟨.some 61,.idxSl 2 (.s 57) (.s 59),.none,0,[]⟩,⟨.some 62,.loadN 2 (.s 61),.none,1,[]⟩,⟨.some 12,.alloc [.int .i64 0,.int .i64 0],.none,2,[]⟩,⟨.none,.store 2 (.s 12) (.s 62),.none,3,[]⟩] k) (.seq (.reg [⟨.some 63,.loadN 2 (.s 12),.none,0,[]⟩,⟨.some 64,.idxArr 4 2 (.s 2) (.c (.int .i64 3)),.none,1,[]⟩,⟨.none,.store 2 (.s 64) (.s 63),.none,2,[]⟩] k) (.seq (.reg [⟨.some 65,.load (.s 1),.none,0,[]⟩,⟨.some 66,.loadN 8 (.s 2),.none,1,[]⟩,⟨.some 67,.call (.c (.func 90 [] [])) [.s 65,.s 66],.none,2,[]⟩,⟨.some 13,.alloc [.int .i64 0,.int .i64 0,.int .i64 0,.int .i64 0,.int .i64 0,.int .i64 0,.int .i64 0,.int .i64 0],.none,3,[]⟩,⟨.none,.store 8 (.s 13) (.s 67),.none,4,[]⟩] k) (.seq (.reg [⟨.some 68,.load (.s 4),.none,0,[]⟩,⟨.some 69,.loadN 8 (.s 13),.none,1,[]⟩,⟨.some 70,.call (.s 68) [.s 69],.none,2,[]⟩,⟨.some 71,.move (.s 70),.none,3,[]⟩,⟨.some 72,.load (.s 5),.some (71,true),4,[]⟩,⟨.some 73,.loadN 8 (.s 2),.some (71,true),5,[]⟩,⟨.some 74,.loadN 8 (.s 13),.some
    (71,true),6,[]⟩,⟨.some 75,.call (.s 72) [.s 73,.s 74],.some (71,true),7,[]⟩,⟨.some 76,.un .not (.s 75),.some (71,true),8,[]⟩,⟨.some 77,.pick (.s 71) (.s 76) (.c (.bool false)),.none,9,[]⟩] k) (.cond (.s 77) (.seq (.reg [⟨.some 7,.move (.c (.bool false)),.none,0,[]⟩] k) .ret) .skip)))))) (.reg [⟨.some 78,.bin .add (.s 59) (.c (.int .i64 1)),.none,0,[]⟩,⟨.some 59,.move (.s 78),.none,1,[]⟩] k))))))) (.seq (.reg [⟨.some 7,.move (.c (.bool true)),.none,0,[]⟩] k) .ret)))))),res := [.slot 7]}
def c89 : AFunc :=
  let k:List Nat:=[0,1,4,5,6,7,8,9,10,11,12,22,30,31,32,54,61,62,63,64,81]
  {nt := 97,body := (.seq (.reg [⟨.some 4,.move (.c .nilslice),.none,0,[]⟩] k) (.seq (.seq (.reg [⟨.some 14,.move (.s 0),.none,0,[]⟩,⟨.some 15,.nilCheck (.s 14),.none,1,[]⟩,⟨.some 16,.off 7 (.s 15),.none,2,[]⟩,⟨.some 17,.load (.s 16),.none,3,[]⟩,⟨.some 18,.move (.s 1),.none,4,[]⟩,⟨.some 19,.lookup false [.i] .nilslice true (.s 17) (.s 18),.none,5,[]⟩,⟨.some 13,.move (.s 19),.none,6,[]⟩,⟨.some 20,.extract 0 (.s 13),.none,7,[]⟩,⟨.some 21,.extract 1 (.s 13),.none,8,[]⟩,⟨.some 5,.move (.s 20),.none,9,[]⟩,⟨.some 6,.move (.s 21),.none,10,[]⟩] k) (.seq (.reg [⟨.some 22,.move (.s 6),.none,0,[]⟩] k) (.cond (.s 22) (.seq (.reg [⟨.some 23,.move (.s 5),.none,0,[]⟩,⟨.some 4,.move (.s 23),.none,1,[]⟩] k) .ret) .skip))) (.seq (.reg [⟨.some 7,.move (.c .nilslice),.none,0,[]⟩] k) (.seq (.reg [⟨.some 24,.move (.s 0),.none,0,[]⟩,⟨.some 25,.nilCheck (.s 24),.none,1,[]⟩,⟨.some 26,.off 0 (.s 25),.none,2,[]⟩,⟨.some 27,.off 0 (.s 26),.none,3,[]⟩,⟨.some 28,.load (.s 27),.none,4,[]⟩,⟨.some 29,.len false (.s 28),.none,5,[]⟩,⟨.some 8,.move (.s 29),.none,6,[]⟩] k) (.seq (.seq (.reg [⟨.some 30,.move (.s 8),.none,0,[]⟩,⟨.some 31,.move (.c (.int .i64 0)),.none,1,[]⟩] k) (.block 0 (.loop (.seq (.reg [⟨.some 32,.bin .lss (.s 31) (.s 30),.none,0,[]⟩] k) (.seq (.cond (.s 32) .skip (.exit 0)) (.seq (.block 1 (.seq (.reg [⟨.some 33,.move (.s 31),.none,0,[]⟩,⟨.some 9,.move (.s 33),.none,1,[]⟩] k) (.seq .skip (.seq (.reg [⟨.some 34,.move (.s 9),.none,0,[]⟩,⟨.some 35,.move (.s 0),.none,1,[]⟩,⟨.some 36,.nilCheck (.s 35),.none,2,[]⟩,⟨.some 37,.off 0 (.s 36),.none,3,[]⟩,⟨.some 38,.off 1 (.s 37),.none,4,[]⟩,⟨.some 39,.off 0 (.s 38),.none,5,[]⟩,⟨.some 40,.load (.s 39),.none,6,[]⟩,⟨.some 41,.bin .add (.s 34) (.s 40),.none,7,[]⟩,⟨.some 42,.bin .sub (.s 41) (.c (.int .i64 1)),.none,8,[]⟩,⟨.some 10,.move (.s 42),.none,9,[]⟩] k) (.block 2 (.loop (.seq (.seq (.reg [⟨.some 43,.move (.s 10),.none,0,[]⟩,⟨.some 44,.move (.s 8),.none,1,[]⟩,⟨.some 45,.move (.s 9),.none,2,[]⟩,⟨.some 46,.move (.s 0),.none,3,[]⟩,⟨.some
    47,.nilCheck (.s 46),.none,4,[]⟩,⟨.some 48,.off 0 (.s 47),.none,5,[]⟩,⟨.some 49,.off 1 (.s 48),.none,6,[]⟩,⟨.some 50,.off 1 (.s 49),.none,7,[]⟩,⟨.some 51,.load (.s 50),.none,8,[]⟩,⟨.some 52,.bin .add (.s 45) (.s 51),.none,9,[]⟩,⟨.some 53,.minInt (.s 44) [.s 52],.none,10,[]⟩,⟨.some 54,.bin .lss (.s 43) (.s 53),.none,11,[]⟩] k) (.cond (.s 54) .skip (.exit 2))) (.seq (.block 3 (.seq (.seq (.reg [⟨.some 57,.move (.s 0),.none,0,[]⟩,⟨.some 58,.nilCheck (.s 57),.none,1,[]⟩,⟨.some 59,.off 0 (.s 58),.none,2,[]⟩,⟨.some 60,.off 0 (.s 59),.none,3,[]⟩,⟨.some 61,.load (.s 60),.none,4,[]⟩,⟨.some 62,.len false (.s 61),.none,5,[]⟩,⟨.some 63,.move (.c (.int .i64 0)),.none,6,[]⟩] k) (.block 4 (.loop (.seq (.reg [⟨.some 64,.bin .lss (.s 63) (.s 62),.none,0,[]⟩] k) (.seq (.cond (.s 64) .skip (.exit 4)) (.seq (.block 5 (.seq (.reg [⟨.some 65,.move (.s 63),.none,0,[]⟩,⟨.some 66,.idxSl 1 (.s 61) (.s 63),.none,1,[]⟩,⟨.some 67,.load (.s 66),.none,2,[]⟩,⟨.some 11,.move (.s 65),.none,3,[]⟩,⟨.some 12,.move (.s 67),.none,4,[]⟩] k) (.seq (.draw [⟨.some 68,.move (.s 12),.none,0,[]⟩,⟨.some 69,.move (.s 68),.none,1,[0]⟩,⟨.some 70,.move (.s 1),.some (69,true),2,[0,1]⟩,⟨.some 71,.move (.s 11),.some (69,true),3,[0,1]⟩,⟨.some 72,.bin .shr (.s 70) (.s 71),.some (69,true),4,[0,1,2,3]⟩,⟨.some 73,.bin .and (.s 72) (.c (.int .i64 1)),.some (69,true),5,[0,1,2,3,4]⟩,⟨.some 74,.bin .eql (.s 73) (.c (.int .i64 1)),.some (69,true),6,[0,1,2,3,4,5]⟩,⟨.some 75,.move (.s 9),.some (69,true),7,[0,1]⟩,⟨.some 76,.move (.s 10),.some (69,true),8,[0,1]⟩,⟨.some 77,.move (.s 11),.some (69,true),9,[0,1]⟩,⟨.some 78,.mkslice 1 1 [.int .i64 0] [(0,(1,(.s 77)))],.some (69,true),10,[0,1,9]⟩,⟨.some 79,.call (.c (.func 51 [] [])) [.s 75,.s 76,.s 78],.some (69,true),11,[0,1,7,8,9,10]⟩,⟨.some 80,.eqFlat false [.b] false (.s 74) (.s 79),.some (69,true),12,[0,1,2,3,4,5,6,7,8,9,10,11]⟩,⟨.some 81,.pick (.s 69) (.s 80) (.c (.bool false)),.none,13,[0,1,2,3,4,5,6,7,8,9,10,11,12]⟩] k) (.cond (.s 81) (.exit 3) .skip)))) (.reg [⟨.some
    82,.bin .add (.s 63) (.c (.int .i64 1)),.none,0,[]⟩,⟨.some 63,.move (.s 82),.none,1,[]⟩] k))))))) (.reg [⟨.some 83,.move (.s 7),.none,0,[]⟩,⟨.some 84,.move (.s 9),.none,1,[]⟩,⟨.some 85,.move (.s 10),.none,2,[]⟩,⟨.some 86,.build [.int .i64 0,.int .i64 0] [(0,(1,(.s 84))),(1,(1,(.s 85)))],.none,3,[]⟩,⟨.some 87,.mkslice 1 2 [.int .i64 0,.int .i64 0] [(0,(2,(.s 86)))],.none,4,[]⟩,⟨.some 88,.append 2 16 (.s 83) (.s 87),.none,5,[]⟩,⟨.some 7,.move (.s 88),.none,6,[]⟩] k))) (.reg [⟨.some 55,.move (.s 10),.none,0,[]⟩,⟨.some 56,.bin .add (.s 55) (.c (.int .i64 1)),.none,1,[]⟩,⟨.some 10,.move (.s 56),.none,2,[]⟩] k))))))))) (.reg [⟨.some 89,.bin .add (.s 31) (.c (.int .i64 1)),.none,0,[]⟩,⟨.some 31,.move (.s 89),.none,1,[]⟩] k))))))) (.seq (.reg [⟨.some 90,.move (.s 0),.none,0,[]⟩,⟨.some 91,.nilCheck (.s 90),.none,1,[]⟩,⟨.some 92,.off 7 (.s 91),.none,2,[]⟩,⟨.some 93,.load (.s 92),.none,3,[]⟩,⟨.some 94,.move (.s 1),.none,4,[]⟩,⟨.some 95,.move (.s 7),.none,5,[]⟩,⟨.none,.update false [.i] (.s 93) (.s 94) (.s 95),.none,6,[]⟩] k) (.seq (.reg [⟨.some 96,.move (.s 7),.none,0,[]⟩,⟨.some 4,.move (.s 96),.none,1,[]⟩] k) .ret))))))),res := [.slot 4]}
def c90 : AFunc :=
  let k:List Nat:=[1,3,4,6,7,8,9,10,17]
  {nt := 27,body := (.seq (.reg [⟨.some 3,.box (.s 1),.none,0,[]⟩,⟨.some 4,.alloc [.int .i64 0,.int .i64 0,.int .i64 0,.int .i64 0,.int .i64 0,.int .i64 0,.int .i64 0,.int .i64 0],.none,1,[]⟩] k) (.seq (.seq (.reg [⟨.some 8,.loadN 8 (.s 3),.none,0,[]⟩,⟨.some 9,.move (.c (.int .i64 0)),.none,1,[]⟩] k) (.block 0 (.loop (.seq (.reg [⟨.some 10,.bin .lss (.s 9) (.c (.int .i64 4)),.none,0,[]⟩] k) (.seq (.cond (.s 10) .skip (.exit 0)) (.seq (.block 1 (.seq (.reg [⟨.some 11,.at 4 2 true (.s 8) (.s 9),.none,0,[]⟩,⟨.some 6,.alloc [.int .i64 0,.int .i64 0],.none,1,[]⟩,⟨.none,.store 2 (.s 6) (.s 11),.none,2,[]⟩] k) (.seq (.reg [⟨.some 12,.off 0 (.s 6),.none,0,[]⟩,⟨.some 13,.load (.s 12),.none,1,[]⟩,⟨.some 7,.move (.s 13),.none,2,[]⟩] k) (.block 2 (.loop (.seq (.seq (.reg [⟨.some 14,.move (.s 7),.none,0,[]⟩,⟨.some 15,.off 1 (.s 6),.none,1,[]⟩,⟨.some 16,.load (.s 15),.none,2,[]⟩,⟨.some 17,.bin .leq (.s 14) (.s 16),.none,3,[]⟩] k) (.cond (.s 17) .skip (.exit 2))) (.seq (.block 3 (.reg [⟨.some 20,.move (.s 7),.none,0,[]⟩,⟨.some 21,.idxArr 8 1 (.s 4) (.s 20),.none,1,[]⟩,⟨.some 22,.load (.s 21),.none,2,[]⟩,⟨.some 23,.bin .add (.s 22) (.c (.int .i64 1)),.none,3,[]⟩,⟨.some 24,.idxArr 8 1 (.s 4) (.s 20),.none,4,[]⟩,⟨.none,.store 1 (.s 24) (.s 23),.none,5,[]⟩] k)) (.reg [⟨.some 18,.move (.s 7),.none,0,[]⟩,⟨.some 19,.bin .add (.s 18) (.c (.int .i64 1)),.none,1,[]⟩,⟨.some 7,.move (.s 19),.none,2,[]⟩] k)))))))) (.reg [⟨.some 25,.bin .add (.s 9) (.c (.int .i64 1)),.none,0,[]⟩,⟨.some 9,.move (.s 25),.none,1,[]⟩] k))))))) (.seq (.reg [⟨.some 26,.loadN 8 (.s 4),.none,0,[]⟩,⟨.none,.store 8 (.s 4) (.s 26),.none,1,[]⟩] k) .ret))),res := [.cellN 8 4]}
def c91 : AFunc :=
  let k:List Nat:=[0,1,4,5,6,11,12,13,16,19]
  {nt := 20,body := (.seq (.reg [⟨.some 4,.move (.c (.int .i64 0)),.none,0,[]⟩] k) (.seq (.reg [⟨.some 7,.move (.s 0),.none,0,[]⟩,⟨.some 8,.call (.c (.func 92 [] [])) [.s 7],.none,1,[]⟩,⟨.some 5,.move (.s 8),.none,2,[]⟩] k) (.seq (.reg [⟨.some 9,.move (.s 1),.none,0,[]⟩,⟨.some 10,.call (.c (.func 92 [] [])) [.s 9],.none,1,[]⟩,⟨.some 6,.move (.s 10),.none,2,[]⟩] k) (.seq (.seq (.reg [⟨.some 11,.move (.s 5),.none,0,[]⟩] k) (.cond (.s 11) (.seq (.seq (.reg [⟨.some 12,.move (.s 6),.none,0,[]⟩] k) (.cond (.s 12) (.seq (.reg [⟨.some 4,.move (.c (.int .i64 0)),.none,0,[]⟩] k) .ret) .skip)) (.seq (.reg [⟨.some 4,.move (.c (.int .i64 (-1))),.none,0,[]⟩] k) .ret)) .skip)) (.seq (.seq (.reg [⟨.some 13,.move (.s 6),.none,0,[]⟩] k) (.cond (.s 13) (.seq (.reg [⟨.some 4,.move (.c (.int .i64 1)),.none,0,[]⟩] k) .ret) .skip)) (.seq (.seq (.reg [⟨.some 14,.move (.s 0),.none,0,[]⟩,⟨.some 15,.move (.s 1),.none,1,[]⟩,⟨.some 16,.bin .lss (.s 14) (.s 15),.none,2,[]⟩] k) (.cond (.s 16) (.seq (.reg [⟨.some 4,.move (.c (.int .i64 (-1))),.none,0,[]⟩] k) .ret) .skip)) (.seq (.seq (.reg [⟨.some 17,.move (.s 0),.none,0,[]⟩,⟨.some 18,.move (.s 1),.none,1,[]⟩,⟨.some 19,.bin .gtr (.s 17) (.s 18),.none,2,[]⟩] k) (.cond (.s 19) (.seq (.reg [⟨.some 4,.move (.c (.int .i64 1)),.none,0,[]⟩] k) .ret) .skip)) (.seq (.reg [⟨.some 4,.move (.c (.int .i64 0)),.none,0,[]⟩] k) .ret)))))))),res := [.slot 4]}
def c92 : AFunc :=
  {nt := 6,body := (.seq (.reg [⟨.some 2,.move (.c (.bool false)),.none,0,[]⟩] [0,2]) (.seq (.reg [⟨.some 3,.move (.s 0),.none,0,[]⟩,⟨.some 4,.move (.s 0),.none,1,[]⟩,⟨.some 5,.bin .neq (.s 3) (.s 4),.none,2,[]⟩,⟨.some 2,.move (.s 5),.none,3,[]⟩] [0,2]) .ret)),res := [.slot 2]}
def prog : Nat → Option AFunc
  | 14 => some c14
  | 16 => some c16
  | 17 => some c17
  | 18 => some c18
  | 20 => some c20
  | 22 => some c22
  | 23 => some c23
  | 25 => some c25
  | 27 => some c27
  | 29 => some c29
  | 30 => some c30
  | 32 => some c32
  | 34 => some c34
  | 35 => some c35
  | 36 => some c36
  | 37 => some c37
  | 43 => some c43
  | 49 => some c49
  | 51 => some c51
  | 52 => some c52
  | 53 => some c53
  | 54 => some c54
  | 55 => some c55
  | 56 => some c56
  | 57 => some c57
  | 58 => some c58
  | 59 => some c59
  | 60 => some c60
  | 61 => some c61
  | 62 => some c62
  | 63 => some c63
  | 67 => some c67
  | 68 => some c68
  | 70 => some c70
  | 73 => some c73
  | 74 => some c74
  | 75 => some c75
  | 76 => some c76
  | 77 => some c77
  | 78 => some c78
  | 84 => some c84
  | 85 => some c85
  | 86 => some c86
  | 87 => some c87
  | 88 => some c88
  | 89 => some c89
  | 90 => some c90
  | 91 => some c91
  | 92 => some c92
  | _ => none
end Go.Proofs.Ytihahmggfjjkjaa
namespace Go.AM
abbrev CM := Nat → Option (Nat × Nat × Nat)
mutual
inductive VR (m : CM) : AV → Value → Prop where
  | bool (b : Bool) : VR m (.bool b) (.bool b)
  | int (k : IntKind) (n : Int) : VR m (.int k n) (.int k n)
  | str (s : ByteArray) : VR m (.str s) (.string s)
  | ptr {b i c o n : Nat} (h : m b = some (c, o, n)) : VR m (.ptr b i) (.pointer (some ⟨c, o + i, none⟩))
  | nilptr : VR m .nilptr (.pointer none)
  | slice {b i len sz c o n cap : Nat} (h : m b = some (c, o, n)) (hl : len ≤ cap) (hc : o + i + cap * sz ≤ n) : VR m (.slice b i len sz) (.slice (some ⟨c, o + i, none⟩) len cap)
  | slice0 {b i sz : Nat} {x : Nat × Nat × Nat} (a : Addr) (h : m b = some x) : VR m (.slice b i 0 sz) (.slice (some a) 0 0)
  | nilslice : VR m .nilslice (.slice none 0 0)
  | map {b c n : Nat} (h : m b = some (c, 0, n)) : VR m (.map b) (.map (some c))
  | nilmap : VR m .nilmap (.map none)
  | func (f : Nat) {xs ys : List AV} {us vs : List Value} (h1 : VRs m xs us) (h2 : VRs m ys vs) : VR m (.func f xs ys) (.func (.func f) ⟨us⟩ ⟨vs⟩)
  | yield {l c n : Nat} (h : m l = some (c, 0, n)) : VR m (.yield l) (.func (.yield c) #[] #[])
  | nilfunc : VR m .nilfunc .nilFunc
  | iface (t : TypeId) {v : AV} {u : Value} (h : VR m v u) : VR m (.iface t v) (.iface t u)
  | niliface : VR m .niliface .nilIface
  | agg {xs : List AV} {us : List Value} (h : VRs m xs us) : VR m (.agg xs) (.agg ⟨us⟩)
  | tuple {xs : List AV} {us : List Value} (h : VRs m xs us) : VR m (.tuple xs) (.tuple ⟨us⟩)
inductive VRs (m : CM) : List AV → List Value → Prop where
  | nil : VRs m [] []
  | cons {x : AV} {u : Value} {xs : List AV} {us : List Value} (h : VR m x u) (t : VRs m xs us) : VRs m (x :: xs) (u :: us)
end
def CM.le (m m' : CM) : Prop := ∀ b x, m b = some x → m' b = some x
theorem leR (m : CM) : CM.le m m := fun _ _ h => h
theorem leT {m m' m'' : CM} (h : CM.le m m') (h' : CM.le m' m'') : CM.le m m'' := fun _ _ hx => h' _ _ (h _ _ hx)
mutual
theorem VR.mono {m m' : CM} (hm : m.le m') : ∀ {v : AV} {u : Value}, VR m v u → VR m' v u
  | _, _, .bool b => .bool b
  | _, _, .int k n => .int k n
  | _, _, .str s => .str s
  | _, _, .ptr h => .ptr (hm _ _ h)
  | _, _, .nilptr => .nilptr
  | _, _, .slice h hl hc => .slice (hm _ _ h) hl hc
  | _, _, .slice0 a h => .slice0 a (hm _ _ h)
  | _, _, .nilslice => .nilslice
  | _, _, .map h => .map (hm _ _ h)
  | _, _, .nilmap => .nilmap
  | _, _, .func f h1 h2 => .func f (VRs.mono hm h1) (VRs.mono hm h2)
  | _, _, .yield h => .yield (hm _ _ h)
  | _, _, .nilfunc => .nilfunc
  | _, _, .iface t h => .iface t (VR.mono hm h)
  | _, _, .niliface => .niliface
  | _, _, .agg h => .agg (VRs.mono hm h)
  | _, _, .tuple h => .tuple (VRs.mono hm h)
theorem VRs.mono {m m' : CM} (hm : m.le m') : ∀ {v : List AV} {u : List Value}, VRs m v u → VRs m' v u
  | _, _, .nil => .nil
  | _, _, .cons h t => .cons (VR.mono hm h) (VRs.mono hm t)
end
theorem VRs.length {m : CM} : ∀ {xs : List AV} {us : List Value}, VRs m xs us → us.length = xs.length
  | _, _, .nil => rfl
  | _, _, .cons _ t => by simp [VRs.length t]
theorem VRs.get {m : CM} : ∀ {xs : List AV} {us : List Value}, VRs m xs us → ∀ (i : Nat) (v : AV), xs[i]? = some v → ∃ u, us[i]? = some u ∧ VR m v u
  | _, _, .nil, i, v, h => by simp at h
  | _, _, .cons h t, 0, v, hv => by simp at hv; subst hv; exact ⟨_, rfl, h⟩
  | _, _, .cons h t, i + 1, v, hv => by
    obtain ⟨u, h1, h2⟩ := VRs.get t i v (by simpa using hv)
    exact ⟨u, by simpa using h1, h2⟩
theorem VRs.of_get {m : CM} : ∀ {xs : List AV} {us : List Value}, us.length = xs.length → (∀ (i : Nat) (v : AV), xs[i]? = some v → ∃ u, us[i]? = some u ∧ VR m v u) → VRs m xs us
  | [], [], _, _ => .nil
  | [], _ :: _, h, _ => by simp at h
  | _ :: _, [], h, _ => by simp at h
  | x :: xs, u :: us, h, hg => by
    refine .cons ?_ (VRs.of_get (by simpa using h) fun i v hv => ?_)
    · obtain ⟨u', h1, h2⟩ := hg 0 x (by simp)
      simp at h1; subst h1; exact h2
    · obtain ⟨u', h1, h2⟩ := hg (i + 1) v (by simpa using hv)
      exact ⟨u', by simpa using h1, h2⟩
theorem VRs.append {m : CM} : ∀ {xs ys : List AV} {us vs : List Value}, VRs m xs us → VRs m ys vs → VRs m (xs ++ ys) (us ++ vs)
  | _, _, _, _, .nil, h => h
  | _, _, _, _, .cons h t, h' => .cons h (VRs.append t h')
theorem VRs.take {m : CM} : ∀ (n : Nat) {xs : List AV} {us : List Value}, VRs m xs us → VRs m (xs.take n) (us.take n)
  | 0, _, _, _ => by simpa using VRs.nil
  | _ + 1, _, _, .nil => .nil
  | n + 1, _, _, .cons h t => .cons h (VRs.take n t)
theorem VRs.drop {m : CM} : ∀ (n : Nat) {xs : List AV} {us : List Value}, VRs m xs us → VRs m (xs.drop n) (us.drop n)
  | 0, _, _, h => h
  | _ + 1, _, _, .nil => .nil
  | n + 1, _, _, .cons _ t => VRs.drop n t
theorem cvs_vr {m : CM} : ∀ {v : Value} {a : AV}, cvs v = some a → VR m a v
  | .bool b, a, h => by simp [cvs] at h; subst h; exact .bool b
  | .int k n, a, h => by simp [cvs] at h; subst h; exact .int k n
  | .string s, a, h => by simp [cvs] at h; subst h; exact .str s
  | .pointer none, a, h => by simp [cvs] at h; subst h; exact .nilptr
  | .slice none 0 0, a, h => by simp [cvs] at h; subst h; exact .nilslice
  | .map none, a, h => by simp [cvs] at h; subst h; exact .nilmap
  | .nilFunc, a, h => by simp [cvs] at h; subst h; exact .nilfunc
  | .nilIface, a, h => by simp [cvs] at h; subst h; exact .niliface
  | .float _ _, a, h => by simp [cvs] at h
  | .complex _ _ _, a, h => by simp [cvs] at h
  | .pointer (some _), a, h => by simp [cvs] at h
  | .slice (some _) _ _, a, h => by simp [cvs] at h
  | .slice none (_ + 1) _, a, h => by simp [cvs] at h
  | .slice none 0 (_ + 1), a, h => by simp [cvs] at h
  | .map (some _), a, h => by simp [cvs] at h
  | .chan _, a, h => by simp [cvs] at h
  | .func _ _ _, a, h => by simp [cvs] at h
  | .iface _ _, a, h => by simp [cvs] at h
  | .agg _, a, h => by simp [cvs] at h
  | .tuple _, a, h => by simp [cvs] at h
theorem cvl_vrs {m : CM} : ∀ {vs : List Value} {as : List AV}, cvl vs = some as → VRs m as vs
  | [], as, h => by simp [cvl] at h; subst h; exact .nil
  | v :: vs, as, h => by
    simp only [cvl] at h
    split at h
    · rename_i a ha
      split at h
      · rename_i l hl
        simp at h; subst h
        exact .cons (cvs_vr ha) (cvl_vrs hl)
      · simp at h
    · simp at h
theorem cv_vr {m : CM} {v : Value} {a : AV} (h : cv v = some a) : VR m a v := by
  cases v with
  | agg cs =>
    simp only [cv, Option.map_eq_some_iff] at h
    obtain ⟨l, hl, rfl⟩ := h
    exact .agg (cvl_vrs (vs := cs.toList) hl)
  | _ => exact cvs_vr h
theorem VR.cells {m : CM} {v : AV} {u : Value} (h : VR m v u) {cs : List AV} (hc : v.cells? = some cs) : VRs m cs u.cells.toList := by
  cases h <;> simp [AV.cells?] at hc <;> subst hc <;> first
    | (rename_i h; exact h)
    | (refine .cons ?_ .nil; constructor <;> assumption)
    | exact .cons (.slice0 _ (by assumption)) .nil
    | exact .cons (.ptr (by assumption)) .nil
theorem VR.isCell {m : CM} {v : AV} {u : Value} (h : VR m v u) (hc : v.isCell = true) : u.oneCell' = true := by
  cases h <;> simp_all [AV.isCell, Value.oneCell']
def EnvR (m : CM) (e : Env) (tmps : Array Value) : Prop := ∀ t v, e.get t = some v → t < tmps.size ∧ VR m v (tmps.getD t undef)
theorem EnvR.mono {m m' : CM} (hm : m.le m') {e : Env} {tmps : Array Value} (h : EnvR m e tmps) : EnvR m' e tmps :=
  fun t v hv => ⟨(h t v hv).1, (h t v hv).2.mono hm⟩
theorem Env.get_put (e : Env) (t : Nat) (v : AV) (k : Nat) : (e.put t v).get k = if t = k then some v else e.get k := by
  induction e with
  | nil => simp [Env.put, Env.get]
  | cons p e ih =>
    obtain ⟨k', u⟩ := p
    simp only [Env.put]
    by_cases h1 : k' = t
    · subst h1
      simp only [if_true, Env.get]
      by_cases h2 : k' = k <;> simp [h2]
    · simp only [h1, if_false, Env.get, ih]
      by_cases h2 : k' = k
      · subst h2
        have : ¬ t = k' := fun h => h1 h.symm
        simp [this]
      · simp [h2]
theorem Env.get_keep' (e : Env) (l : List Nat) (k : Nat) : (e.keep l).get k = if hasNat l k then e.get k else none := by
  induction e with
  | nil => simp [Env.keep, Env.get]
  | cons p e ih =>
    obtain ⟨k', u⟩ := p
    simp only [Env.keep]
    by_cases h2 : k' = k
    · subst h2
      by_cases h1 : hasNat l k' = true
      · simp [h1, Env.get]
      · simp only [h1, Bool.false_eq_true, if_false, ih]
    · by_cases h1 : hasNat l k' = true
      · simp only [h1, if_true, Env.get, h2, if_false, ih]
      · simp only [h1, Bool.false_eq_true, if_false, ih, Env.get, h2]
theorem EnvR.keep {m : CM} {e : Env} {tmps : Array Value} (h : EnvR m e tmps) (l : List Nat) : EnvR m (e.keep l) tmps := fun t v hv => by
  rw [Env.get_keep'] at hv
  split at hv
  · exact h t v hv
  · simp at hv
theorem EnvR.put {m : CM} {e : Env} {tmps : Array Value} (h : EnvR m e tmps) {t : Nat} (ht : t < tmps.size) {v : AV} {u : Value} (hv : VR m v u) :
    EnvR m (e.put t v) (tmps.setIfInBounds t u) := fun k w hw => by
  rw [Env.get_put] at hw
  by_cases hk : t = k
  · subst hk
    simp only [if_true, Option.some.injEq] at hw
    subst hw
    refine ⟨by simpa using ht, ?_⟩
    simp [Array.getD, ht, hv]
  · simp only [hk, if_false] at hw
    obtain ⟨h1, h2⟩ := h k w hw
    refine ⟨by simpa using h1, ?_⟩
    have : (tmps.setIfInBounds t u).getD k undef = tmps.getD k undef := by
      simp [Array.getElem?_setIfInBounds_ne hk]
    rw [this]; exact h2
theorem EnvR.putDst {m : CM} {e : Env} {a : Act} (h : EnvR m e a.tmps) {d : Option Nat} (hd : cDst a.tmps.size d = true) {v : AV} {u : Value} (hv : VR m v u) :
    EnvR m (AM.putDst e d v) (a.put d u).tmps := by
  cases d with
  | none => exact h
  | some t =>
    simp only [cDst, decide_eq_true_eq] at hd
    exact h.put hd hv
theorem Act.put_size (a : Act) (d : Option Nat) (u : Value) : (a.put d u).tmps.size = a.tmps.size := by
  cases d <;> simp [Act.put]
theorem opd_vr {m : CM} {e : Env} {a : Act} {nt : Nat} (h : EnvR m e a.tmps) {x : Operand} {y : AOpd} (hc : cOpd nt x = some y) {v : AV} (hv : y.val e = some v) : VR m v (a.eval x) := by
  cases x with
  | tmp t =>
    simp only [cOpd] at hc
    split at hc
    · simp at hc; subst hc
      exact (h t v hv).2
    · simp at hc
  | const c =>
    simp only [cOpd, Option.map_eq_some_iff] at hc
    obtain ⟨b, hb, rfl⟩ := hc
    simp only [AOpd.val, Option.some.injEq] at hv
    subst hv
    exact cv_vr hb
  | func f =>
    simp [cOpd] at hc; subst hc
    simp only [AOpd.val, Option.some.injEq] at hv
    subst hv
    exact .func f .nil .nil
  | global g => simp [cOpd] at hc
theorem opds_vrs {m : CM} {e : Env} {a : Act} {nt : Nat} (h : EnvR m e a.tmps) : ∀ {xs : List Operand} {ys : List AOpd}, cOpds nt xs = some ys → ∀ {vs : List AV}, vals e ys = some vs → VRs m vs (xs.map a.eval)
  | [], ys, hc, vs, hv => by
    simp [cOpds] at hc; subst hc
    simp [vals] at hv; subst hv
    exact .nil
  | x :: xs, ys, hc, vs, hv => by
    simp only [cOpds] at hc
    split at hc
    · rename_i y hy
      split at hc
      · rename_i l hl
        simp at hc; subst hc
        simp only [vals] at hv
        split at hv
        · rename_i v hv1
          split at hv
          · rename_i vs' hvs
            simp at hv; subst hv
            exact .cons (opd_vr h hy hv1) (opds_vrs h hl hvs)
          · simp at hv
        · simp at hv
      · simp at hc
    · simp at hc
theorem opt_vr {m : CM} {e : Env} {a : Act} {nt : Nat} (h : EnvR m e a.tmps) {x : Option Operand} {y : Option AOpd} (hc : cOpt nt x = some y) {v : Option AV} (hv : optVal e y = some v) :
    (x = none ∧ v = none) ∨ ∃ o w, x = some o ∧ v = some w ∧ VR m w (a.eval o) := by
  cases x with
  | none =>
    simp [cOpt] at hc; subst hc
    simp [optVal] at hv; subst hv
    exact .inl ⟨rfl, rfl⟩
  | some o =>
    simp only [cOpt, Option.map_eq_some_iff] at hc
    obtain ⟨b, hb, rfl⟩ := hc
    simp only [optVal] at hv
    split at hv
    · rename_i w hw
      simp at hv; subst hv
      exact .inr ⟨o, w, rfl, rfl, opd_vr h hb hw⟩
    · simp at hv
def PendR : AExit → Option Code → Prop
  | .normal, none => True
  | .ret, some .ret => True
  | .exit id, some (.exit id') => id = id'
  | _, _ => False
def StateR : LState → LoopState → Prop
  | .ready, .ready => True
  | .busy, .busy => True
  | .done, .done => True
  | .over, .exhausted => True
  | _, _ => False
structure LoopR (P : Program) (m : CM) (L : ALoop) (L' : Loop) : Prop where
  state : StateR L.state L'.state
  pending : PendR L.pending L'.pending
  env : EnvR m L.env L'.tmps
  params : L'.params.toList = L.params
  below : ∀ t ∈ L.params, t < L'.tmps.size
  assign : ∃ kp, cCode P L'.tmps.size kp L'.assign = some L.assign
  body : ∃ kp, cCode P L'.tmps.size kp L'.body = some L.body
inductive MapR (m : CM) : List (AV × AV) → List MapEntry → Prop where
  | nil : MapR m [] []
  | cons {k v : AV} {e : MapEntry} {es : List (AV × AV)} {es' : List MapEntry} (hk : VR m k e.key) (hv : VR m v e.val) (t : MapR m es es') : MapR m ((k, v) :: es) (e :: es')
def CellsR (m : CM) (vs : List AV) (o : Nat) (arr : Array Value) : Prop := ∀ i v, vs[i]? = some v → ∃ u, arr[o + i]? = some u ∧ VR m v u
def ObjR (P : Program) (N : Nat) (m : CM) : Option AObj → Nat → Nat → Nat → Array Obj → Prop
  | some (.cells true vs), c, o, _, heap => c < N ∧ ∃ arr e fz, heap[c]? = some (.cells arr e fz) ∧ CellsR m vs o arr
  | some (.cells false vs), c, o, n, heap => N ≤ c ∧ ∃ arr e lo hi, heap[c]? = some (.cells arr e (lo, hi)) ∧ arr.size = n ∧ (hi ≤ lo ∨ n ≤ lo) ∧ o + vs.length ≤ n ∧ CellsR m vs o arr
  | some (.map es), c, o, _, heap => N ≤ c ∧ o = 0 ∧ ∃ es' clk, heap[c]? = some (.map es' clk) ∧ MapR m es es'.toList
  | some (.strIter s pos), c, o, _, heap => N ≤ c ∧ o = 0 ∧ heap[c]? = some (.stringIter s pos)
  | some (.loop L), c, o, _, heap => N ≤ c ∧ o = 0 ∧ ∃ L', heap[c]? = some (.loop L') ∧ LoopR P m L L'
  | _, _, _, _, _ => True
def AObj.live : AObj → Bool
  | .dead => false
  | .cells ro _ => !ro
  | _ => true
def Live (H : AH) (b : Nat) : Prop := ∃ o, H.get b = some o ∧ o.live = true
structure Rel (P : Program) (base : Array Obj) (m : CM) (H : AH) (w : World) : Prop where
  old : ∀ c, c < base.size → w.heap[c]? = base[c]?
  size : base.size ≤ w.heap.size
  top : ∀ b, H.next ≤ b → m b = none
  blk : ∀ b c o n, m b = some (c, o, n) → c < w.heap.size ∧ ObjR P base.size m (H.get b) c o n w.heap
  inj : ∀ b b' c o o' n n', m b = some (c, o, n) → m b' = some (c, o', n') → Live H b → Live H b' → b = b'
def Free (m : CM) (c : Nat) : Prop := ∀ b o n, m b ≠ some (c, o, n)
structure Ext (m : CM) (H : AH) (w : World) (m' : CM) (H' : AH) (w' : World) : Prop where
  le : m.le m'
  next : H.next ≤ H'.next
  heap : w.heap.size ≤ w'.heap.size
  free : ∀ c, c < w.heap.size → Free m c → Free m' c ∧ w'.heap[c]? = w.heap[c]?
  unreal : ∀ b, b < H.next → m b = none → m' b = none ∧ H'.get b = H.get b
  loops : ∀ b, (∃ L, H.get b = some (.loop L)) → b < H.next → ∃ L, H'.get b = some (.loop L)
  os : w'.os = w.os ∧ w'.output = w.output
theorem Ext.refl (m : CM) (H : AH) (w : World) : Ext m H w m H w :=
  ⟨leR m, Nat.le_refl _, Nat.le_refl _, fun _ _ h => ⟨h, rfl⟩, fun _ _ h => ⟨h, rfl⟩, fun _ h _ => h, rfl, rfl⟩
theorem Ext.trans {m m' m'' : CM} {H H' H'' : AH} {w w' w'' : World} (h : Ext m H w m' H' w') (h' : Ext m' H' w' m'' H'' w'') : Ext m H w m'' H'' w'' :=
  ⟨leT h.le h'.le, Nat.le_trans h.next h'.next, Nat.le_trans h.heap h'.heap,
   fun c hc hf => ⟨(h'.free c (Nat.lt_of_lt_of_le hc h.heap) (h.free c hc hf).1).1, ((h'.free c (Nat.lt_of_lt_of_le hc h.heap) (h.free c hc hf).1).2).trans (h.free c hc hf).2⟩,
   fun b hb hn => ⟨(h'.unreal b (Nat.lt_of_lt_of_le hb h.next) (h.unreal b hb hn).1).1, ((h'.unreal b (Nat.lt_of_lt_of_le hb h.next) (h.unreal b hb hn).1).2).trans (h.unreal b hb hn).2⟩,
   fun b hl hb => h'.loops b (h.loops b hl hb) (Nat.lt_of_lt_of_le hb h.next), h'.os.1.trans h.os.1, h'.os.2.trans h.os.2⟩
theorem LoopR.mono {P : Program} {m m' : CM} (hm : CM.le m m') {L : ALoop} {L' : Loop} (h : LoopR P m L L') : LoopR P m' L L' :=
  ⟨h.state, h.pending, h.env.mono hm, h.params, h.below, h.assign, h.body⟩
theorem MapR.mono {m m' : CM} (hm : CM.le m m') : ∀ {es : List (AV × AV)} {es' : List MapEntry}, MapR m es es' → MapR m' es es'
  | _, _, .nil => .nil
  | _, _, .cons hk hv t => .cons (hk.mono hm) (hv.mono hm) (MapR.mono hm t)
theorem CellsR.mono {m m' : CM} (hm : CM.le m m') {vs : List AV} {o : Nat} {arr : Array Value} (h : CellsR m vs o arr) : CellsR m' vs o arr :=
  fun i v hv => let ⟨u, h1, h2⟩ := h i v hv; ⟨u, h1, h2.mono hm⟩
theorem ObjR.mono {P : Program} {N : Nat} {m m' : CM} (hm : CM.le m m') {ob : Option AObj} {c o n : Nat} {heap heap' : Array Obj} (hh : heap'[c]? = heap[c]?)
    (h : ObjR P N m ob c o n heap) : ObjR P N m' ob c o n heap' := by
  cases ob with
  | none => trivial
  | some x =>
    cases x with
    | dead => trivial
    | cells ro vs =>
      cases ro with
      | true =>
        obtain ⟨h1, arr, e, fz, h2, h3⟩ := h
        exact ⟨h1, arr, e, fz, hh.trans h2, h3.mono hm⟩
      | false =>
        obtain ⟨h1, arr, e, lo, hi, h2, h3, h4, h5, h6⟩ := h
        exact ⟨h1, arr, e, lo, hi, hh.trans h2, h3, h4, h5, h6.mono hm⟩
    | map es =>
      obtain ⟨h1, h2, es', clk, h3, h4⟩ := h
      exact ⟨h1, h2, es', clk, hh.trans h3, h4.mono hm⟩
    | strIter s pos =>
      obtain ⟨h1, h2, h3⟩ := h
      exact ⟨h1, h2, hh.trans h3⟩
    | loop L =>
      obtain ⟨h1, h2, L', h3, h4⟩ := h
      exact ⟨h1, h2, L', hh.trans h3, h4.mono hm⟩
def CM.add (m : CM) (b : Nat) (x : Nat × Nat × Nat) : CM := fun k => if k = b then some x else m k
theorem CM.add_le {m : CM} {b : Nat} {x : Nat × Nat × Nat} (h : m b = none) : CM.le m (CM.add m b x) := fun k y hy => by
  unfold CM.add
  by_cases hk : k = b
  · subst hk; rw [h] at hy; cases hy
  · rw [if_neg hk]; exact hy
@[simp] theorem CM.add_same (m : CM) (b : Nat) (x : Nat × Nat × Nat) : CM.add m b x b = some x := by simp [CM.add]
theorem CM.add_ne (m : CM) {b k : Nat} (x : Nat × Nat × Nat) (h : k ≠ b) : CM.add m b x k = m k := by simp [CM.add, h]
theorem alloc_get (w : World) (o : Obj) (k : Nat) : (w.alloc o).heap[k]? = if k = w.heap.size then some o else w.heap[k]? := by
  show (w.heap.push o)[k]? = _
  rw [Array.getElem?_push]
theorem alloc_get_ne (w : World) (o : Obj) {k : Nat} (h : k ≠ w.heap.size) : (w.alloc o).heap[k]? = w.heap[k]? := by
  rw [alloc_get, if_neg h]
theorem Rel.drew {P : Program} {base : Array Obj} {m : CM} {H : AH} {w w' : World} (h : Rel P base m H w) (hw : w'.heap = w.heap) : Rel P base m H w' :=
  ⟨fun c hc => by rw [hw]; exact h.old c hc, by rw [hw]; exact h.size, h.top, fun b c o n hb => by rw [hw]; exact h.blk b c o n hb, h.inj⟩
theorem Ext.drew {m : CM} {H : AH} {w w' : World} (hw : w'.heap = w.heap) (hos : w'.os = w.os ∧ w'.output = w.output := by exact ⟨rfl, rfl⟩) : Ext m H w m H w' :=
  ⟨leR m, Nat.le_refl _, by rw [hw]; exact Nat.le_refl _, fun _ _ h => ⟨h, by rw [hw]⟩, fun _ _ h => ⟨h, rfl⟩, fun _ h _ => h, hos⟩
theorem Rel.realize {P : Program} {base : Array Obj} {m : CM} {H : AH} {w : World} (h : Rel P base m H w) {b : Nat} (hb : b < H.next) (hm : m b = none) {n : Nat} {oC : Obj}
    (hob : ObjR P base.size (CM.add m b (w.heap.size, 0, n)) (H.get b) w.heap.size 0 n (w.heap.push oC)) :
    Rel P base (CM.add m b (w.heap.size, 0, n)) H (w.alloc oC) := by
  have hle := CM.add_le (x := (w.heap.size, 0, n)) hm
  refine ⟨fun c hc => ?_, ?_, fun k hk => ?_, fun k c o n' hk => ?_, fun k k' c o o' n1 n2 h1 h2 l1 l2 => ?_⟩
  · have : c ≠ w.heap.size := by have := h.size; omega
    rw [alloc_get_ne _ _ this, h.old c hc]
  · have := h.size; simp; omega
  · have : k ≠ b := by omega
    rw [CM.add_ne _ _ this]; exact h.top k hk
  · by_cases hkb : k = b
    · subst hkb
      rw [CM.add_same] at hk
      simp only [Option.some.injEq, Prod.mk.injEq] at hk
      obtain ⟨rfl, rfl, rfl⟩ := hk
      exact ⟨by simp, hob⟩
    · rw [CM.add_ne _ _ hkb] at hk
      obtain ⟨h1, h2⟩ := h.blk k c o n' hk
      refine ⟨by simp; omega, h2.mono hle ?_⟩
      have : c ≠ w.heap.size := by omega
      exact alloc_get_ne _ _ this
  · by_cases hk1 : k = b
    · by_cases hk2 : k' = b
      · rw [hk1, hk2]
      · subst hk1
        rw [CM.add_same] at h1
        rw [CM.add_ne _ _ hk2] at h2
        simp only [Option.some.injEq, Prod.mk.injEq] at h1
        have := (h.blk _ _ _ _ h2).1
        omega
    · rw [CM.add_ne _ _ hk1] at h1
      by_cases hk2 : k' = b
      · subst hk2
        rw [CM.add_same] at h2
        simp only [Option.some.injEq, Prod.mk.injEq] at h2
        have := (h.blk _ _ _ _ h1).1
        omega
      · rw [CM.add_ne _ _ hk2] at h2
        exact h.inj k k' c o o' n1 n2 h1 h2 l1 l2
theorem Ext.realize {m : CM} {H : AH} {w : World} {b : Nat} (_hm : m b = none) {n : Nat} {oC : Obj} (hall : ∀ k c o n, m k = some (c, o, n) → c < w.heap.size) :
    (CM.le m (CM.add m b (w.heap.size, 0, n))) ∧ (∀ c, c < w.heap.size → Free m c → Free (CM.add m b (w.heap.size, 0, n)) c ∧ (w.alloc oC).heap[c]? = w.heap[c]?) := by
  refine ⟨CM.add_le _hm, fun c hc hf => ⟨fun k o n' hk => ?_, ?_⟩⟩
  · by_cases hkb : k = b
    · subst hkb
      rw [CM.add_same] at hk
      simp only [Option.some.injEq, Prod.mk.injEq] at hk
      omega
    · rw [CM.add_ne _ _ hkb] at hk
      exact hf k o n' hk
  · have : c ≠ w.heap.size := by omega
    exact alloc_get_ne _ _ this
theorem Rel.unreal {P : Program} {base : Array Obj} {m : CM} {H : AH} {w : World} (h : Rel P base m H w) (o : AObj) : Rel P base m (H.alloc o) w := by
  refine ⟨h.old, h.size, fun b hb => h.top b (by simp at hb; omega), fun b c o' n hb => ?_, fun b b' c o1 o2 n1 n2 h1 h2 l1 l2 => ?_⟩
  · have hne : b ≠ H.next := fun e => by rw [h.top b (by omega)] at hb; cases hb
    rw [AH.get_alloc, if_neg hne]; exact h.blk b c o' n hb
  · have hne : b ≠ H.next := fun e => by rw [h.top b (by omega)] at h1; cases h1
    have hne' : b' ≠ H.next := fun e => by rw [h.top b' (by omega)] at h2; cases h2
    obtain ⟨x, hx, hl⟩ := l1
    obtain ⟨x', hx', hl'⟩ := l2
    rw [AH.get_alloc, if_neg hne] at hx
    rw [AH.get_alloc, if_neg hne'] at hx'
    exact h.inj b b' c o1 o2 n1 n2 h1 h2 ⟨x, hx, hl⟩ ⟨x', hx', hl'⟩
theorem Ext.unreal' {m : CM} {H : AH} {w : World} (o : AObj) (hm : m H.next = none) : Ext m H w m (H.alloc o) w :=
  ⟨leR m, by simp, Nat.le_refl _, fun _ _ h => ⟨h, rfl⟩, fun b hb h => ⟨h, by rw [AH.get_alloc, if_neg (by omega)]⟩, fun b hl hb => by rw [AH.get_alloc, if_neg (by omega)]; exact hl, rfl, rfl⟩
theorem Rel.alloc {P : Program} {base : Array Obj} {m : CM} {H : AH} {w : World} (h : Rel P base m H w) {oA : AObj} {oC : Obj} {n : Nat}
    (hob : ∀ m', CM.le m m' → ObjR P base.size m' (some oA) w.heap.size 0 n (w.heap.push oC)) :
    Rel P base (CM.add m H.next (w.heap.size, 0, n)) (H.alloc oA) (w.alloc oC) ∧ Ext m H w (CM.add m H.next (w.heap.size, 0, n)) (H.alloc oA) (w.alloc oC) := by
  have hm : m H.next = none := h.top _ (Nat.le_refl _)
  have h1 := h.unreal oA
  refine ⟨h1.realize (by simp) hm ?_, ?_⟩
  · rw [AH.get_alloc, if_pos rfl]; exact hob _ (CM.add_le hm)
  · obtain ⟨e1, e2⟩ := Ext.realize (H := H) (w := w) (n := n) (oC := oC) hm (fun k c o n hk => (h.blk k c o n hk).1)
    refine ⟨e1, by simp, by simp, e2, fun b hb hn => ⟨?_, by rw [AH.get_alloc, if_neg (by omega)]⟩, fun b hl hb => by rw [AH.get_alloc, if_neg (by omega)]; exact hl, rfl, rfl⟩
    rw [CM.add_ne _ _ (by omega)]; exact hn
theorem Rel.turn {P : Program} {base : Array Obj} {m : CM} {H : AH} {w w' : World} (h : Rel P base m H w) {b c o n : Nat} (hb : m b = some (c, o, n)) (hl : Live H b) (hN : base.size ≤ c) {oA : AObj}
    (hheap : ∀ k, k ≠ c → w'.heap[k]? = w.heap[k]?) (hs : w'.heap.size = w.heap.size) (hob : ObjR P base.size m (some oA) c o n w'.heap) (hlp : ∀ L, H.get b = some (.loop L) → ∃ L', oA = .loop L' := by intro L hL; simp_all) (hos : w'.os = w.os ∧ w'.output = w.output := by exact ⟨rfl, rfl⟩) :
    Rel P base m (H.set b oA) w' ∧ Ext m H w m (H.set b oA) w' := by
  have hro : ∀ k c' o' n', m k = some (c', o', n') → k ≠ b → c' = c → ¬ Live H k := fun k c' o' n' hk hkb hc hlk =>
    hkb (h.inj k b c' o' o n' n hk (by rw [hc]; exact hb) hlk hl)
  refine ⟨⟨fun k hk => ?_, by rw [hs]; exact h.size, fun k hk => h.top k hk, fun k c' o' n' hk => ?_, fun k k' c' o1 o2 n1 n2 h1 h2 l1 l2 => ?_⟩, ?_⟩
  · rw [hheap k (by omega)]; exact h.old k hk
  · obtain ⟨h1, h2⟩ := h.blk k c' o' n' hk
    refine ⟨by rw [hs]; exact h1, ?_⟩
    rw [AH.get_set]
    by_cases hkb : k = b
    · subst hkb
      rw [hb] at hk
      simp only [Option.some.injEq, Prod.mk.injEq] at hk
      obtain ⟨rfl, rfl, rfl⟩ := hk
      rw [if_pos rfl]; exact hob
    · rw [if_neg hkb]
      by_cases hc : c' = c
      · have hnl := hro k c' o' n' hk hkb hc
        cases hg : H.get k with
        | none => trivial
        | some x =>
          rw [hg] at h2
          cases x with
          | dead => trivial
          | cells ro vs =>
            cases ro with
            | true =>
              obtain ⟨h3, _⟩ := h2
              omega
            | false => exact absurd ⟨_, hg, rfl⟩ hnl
          | map es => exact absurd ⟨_, hg, rfl⟩ hnl
          | strIter s p => exact absurd ⟨_, hg, rfl⟩ hnl
          | loop L => exact absurd ⟨_, hg, rfl⟩ hnl
      · exact h2.mono (leR m) (hheap c' hc)
  · have key : ∀ k, Live (H.set b oA) k → Live H k := fun k ⟨x, hx, hlx⟩ => by
      rw [AH.get_set] at hx
      by_cases hkb : k = b
      · rw [hkb]; exact hl
      · rw [if_neg hkb] at hx; exact ⟨x, hx, hlx⟩
    exact h.inj k k' c' o1 o2 n1 n2 h1 h2 (key k l1) (key k' l2)
  · refine ⟨leR m, Nat.le_refl _, by rw [hs]; exact Nat.le_refl _, fun k hk hf => ⟨hf, hheap k fun e => ?_⟩, fun k hk hn => ⟨hn, ?_⟩, fun k hk hlt => ?_, hos⟩
    · subst e; exact hf b o n hb
    · rw [AH.get_set, if_neg]
      intro e; subst e; rw [hb] at hn; cases hn
    · rw [AH.get_set]
      by_cases hkb : k = b
      · subst hkb
        obtain ⟨L, hL⟩ := hk
        obtain ⟨L', rfl⟩ := hlp L hL
        exact ⟨L', by rw [if_pos rfl]⟩
      · rw [if_neg hkb]; exact hk
end Go.AM
namespace Go.AM
section
variable {P : Program} {w : World}
theorem run_underlying' {t : TypeId} {d : TypeDesc} (h : P.underlying t = some d) : (underlying t).run P w = .ok d w := by
  simp [underlying, h]
theorem run_sizeOf' {t : TypeId} {n : Nat} (h : sizeT P t = some n) : (sizeOf t).run P w = .ok n w := by
  simp only [sizeT, Option.map_eq_some_iff] at h
  obtain ⟨i, hi, rfl⟩ := h
  simp [sizeOf, typeInfo, hi]
theorem run_typeInfo' {t : TypeId} {i : TypeInfo} (h : P.info? t = some i) : (typeInfo t).run P w = .ok i w := by
  simp [typeInfo, h]
theorem run_zeroValue' {t : TypeId} {v : Value} (h : zeroT P t = some v) : (zeroValue t).run P w = .ok v w := by
  simp only [zeroT, Option.bind_eq_some_iff] at h
  obtain ⟨i, hi, hz⟩ := h
  simp [zeroValue, typeInfo, hi, hz]
theorem run_isAgg' {t : TypeId} {b : Bool} (h : aggT P t = some b) : (isAgg t).run P w = .ok b w := by
  simp only [aggT] at h
  split at h
  · rename_i hd; simp at h; subst h; simp [isAgg, run_underlying' hd]
  · rename_i hd; simp at h; subst h; simp [isAgg, run_underlying' hd]
  · rename_i d h1 h2 hd
    simp at h; subst h
    unfold isAgg
    simp only [Sem.run_bind, run_underlying' hd, Result.andThen_ok]
    rfl
  · simp at h
theorem addr_add (c o n : Nat) : (⟨c, o, none⟩ : Addr).add n = ⟨c, o + n, none⟩ := by
  unfold Addr.add
  split
  · subst_vars; rfl
  · rfl
theorem cell_of {c : Nat} {arr : Array Value} {e : TypeId} {fz : Nat × Nat} (h : w.heap[c]? = some (.cells arr e fz)) (j : Nat) : w.cell? ⟨c, j, none⟩ = arr[j]? := by
  simp [World.cell?, h]
theorem frozen_of {c : Nat} {arr : Array Value} {e : TypeId} {lo hi : Nat} (h : w.heap[c]? = some (.cells arr e (lo, hi))) (j : Nat) : w.frozen? ⟨c, j, none⟩ = (decide (lo ≤ j) && decide (j < hi)) := by
  simp [World.frozen?, h]
theorem Rel.cell {base : Array Obj} {m : CM} {H : AH} (h : Rel P base m H w) {b c o n i : Nat} (hb : m b = some (c, o, n)) {ro : Bool} {vs : List AV} (hg : H.get b = some (.cells ro vs)) {v : AV} (hv : vs[i]? = some v) :
    ∃ u, w.cell? ⟨c, o + i, none⟩ = some u ∧ VR m v u := by
  obtain ⟨_, h2⟩ := h.blk b c o n hb
  rw [hg] at h2
  cases ro with
  | true =>
    obtain ⟨_, arr, e, fz, h3, h4⟩ := h2
    obtain ⟨u, h5, h6⟩ := h4 i v hv
    exact ⟨u, by rw [cell_of h3]; exact h5, h6⟩
  | false =>
    obtain ⟨_, arr, e, lo, hi, h3, _, _, _, h4⟩ := h2
    obtain ⟨u, h5, h6⟩ := h4 i v hv
    exact ⟨u, by rw [cell_of h3]; exact h5, h6⟩
theorem run_load_cell {a : Addr} {u : Value} (h : w.cell? a = some u) : (load a).run P w = .ok u w := by
  rw [run_load, h]
theorem run_loadCellsFrom {m : CM} (c k : Nat) : ∀ (vs : List AV) (i : Nat) (acc : Array Value), (∀ j v, vs[j]? = some v → ∃ u, w.cell? ⟨c, k + i + j, none⟩ = some u ∧ VR m v u) →
    ∃ us, VRs m vs us ∧ (loadCellsFrom ⟨c, k, none⟩ i vs.length acc).run P w = .ok (acc ++ us.toArray) w
  | [], i, acc, _ => ⟨[], .nil, by simp [loadCellsFrom]⟩
  | v :: vs, i, acc, h => by
    obtain ⟨u, hu, hv⟩ := h 0 v rfl
    obtain ⟨us, hus, hr⟩ := run_loadCellsFrom c k vs (i + 1) (acc.push u) (fun j v' hv' => by
      have := h (j + 1) v' (by simpa using hv')
      rwa [show k + (i + 1) + j = k + i + (j + 1) from by omega])
    refine ⟨u :: us, .cons hv hus, ?_⟩
    simp only [List.length_cons, loadCellsFrom, Sem.run_bind, addr_add]
    rw [run_load_cell (by simpa using hu)]
    simp only [Result.andThen_ok]
    rw [hr]
    congr 1
    simp
theorem Rel.loadCells {base : Array Obj} {m : CM} {H : AH} (h : Rel P base m H w) {b c o n i k : Nat} (hb : m b = some (c, o, n)) {cs : List AV} (hr : H.read b i k = some cs) :
    ∃ us, VRs m cs us ∧ (Go.loadCells ⟨c, o + i, none⟩ k).run P w = .ok us.toArray w := by
  unfold AH.read at hr
  split at hr
  · rename_i ro vs hg
    unfold readN at hr
    split at hr
    · rename_i hle
      simp only [Option.some.injEq] at hr
      subst hr
      obtain ⟨us, h1, h2⟩ := run_loadCellsFrom (P := P) (w := w) (m := m) c (o + i) ((vs.drop i).take k) 0 #[] (fun j v hv => by
        rw [List.getElem?_take] at hv
        split at hv
        · rw [List.getElem?_drop] at hv
          obtain ⟨u, h3, h4⟩ := h.cell hb hg hv
          exact ⟨u, by rw [show o + i + 0 + j = o + (i + j) from by omega]; exact h3, h4⟩
        · simp at hv)
      refine ⟨us, h1, ?_⟩
      have hl : ((vs.drop i).take k).length = k := by simp; omega
      rw [hl] at h2
      simpa [Go.loadCells] using h2
    · simp at hr
  · simp at hr
theorem read_length {H : AH} {b i k : Nat} {cs : List AV} (hr : H.read b i k = some cs) : cs.length = k := by
  unfold AH.read at hr
  split at hr
  · unfold readN at hr
    split at hr
    · simp at hr; subst hr; simp; omega
    · simp at hr
  · simp at hr
theorem run_store_cell {c j : Nat} {arr : Array Value} {e : TypeId} {lo hi : Nat} (h : w.heap[c]? = some (.cells arr e (lo, hi))) (hj : j < arr.size) (hf : hi ≤ lo ∨ arr.size ≤ lo) {v : Value} (hv : v.oneCell' = true) :
    ∃ w', (store ⟨c, j, none⟩ v).run P w = .ok () w' ∧ w'.heap.size = w.heap.size ∧ (∀ k, k ≠ c → w'.heap[k]? = w.heap[k]?) ∧ w'.heap[c]? = some (.cells (arr.setIfInBounds j v) e (lo, hi)) ∧ w'.os = w.os ∧ w'.output = w.output := by
  refine ⟨w.setCell ⟨c, j, none⟩ v, ?_, by simp, fun k hk => ?_, ?_, rfl, rfl⟩
  · rw [run_store P w _ v _ hv, cell_of h]
    have : arr[j]? = some arr[j] := by simp [hj]
    simp only [this]
    have hfz : w.frozen? ⟨c, j, none⟩ = false := by
      rw [frozen_of h]
      rcases hf with hf | hf
      · by_cases h1 : lo ≤ j
        · have : ¬ j < hi := by omega
          simp [this]
        · simp [h1]
      · have : ¬ lo ≤ j := by omega
        simp [this]
    simp [hfz]
  · simp only [World.setCell, Array.getElem?_modify]
    have hk' : ¬ c = k := fun e => hk e.symm
    simp [hk']
  · simp [World.setCell, Array.getElem?_modify, h]
theorem run_storeCells {c k : Nat} {e : TypeId} {lo hi : Nat} : ∀ (us : List Value) (i : Nat) (w : World) (arr : Array Value), w.heap[c]? = some (.cells arr e (lo, hi)) → k + i + us.length ≤ arr.size → (hi ≤ lo ∨ arr.size ≤ lo) → (∀ u ∈ us, u.oneCell' = true) →
    ∃ w' arr', (storeCells ⟨c, k, none⟩ us i).run P w = .ok () w' ∧ w'.heap.size = w.heap.size ∧ (∀ x, x ≠ c → w'.heap[x]? = w.heap[x]?) ∧ w'.heap[c]? = some (.cells arr' e (lo, hi)) ∧
      arr'.size = arr.size ∧ (w'.os = w.os ∧ w'.output = w.output) ∧ ∀ j, arr'[j]? = if k + i ≤ j ∧ j < k + i + us.length then us[j - (k + i)]? else arr[j]?
  | [], i, w, arr, h, _, _, _ => ⟨w, arr, by simp [storeCells], rfl, fun _ _ => rfl, h, rfl, ⟨rfl, rfl⟩, fun j => by
      rw [if_neg (by simp only [List.length_nil]; omega)]⟩
  | u :: us, i, w, arr, h, hle, hf, hc => by
    simp only [List.length_cons] at hle
    obtain ⟨w1, h1, h2, h3, h4, ho1, ho2⟩ := run_store_cell (P := P) (j := k + i) h (by omega) hf (hc u (by simp))
    obtain ⟨w2, arr2, h5, h6, h7, h8, h9, ho3, h10⟩ := run_storeCells (k := k) us (i + 1) w1 (arr.setIfInBounds (k + i) u) h4 (by rw [Array.size_setIfInBounds]; omega) (by simpa using hf) (fun u' hu' => hc u' (by simp [hu']))
    refine ⟨w2, arr2, ?_, h6.trans h2, fun x hx => (h7 x hx).trans (h3 x hx), h8, by simpa using h9, ⟨ho3.1.trans ho1, ho3.2.trans ho2⟩, fun j => ?_⟩
    · simp only [storeCells, Sem.run_bind, addr_add]
      rw [h1]
      exact h5
    · rw [h10]
      by_cases hj : j = k + i
      · subst hj
        rw [if_neg (by omega), if_pos (by simp), Array.getElem?_setIfInBounds]
        have : k + i < arr.size := by omega
        simp [this]
      · by_cases h11 : k + (i + 1) ≤ j ∧ j < k + (i + 1) + us.length
        · rw [if_pos h11, if_pos (by simp only [List.length_cons]; omega)]
          have : j - (k + i) = (j - (k + (i + 1))) + 1 := by omega
          rw [this, List.getElem?_cons_succ]
        · rw [if_neg h11, if_neg (by simp only [List.length_cons]; omega), Array.getElem?_setIfInBounds_ne (fun e => hj e.symm)]
theorem writeN_length : ∀ {vs : List AV} {i : Nat} {xs vs' : List AV}, writeN vs i xs = some vs' → vs'.length = vs.length ∧ (xs = [] ∨ i + xs.length ≤ vs.length)
  | vs, i, [], vs', h => by
    cases vs <;> simp [writeN] at h <;> subst h <;> simp
  | [], _, x :: xs, _, h => by simp [writeN] at h
  | v :: vs, 0, x :: xs, vs', h => by
    simp only [writeN, Option.map_eq_some_iff] at h
    obtain ⟨l, hl, rfl⟩ := h
    obtain ⟨h1, h2⟩ := writeN_length hl
    refine ⟨by simp [h1], .inr ?_⟩
    rcases h2 with rfl | h2 <;> simp at * <;> omega
  | v :: vs, i + 1, x :: xs, vs', h => by
    simp only [writeN, Option.map_eq_some_iff] at h
    obtain ⟨l, hl, rfl⟩ := h
    obtain ⟨h1, h2⟩ := writeN_length hl
    refine ⟨by simp [h1], .inr ?_⟩
    rcases h2 with h2 | h2 <;> simp at * <;> omega
theorem writeN_get : ∀ {vs : List AV} {i : Nat} {xs vs' : List AV}, writeN vs i xs = some vs' → ∀ j, vs'[j]? = if i ≤ j ∧ j < i + xs.length then xs[j - i]? else vs[j]?
  | vs, i, [], vs', h, j => by
    have : vs' = vs := by cases vs <;> simp_all [writeN]
    rw [this, if_neg (by simp only [List.length_nil]; omega)]
  | [], _, x :: xs, _, h, j => by simp [writeN] at h
  | v :: vs, 0, x :: xs, vs', h, j => by
    simp only [writeN, Option.map_eq_some_iff] at h
    obtain ⟨l, hl, rfl⟩ := h
    cases j with
    | zero => simp
    | succ j =>
      have := writeN_get hl j
      simp only [List.getElem?_cons_succ, this, List.length_cons]
      by_cases h1 : j < xs.length
      · rw [if_pos (by omega), if_pos (by omega)]; simp
      · rw [if_neg (by omega), if_neg (by omega)]
  | v :: vs, i + 1, x :: xs, vs', h, j => by
    simp only [writeN, Option.map_eq_some_iff] at h
    obtain ⟨l, hl, rfl⟩ := h
    cases j with
    | zero => simp
    | succ j =>
      have := writeN_get hl j
      simp only [List.getElem?_cons_succ, this, List.length_cons]
      by_cases h1 : i ≤ j ∧ j < i + (xs.length + 1)
      · rw [if_pos h1, if_pos (by omega)]; congr 1; omega
      · rw [if_neg h1, if_neg (by omega)]
theorem VRs.oneCell {m : CM} : ∀ {xs : List AV} {us : List Value}, VRs m xs us → xs.all AV.isCell = true → ∀ u ∈ us, u.oneCell' = true
  | _, _, .nil, _, u, hu => by simp at hu
  | _, _, .cons h t, hc, u, hu => by
    simp only [List.all_cons, Bool.and_eq_true] at hc
    simp only [List.mem_cons] at hu
    rcases hu with rfl | hu
    · exact h.isCell hc.1
    · exact VRs.oneCell t hc.2 u hu
theorem Rel.write {base : Array Obj} {m : CM} {H H' : AH} (h : Rel P base m H w) {b c o n i : Nat} (hb : m b = some (c, o, n)) {xs : List AV} (hw : H.write b i xs = some H') {us : List Value} (hx : VRs m xs us) :
    ∃ w', (storeCells ⟨c, o + i, none⟩ us).run P w = .ok () w' ∧ Rel P base m H' w' ∧ Ext m H w m H' w' := by
  unfold AH.write at hw
  split at hw
  · rename_i vs hg
    split at hw
    · rename_i vs' hvs
      split at hw
      · rename_i hall
        simp only [Option.some.injEq] at hw
        subst hw
        obtain ⟨h1, h2⟩ := h.blk b c o n hb
        rw [hg] at h2
        obtain ⟨hN, arr, e, lo, hi, h3, h4, h5, h6, h7⟩ := h2
        obtain ⟨hl1, hl2⟩ := writeN_length hvs
        have hlen := VRs.length hx
        have hle : o + i + 0 + us.length ≤ arr.size ∨ us = [] := by
          rcases hl2 with rfl | hl2
          · right; cases hx; rfl
          · left; omega
        rcases hle with hle | rfl
        · obtain ⟨w', arr', r1, r2, r3, r4, r5, r7, r6⟩ := run_storeCells (P := P) (c := c) (k := o + i) us 0 w arr h3 hle (by rw [h4]; exact h5) (VRs.oneCell hx hall)
          have hob : CellsR m vs' o arr' := fun j v hv => by
            rw [r6]
            rw [writeN_get hvs] at hv
            by_cases hj : i ≤ j ∧ j < i + xs.length
            · rw [if_pos hj] at hv
              rw [if_pos (by omega)]
              obtain ⟨u, hu1, hu2⟩ := VRs.get hx _ _ hv
              exact ⟨u, by rw [show o + j - (o + i + 0) = j - i from by omega]; exact hu1, hu2⟩
            · rw [if_neg hj] at hv
              rw [if_neg (by omega)]
              exact h7 j v hv
          obtain ⟨q1, q2⟩ := h.turn (w' := w') hb ⟨_, hg, rfl⟩ hN r3 r2 (oA := .cells false vs') ⟨hN, arr', e, lo, hi, r4, by rw [r5, h4], h5, by rw [hl1]; exact h6, hob⟩ (hos := r7)
          exact ⟨w', r1, q1, q2⟩
        · cases hx
          have : vs' = vs := by cases vs <;> simp_all [writeN]
          subst this
          obtain ⟨q1, q2⟩ := h.turn (w' := w) hb ⟨_, hg, rfl⟩ hN (fun _ _ => rfl) rfl (oA := .cells false vs') ⟨hN, arr, e, lo, hi, h3, h4, h5, h6, h7⟩
          exact ⟨w, by simp [storeCells], q1, q2⟩
      · simp at hw
    · simp at hw
  · simp at hw
theorem Rel.newCells {base : Array Obj} {m : CM} {H : AH} (h : Rel P base m H w) {cs : List AV} {arr : Array Value} (e : TypeId) (hc : ∀ (i : Nat) (v : AV), cs[i]? = some v → ∃ u, arr[i]? = some u ∧ VR m v u) (hle : cs.length ≤ arr.size) :
    Rel P base (CM.add m H.next (w.heap.size, 0, arr.size)) (H.alloc (.cells false cs)) (w.alloc (.cells arr e)) ∧ Ext m H w (CM.add m H.next (w.heap.size, 0, arr.size)) (H.alloc (.cells false cs)) (w.alloc (.cells arr e)) := by
  refine h.alloc fun m' hm' => ⟨h.size, arr, e, 0, 0, ?_, rfl, .inl (Nat.le_refl _), by omega, fun i v hv => ?_⟩
  · simp
  · obtain ⟨u, h1, h2⟩ := hc i v hv
    exact ⟨u, by simpa using h1, h2.mono hm'⟩
theorem VRs.cellsGet {m : CM} {cs : List AV} {arr : Array Value} (h : VRs m cs arr.toList) : (∀ (i : Nat) (v : AV), cs[i]? = some v → ∃ u, arr[i]? = some u ∧ VR m v u) ∧ cs.length ≤ arr.size := by
  refine ⟨fun i v hv => ?_, ?_⟩
  · obtain ⟨u, h1, h2⟩ := VRs.get h i v hv
    exact ⟨u, by simpa using h1, h2⟩
  · have := VRs.length h; simp at this; omega
end
end Go.AM
namespace Go.AM
def Out (P : Program) (base : Array Obj) (m : CM) (H : AH) (w : World) (s : Sem Next) (v : AV) (H' : AH) : Prop :=
  ∃ nx u w' m', s.run P w = .ok nx w' ∧ (nx = .value u ∨ (nx = .skip ∧ u = undef)) ∧ VR m' v u ∧ Rel P base m' H' w' ∧ Ext m H w m' H' w'
def Val (P : Program) (base : Array Obj) (m : CM) (H : AH) (w : World) (s : Sem Value) (v : AV) (H' : AH) : Prop :=
  ∃ u w' m', s.run P w = .ok u w' ∧ VR m' v u ∧ Rel P base m' H' w' ∧ Ext m H w m' H' w'
section
variable {P : Program} {base : Array Obj} {m : CM} {H H' : AH} {w : World} {nt : Nat} {e : Env} {a : Act} {v : AV}
theorem Val.out {s : Sem Value} (h : Val P base m H w s v H') : Out P base m H w (do pure (.value (← s))) v H' := by
  obtain ⟨u, w', m', h1, h2, h3, h4⟩ := h
  exact ⟨.value u, u, w', m', by simp [h1], .inl rfl, h2, h3, h4⟩
theorem Val.same {s : Sem Value} {u : Value} (hr : Rel P base m H w) (h1 : s.run P w = .ok u w) (h2 : VR m v u) : Val P base m H w s v H :=
  ⟨u, w, m, h1, h2, hr, Ext.refl _ _ _⟩
theorem Out.same {s : Sem Next} {u : Value} (hr : Rel P base m H w) (h1 : s.run P w = .ok (.value u) w) (h2 : VR m v u) : Out P base m H w s v H :=
  ⟨.value u, u, w, m, h1, .inl rfl, h2, hr, Ext.refl _ _ _⟩
def MadeV (P : Program) (N : Nat) (m : CM) (w : World) (s : Sem Value) (mk : Nat → AV) (obj : AObj) : Prop :=
  ∃ u oC k, s.run P w = .ok u (w.alloc oC) ∧ ∀ b m', CM.le m m' → m' b = some (w.heap.size, 0, k) → VR m' (mk b) u ∧ ObjR P N m' (some obj) w.heap.size 0 k (w.heap.push oC)
theorem MadeV.val {s : Sem Value} {mk : Nat → AV} {obj : AObj} (h : MadeV P base.size m w s mk obj) (hr : Rel P base m H w) : Val P base m H w s (mk H.next) (H.alloc obj) := by
  obtain ⟨u, oC, k, h1, h2⟩ := h
  have hm : m H.next = none := hr.top _ (Nat.le_refl _)
  have h3 := h2 H.next (CM.add m H.next (w.heap.size, 0, k)) (CM.add_le hm) (CM.add_same _ _ _)
  have h4 := hr.unreal obj
  have e0 := Ext.unreal' (H := H) (w := w) obj hm
  obtain ⟨e1, e2⟩ := Ext.realize (H := H) (w := w) (n := k) (oC := oC) hm (fun k c o n hk => (hr.blk k c o n hk).1)
  refine ⟨u, w.alloc oC, _, h1, h3.1, h4.realize (by simp) hm (by rw [AH.get_alloc, if_pos rfl]; exact h3.2), ⟨e1, by simp, by simp, e2, fun b hb hn => ⟨?_, by rw [AH.get_alloc, if_neg (by omega)]⟩, e0.loops, rfl, rfl⟩⟩
  rw [CM.add_ne _ _ (by omega)]; exact hn
theorem with1_eq {x : Option AV} {f : AV → ORes} {r : AV × AH} (h : with1 x f = some r) : ∃ v, x = some v ∧ f v = some r := by
  cases x with
  | none => simp [with1] at h
  | some v => exact ⟨v, rfl, h⟩
theorem withL_eq {x : Option (List AV)} {f : List AV → ORes} {r : AV × AH} (h : withL x f = some r) : ∃ v, x = some v ∧ f v = some r := by
  cases x with
  | none => simp [withL] at h
  | some v => exact ⟨v, rfl, h⟩
theorem withP_eq {x : Option (List (Nat × Nat × AV))} {f : List (Nat × Nat × AV) → ORes} {r : AV × AH} (h : withP x f = some r) : ∃ v, x = some v ∧ f v = some r := by
  cases x with
  | none => simp [withP] at h
  | some v => exact ⟨v, rfl, h⟩
theorem withO_eq {x : Option (Option AV)} {f : Option AV → ORes} {r : AV × AH} (h : withO x f = some r) : ∃ v, x = some v ∧ f v = some r := by
  cases x with
  | none => simp [withO] at h
  | some v => exact ⟨v, rfl, h⟩
theorem pureV_eq {x : Option AV} {r : AV × AH} (h : pureV H x = some r) : x = some r.1 ∧ r.2 = H := by
  cases x with
  | none => simp [pureV] at h
  | some v => simp [pureV] at h; subst h; exact ⟨rfl, rfl⟩
theorem val_load {t : TypeId} {x : AV} {u : Value} (hr : Rel P base m H w) (ht : aggT P t = some false) (hx : VR m x u) (h : opLoad x H = some (v, H')) :
    Val P base m H w (Instr.loadAt t u) v H' := by
  cases hx <;> simp only [opLoad, reduceCtorEq] at h
  rename_i b i c o n hb
  obtain ⟨h1, rfl⟩ := pureV_eq h
  unfold AH.read1 at h1
  split at h1
  · rename_i ro vs hg
    obtain ⟨u', hu1, hu2⟩ := hr.cell hb hg h1
    refine Val.same hr ?_ hu2
    simp only [Instr.loadAt, Instr.sureAddr, loadVar, Sem.run_bind, Sem.run_pure, Result.andThen_ok, run_isAgg' ht]
    simpa using run_load_cell hu1
  · simp at h1
theorem aggOf_eq {x : Option (List AV)} {r : AV × AH} (h : aggOf H x = some r) : ∃ cs, x = some cs ∧ r = (.agg cs, H) := by
  cases x with
  | none => simp [aggOf] at h
  | some v => simp [aggOf] at h; exact ⟨v, rfl, h.symm⟩
theorem val_loadN {t : TypeId} {n : Nat} {x : AV} {u : Value} (hr : Rel P base m H w) (ht : aggT P t = some true) (hn : sizeT P t = some n) (hx : VR m x u) (h : opLoadN n x H = some (v, H')) :
    Val P base m H w (Instr.loadAt t u) v H' := by
  cases hx <;> simp only [opLoadN, reduceCtorEq] at h
  rename_i b i c o n' hb
  obtain ⟨cs, h1, h2⟩ := aggOf_eq h
  obtain ⟨rfl, rfl⟩ := Prod.mk.inj h2
  obtain ⟨us, h3, h4⟩ := hr.loadCells hb h1
  refine Val.same hr ?_ (.agg h3)
  simp only [Instr.loadAt, Instr.sureAddr, loadVar, Sem.run_bind, Sem.run_pure, Result.andThen_ok, run_isAgg' ht, if_true, run_sizeOf' hn, h4]
theorem out_store {t : TypeId} {n : Nat} {x y : AV} {u z : Value} (hr : Rel P base m H w) (hn : sizeT P t = some n) (hx : VR m x u) (hy : VR m y z) (h : opStore n x y H = some (v, H')) :
    Out P base m H w (do Instr.storeAt t u z; pure .skip) v H' := by
  cases hx <;> simp only [opStore, reduceCtorEq] at h
  rename_i b i c o n' hb
  split at h
  · rename_i cs hcs
    split at h
    · rename_i hlen
      cases hw : H.write b i cs with
      | none => simp [hw, unitOf] at h
      | some H1 =>
        simp only [hw, unitOf, Option.some.injEq, Prod.mk.injEq] at h
        obtain ⟨rfl, rfl⟩ := h
        have hcz := hy.cells hcs
        obtain ⟨w', h1, h2, h3⟩ := hr.write hb hw hcz
        have hsz : z.cells.size = n := by
          have := VRs.length hcz
          simp at this; omega
        refine ⟨.skip, undef, w', m, ?_, .inr ⟨rfl, rfl⟩, .tuple .nil, h2, h3⟩
        simp only [Instr.storeAt, Instr.sureAddr, storeVar, Sem.run_bind, Sem.run_pure, Result.andThen_ok, run_sizeOf' hn]
        simp only [hsz, ne_eq, not_true_eq_false, if_false, Sem.run_pure, Result.andThen_ok, h1]
    · simp at h
  · simp at h
theorem zeroL_vrs {t : TypeId} {l : List AV} (h : zeroL P t = some l) : ∃ z, zeroT P t = some z ∧ VRs m l z.cells.toList := by
  simp only [zeroL, Option.bind_eq_some_iff] at h
  obtain ⟨z, hz, hl⟩ := h
  exact ⟨z, hz, cvl_vrs hl⟩
theorem made_newRow {N : Nat} {cs : List AV} {arr : Array Value} (el : TypeId) (hN : N ≤ w.heap.size) (hc : VRs m cs arr.toList) :
    (newRow el arr).run P w = .ok ⟨w.heap.size, 0, none⟩ (w.alloc (.cells arr el)) ∧ ∀ b m', CM.le m m' → m' b = some (w.heap.size, 0, arr.size) → VR m' (.ptr b 0) (.pointer (some ⟨w.heap.size, 0, none⟩)) ∧
      (∀ len sz cap, len ≤ cap → cap * sz ≤ arr.size → VR m' (.slice b 0 len sz) (.slice (some ⟨w.heap.size, 0, none⟩) len cap)) ∧ ObjR P N m' (some (.cells false cs)) w.heap.size 0 arr.size (w.heap.push (.cells arr el)) := by
  obtain ⟨h1, h2⟩ := VRs.cellsGet hc
  refine ⟨by simp [newRow], fun b m' hm' hb => ⟨.ptr hb, fun len sz cap hl hcap => .slice hb hl (by omega), hN, arr, el, 0, 0, by simp, rfl, .inl (Nat.le_refl _), by omega, fun i v hv => ?_⟩⟩
  obtain ⟨u, h3, h4⟩ := h1 i v hv
  exact ⟨u, by simpa using h3, h4.mono hm'⟩
theorem made_alloc {N : Nat} {t : TypeId} {z : List AV} (hN : N ≤ w.heap.size) (hz : zeroL P t = some z) : MadeV P N m w (Instr.alloc t true (.tuple #[])) (fun b => .ptr b 0) (.cells false z) := by
  obtain ⟨zv, h1, h2⟩ := zeroL_vrs (m := m) hz
  obtain ⟨h3, h4⟩ := made_newRow (P := P) (N := N) (w := w) t hN h2
  refine ⟨_, _, _, ?_, fun b m' hm' hb => ⟨(h4 b m' hm' hb).1, (h4 b m' hm' hb).2.2⟩⟩
  simp only [Instr.alloc, newVar, Sem.run_bind, run_zeroValue' h1, Result.andThen_ok, h3, Sem.run_pure]
theorem made_box {N : Nat} {t : TypeId} {x : AV} {u : Value} {cs : List AV} (hN : N ≤ w.heap.size) (hx : VR m x u) (hcs : x.cells? = some cs) : MadeV P N m w (Instr.box t u) (fun b => .ptr b 0) (.cells false cs) := by
  obtain ⟨h3, h4⟩ := made_newRow (P := P) (N := N) (w := w) t hN (hx.cells hcs)
  refine ⟨_, _, _, ?_, fun b m' hm' hb => ⟨(h4 b m' hm' hb).1, (h4 b m' hm' hb).2.2⟩⟩
  simp only [Instr.box, newVar, Sem.run_bind, Result.andThen_ok, h3, Sem.run_pure]
theorem zipIdx_foldl_set (off : Nat) : ∀ (us : List Value) (k : Nat) (arr : Array Value), off + k + us.length ≤ arr.size →
    ∀ j, ((us.zipIdx k).foldl (fun cs (p : Value × Nat) => cs.setIfInBounds (off + p.2) p.1) arr)[j]? = (if off + k ≤ j ∧ j < off + k + us.length then us[j - (off + k)]? else arr[j]?) ∧
      ((us.zipIdx k).foldl (fun cs (p : Value × Nat) => cs.setIfInBounds (off + p.2) p.1) arr).size = arr.size
  | [], k, arr, _, j => by simp; omega
  | u :: us, k, arr, h, j => by
    simp only [List.length_cons] at h
    simp only [List.zipIdx_cons, List.foldl_cons]
    obtain ⟨h1, h2⟩ := zipIdx_foldl_set off us (k + 1) (arr.setIfInBounds (off + k) u) (by rw [Array.size_setIfInBounds]; omega) j
    refine ⟨?_, by rw [h2]; simp⟩
    rw [h1]
    by_cases hj : j = off + k
    · subst hj
      rw [if_neg (by omega), if_pos (by simp only [List.length_cons]; omega), Array.getElem?_setIfInBounds]
      have : off + k < arr.size := by omega
      simp [this]
    · by_cases h3 : off + (k + 1) ≤ j ∧ j < off + (k + 1) + us.length
      · rw [if_pos h3, if_pos (by simp only [List.length_cons]; omega)]
        have : j - (off + k) = (j - (off + (k + 1))) + 1 := by omega
        rw [this, List.getElem?_cons_succ]
      · rw [if_neg h3, if_neg (by simp only [List.length_cons]; omega), Array.getElem?_setIfInBounds_ne (fun e => hj e.symm)]
inductive PartsR (m : CM) (place : Nat → Option (Nat × Nat)) : List (Nat × Nat × AV) → List (Nat × Value) → Prop where
  | nil : PartsR m place [] []
  | cons {i o n : Nat} {v : AV} {u : Value} {ps : List (Nat × Nat × AV)} {qs : List (Nat × Value)} (hp : place i = some (o, n)) (hv : VR m v u) (t : PartsR m place ps qs) : PartsR m place ((o, n, v) :: ps) ((i, u) :: qs)
theorem fill_run {place : Nat → Option (Nat × Nat)} : ∀ {ps : List (Nat × Nat × AV)} {qs : List (Nat × Value)}, PartsR m place ps qs → ∀ {zero cs : List AV} {arr : Array Value}, VRs m zero arr.toList → fillA zero ps = some cs →
    ∃ arr', Instr.fill place arr qs = some arr' ∧ VRs m cs arr'.toList
  | _, _, .nil, zero, cs, arr, hz, hf => by
    simp [fillA] at hf; subst hf
    exact ⟨arr, rfl, hz⟩
  | _, _, .cons (i := i) (o := o) (n := n) (v := v) (u := u) (qs := qs) hp hv t, zero, cs, arr, hz, hf => by
    simp only [fillA] at hf
    split at hf
    · rename_i l hl
      split at hf
      · rename_i hln
        split at hf
        · rename_i cells' hw
          have hcu := hv.cells hl
          have hlen := VRs.length hcu
          have hzl := VRs.length hz
          obtain ⟨hw1, hw2⟩ := writeN_length hw
          simp only [Array.length_toList] at hlen hzl
          have key := fun j => zipIdx_foldl_set o u.cells.toList 0 arr (by simp; omega) j
          have hsz := (key 0).2
          have hz' : VRs m cells' ((u.cells.toList.zipIdx.foldl (fun cs (p : Value × Nat) => cs.setIfInBounds (o + p.2) p.1) arr)).toList := by
            refine VRs.of_get (by simp only [Array.length_toList]; omega) fun j v' hv' => ?_
            rw [writeN_get hw] at hv'
            rw [Array.getElem?_toList, (key j).1]
            by_cases hj : o ≤ j ∧ j < o + l.length
            · rw [if_pos hj] at hv'
              rw [if_pos (by simp only [Array.length_toList]; omega)]
              simpa using VRs.get hcu _ _ hv'
            · rw [if_neg hj] at hv'
              rw [if_neg (by simp only [Array.length_toList]; omega)]
              simpa using VRs.get hz _ _ hv'
          obtain ⟨arr', h1, h2⟩ := fill_run t hz' hf
          refine ⟨arr', ?_, h2⟩
          simp only [Instr.fill, hp]
          rw [if_neg (by simp; omega)]
          rw [← Array.foldl_toList, Array.toList_zipIdx]
          exact h1
        · simp at hf
      · simp at hf
    · simp at hf
end
end Go.AM
