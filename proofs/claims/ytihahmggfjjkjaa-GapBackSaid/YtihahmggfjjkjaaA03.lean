/- If days are told the other way round all is the same of the same days -/
import Derived.Test.YtihahmggfjjkjaaA01
import Derived.Test.YtihahmggfjjkjaaA02
set_option linter.unusedVariables false
set_option linter.unusedSimpArgs false
namespace Go.AM
def WpDG (prog : Nat → Option AFunc) (o : AOper) (os : List AOper) (e : Env) (H : AH) (over : List AOper) (ls : List LR) (hs : List HR) (Q : Env → AH → Prop) : Prop :=
  match o.op.cls with
  | .eff => okAll ls ⟨H, over, o :: effsO os⟩ ∧ EffQ prog e H o.op fun v H' => WpD prog os (putDst e o.dst v) H' (over ++ [o]) ls (hs ++ [⟨H, over, o :: effsO os⟩]) Q
  | .load => Then (aop0 e H o.op) fun v H' => okOne ⟨o, fun S => aop0 e S o.op, v⟩ hs ∧ WpD prog os (putDst e o.dst v) H' over (ls ++ [⟨o, fun S => aop0 e S o.op, v⟩]) hs Q
  | _ => Then (aop0 e H o.op) fun v H' => WpD prog os (putDst e o.dst v) H' over ls hs Q
def WpDN (prog : Nat → Option AFunc) (o : AOper) (os : List AOper) (e : Env) (H : AH) (over : List AOper) (ls : List LR) (hs : List HR) (Q : Env → AH → Prop) : Prop :=
  match o.op.cls with
  | .eff => okAll ls ⟨H, over, o :: effsO os⟩ ∧ WpD prog os (putDst e o.dst (.tuple [])) H (over ++ [o]) ls (hs ++ [⟨H, over, o :: effsO os⟩]) Q
  | _ => WpD prog os (putDst e o.dst (.tuple [])) H over ls hs Q
theorem WpD_yes {prog : Nat → Option AFunc} {o : AOper} {os : List AOper} {e : Env} {H : AH} {over : List AOper} {ls : List LR} {hs : List HR} {Q : Env → AH → Prop} (h : o.wanted e = some true) : WpD prog (o :: os) e H over ls hs Q ↔ WpDG prog o os e H over ls hs Q := by
  simp only [WpD, WpDG, h] <;> (cases o.op.cls <;> rfl)
theorem WpD_no {prog : Nat → Option AFunc} {o : AOper} {os : List AOper} {e : Env} {H : AH} {over : List AOper} {ls : List LR} {hs : List HR} {Q : Env → AH → Prop} (h : o.wanted e = some false) : WpD prog (o :: os) e H over ls hs Q ↔ WpDN prog o os e H over ls hs Q := by
  simp only [WpD, WpDN, h] <;> (cases o.op.cls <;> rfl)
def ThenD (prog : Nat → Option AFunc) (x : ORes) (d : Option Nat) (os : List AOper) (e : Env) (over : List AOper) (ls : List LR) (hs : List HR) (Q : Env → AH → Prop) : Prop :=
  match x with
  | some (v, H) => WpD prog os (putDst e d v) H over ls hs Q
  | none => False
def ThenL (prog : Nat → Option AFunc) (x : ORes) (o : AOper) (f : AH → ORes) (os : List AOper) (e : Env) (over : List AOper) (ls : List LR) (hs : List HR) (Q : Env → AH → Prop) : Prop :=
  match x with
  | some (v, H) => okOne ⟨o, f, v⟩ hs ∧ WpD prog os (putDst e o.dst v) H over (ls ++ [⟨o, f, v⟩]) hs Q
  | none => False
def GuardD (prog : Nat → Option AFunc) (x : Option AV) (b : Bool) (o : AOper) (os : List AOper) (e : Env) (H : AH) (over : List AOper) (ls : List LR) (hs : List HR) (Q : Env → AH → Prop) : Prop :=
  match x with
  | some (.bool x) => bif x == b then WpDG prog o os e H over ls hs Q else WpDN prog o os e H over ls hs Q
  | some (.tuple []) => WpDN prog o os e H over ls hs Q
  | _ => False
theorem D_guard {prog : Nat → Option AFunc} {e : Env} {H : AH} {d : Option Nat} {id : Nat} {pre : List Nat} {os : List AOper} {over : List AOper} {ls : List LR} {hs : List HR} {Q : Env → AH → Prop} {op : AOp} {t : Nat} {b : Bool} :
    WpD prog (⟨d, op, some (t, b), id, pre⟩ :: os) e H over ls hs Q ↔ GuardD prog (e.get t) b ⟨d, op, some (t, b), id, pre⟩ os e H over ls hs Q := by
  have hw : AOper.wanted ⟨d, op, some (t, b), id, pre⟩ e = match e.get t with
      | some (.bool x) => some (x == b)
      | some (.tuple []) => some false
      | _ => none := rfl
  cases hg : e.get t with
  | none =>
    rw [hg] at hw
    simp only [WpD, hw, GuardD]
  | some v =>
    rw [hg] at hw
    cases v with
    | bool x =>
      cases hx : x == b with
      | true => simp only [hx] at hw; rw [WpD_yes hw]; simp only [GuardD, hx, cond_true]
      | false => simp only [hx] at hw; rw [WpD_no hw]; simp only [GuardD, hx, cond_false]
    | tuple l =>
      cases l with
      | nil => simp only at hw; rw [WpD_no hw]; rfl
      | cons a l => simp only [WpD, hw, GuardD]
    | _ => simp only [WpD, hw, GuardD]
theorem D :
    (∀ {prog : Nat → Option AFunc} {e : Env} {H : AH} {d : Option Nat} {id : Nat} {pre : List Nat} {os : List AOper} {over : List AOper} {ls : List LR} {hs : List HR} {Q : Env → AH → Prop} {gd : Option (Nat × Bool)} (x : AOpd), WpDG prog (⟨d, .move x, gd, id, pre⟩ : AOper) os e H over ls hs Q ↔ ThenD prog (aop0 e H (.move x)) d os e over ls hs Q) ∧
    (∀ {prog : Nat → Option AFunc} {e : Env} {H : AH} {d : Option Nat} {id : Nat} {pre : List Nat} {os : List AOper} {over : List AOper} {ls : List LR} {hs : List HR} {Q : Env → AH → Prop} {gd : Option (Nat × Bool)} (x : AOpd), WpDN prog (⟨d, .move x, gd, id, pre⟩ : AOper) os e H over ls hs Q ↔ WpD prog os (putDst e d (.tuple [])) H over ls hs Q) ∧
    (∀ {prog : Nat → Option AFunc} {e : Env} {H : AH} {d : Option Nat} {id : Nat} {pre : List Nat} {os : List AOper} {over : List AOper} {ls : List LR} {hs : List HR} {Q : Env → AH → Prop} {gd : Option (Nat × Bool)} (c a b : AOpd), WpDG prog (⟨d, .pick c a b, gd, id, pre⟩ : AOper) os e H over ls hs Q ↔ ThenD prog (aop0 e H (.pick c a b)) d os e over ls hs Q) ∧
    (∀ {prog : Nat → Option AFunc} {e : Env} {H : AH} {d : Option Nat} {id : Nat} {pre : List Nat} {os : List AOper} {over : List AOper} {ls : List LR} {hs : List HR} {Q : Env → AH → Prop} {gd : Option (Nat × Bool)} (c a b : AOpd), WpDN prog (⟨d, .pick c a b, gd, id, pre⟩ : AOper) os e H over ls hs Q ↔ WpD prog os (putDst e d (.tuple [])) H over ls hs Q) ∧
    (∀ {prog : Nat → Option AFunc} {e : Env} {H : AH} {d : Option Nat} {id : Nat} {pre : List Nat} {os : List AOper} {over : List AOper} {ls : List LR} {hs : List HR} {Q : Env → AH → Prop} {gd : Option (Nat × Bool)} (zero : List AV), WpDG prog (⟨d, .alloc zero, gd, id, pre⟩ : AOper) os e H over ls hs Q ↔ ThenD prog (aop0 e H (.alloc zero)) d os e over ls hs Q) ∧
    (∀ {prog : Nat → Option AFunc} {e : Env} {H : AH} {d : Option Nat} {id : Nat} {pre : List Nat} {os : List AOper} {over : List AOper} {ls : List LR} {hs : List HR} {Q : Env → AH → Prop} {gd : Option (Nat × Bool)} (zero : List AV), WpDN prog (⟨d, .alloc zero, gd, id, pre⟩ : AOper) os e H over ls hs Q ↔ WpD prog os (putDst e d (.tuple [])) H over ls hs Q) ∧
    (∀ {prog : Nat → Option AFunc} {e : Env} {H : AH} {d : Option Nat} {id : Nat} {pre : List Nat} {os : List AOper} {over : List AOper} {ls : List LR} {hs : List HR} {Q : Env → AH → Prop} {gd : Option (Nat × Bool)} (x : AOpd), WpDG prog (⟨d, .box x, gd, id, pre⟩ : AOper) os e H over ls hs Q ↔ ThenD prog (aop0 e H (.box x)) d os e over ls hs Q) ∧
    (∀ {prog : Nat → Option AFunc} {e : Env} {H : AH} {d : Option Nat} {id : Nat} {pre : List Nat} {os : List AOper} {over : List AOper} {ls : List LR} {hs : List HR} {Q : Env → AH → Prop} {gd : Option (Nat × Bool)} (x : AOpd), WpDN prog (⟨d, .box x, gd, id, pre⟩ : AOper) os e H over ls hs Q ↔ WpD prog os (putDst e d (.tuple [])) H over ls hs Q) ∧
    (∀ {prog : Nat → Option AFunc} {e : Env} {H : AH} {d : Option Nat} {id : Nat} {pre : List Nat} {os : List AOper} {over : List AOper} {ls : List LR} {hs : List HR} {Q : Env → AH → Prop} {gd : Option (Nat × Bool)} (zero : List AV) (parts : List (Nat × Nat × AOpd)), WpDG prog (⟨d, .build zero parts, gd, id, pre⟩ : AOper) os e H over ls hs Q ↔ ThenD prog (aop0 e H (.build zero parts)) d os e over ls hs Q) ∧
    (∀ {prog : Nat → Option AFunc} {e : Env} {H : AH} {d : Option Nat} {id : Nat} {pre : List Nat} {os : List AOper} {over : List AOper} {ls : List LR} {hs : List HR} {Q : Env → AH → Prop} {gd : Option (Nat × Bool)} (zero : List AV) (parts : List (Nat × Nat × AOpd)), WpDN prog (⟨d, .build zero parts, gd, id, pre⟩ : AOper) os e H over ls hs Q ↔ WpD prog os (putDst e d (.tuple [])) H over ls hs Q) ∧
    (∀ {prog : Nat → Option AFunc} {e : Env} {H : AH} {d : Option Nat} {id : Nat} {pre : List Nat} {os : List AOper} {over : List AOper} {ls : List LR} {hs : List HR} {Q : Env → AH → Prop} {gd : Option (Nat × Bool)} (len sz : Nat) (zero : List AV) (parts : List (Nat × Nat × AOpd)), WpDG prog (⟨d, .mkslice len sz zero parts, gd, id, pre⟩ : AOper) os e H over ls hs Q ↔ ThenD prog (aop0 e H (.mkslice len sz zero parts)) d os e over ls hs Q) ∧
    (∀ {prog : Nat → Option AFunc} {e : Env} {H : AH} {d : Option Nat} {id : Nat} {pre : List Nat} {os : List AOper} {over : List AOper} {ls : List LR} {hs : List HR} {Q : Env → AH → Prop} {gd : Option (Nat × Bool)} (len sz : Nat) (zero : List AV) (parts : List (Nat × Nat × AOpd)), WpDN prog (⟨d, .mkslice len sz zero parts, gd, id, pre⟩ : AOper) os e H over ls hs Q ↔ WpD prog os (putDst e d (.tuple [])) H over ls hs Q) ∧
    (∀ {prog : Nat → Option AFunc} {e : Env} {H : AH} {d : Option Nat} {id : Nat} {pre : List Nat} {os : List AOper} {over : List AOper} {ls : List LR} {hs : List HR} {Q : Env → AH → Prop} {gd : Option (Nat × Bool)} (a : AOpd), WpDG prog (⟨d, .load a, gd, id, pre⟩ : AOper) os e H over ls hs Q ↔ ThenL prog (aop0 e H (.load a)) (⟨d, .load a, gd, id, pre⟩ : AOper) (fun S => aop0 e S (.load a)) os e over ls hs Q) ∧
    (∀ {prog : Nat → Option AFunc} {e : Env} {H : AH} {d : Option Nat} {id : Nat} {pre : List Nat} {os : List AOper} {over : List AOper} {ls : List LR} {hs : List HR} {Q : Env → AH → Prop} {gd : Option (Nat × Bool)} (a : AOpd), WpDN prog (⟨d, .load a, gd, id, pre⟩ : AOper) os e H over ls hs Q ↔ WpD prog os (putDst e d (.tuple [])) H over ls hs Q) ∧
    (∀ {prog : Nat → Option AFunc} {e : Env} {H : AH} {d : Option Nat} {id : Nat} {pre : List Nat} {os : List AOper} {over : List AOper} {ls : List LR} {hs : List HR} {Q : Env → AH → Prop} {gd : Option (Nat × Bool)} (n : Nat) (a : AOpd), WpDG prog (⟨d, .loadN n a, gd, id, pre⟩ : AOper) os e H over ls hs Q ↔ ThenL prog (aop0 e H (.loadN n a)) (⟨d, .loadN n a, gd, id, pre⟩ : AOper) (fun S => aop0 e S (.loadN n a)) os e over ls hs Q) ∧
    (∀ {prog : Nat → Option AFunc} {e : Env} {H : AH} {d : Option Nat} {id : Nat} {pre : List Nat} {os : List AOper} {over : List AOper} {ls : List LR} {hs : List HR} {Q : Env → AH → Prop} {gd : Option (Nat × Bool)} (n : Nat) (a : AOpd), WpDN prog (⟨d, .loadN n a, gd, id, pre⟩ : AOper) os e H over ls hs Q ↔ WpD prog os (putDst e d (.tuple [])) H over ls hs Q) ∧
    (∀ {prog : Nat → Option AFunc} {e : Env} {H : AH} {d : Option Nat} {id : Nat} {pre : List Nat} {os : List AOper} {over : List AOper} {ls : List LR} {hs : List HR} {Q : Env → AH → Prop} {gd : Option (Nat × Bool)} (n : Nat) (a x : AOpd), WpDG prog (⟨d, .store n a x, gd, id, pre⟩ : AOper) os e H over ls hs Q ↔ okAll ls ⟨H, over, (⟨d, .store n a x, gd, id, pre⟩ : AOper) :: effsO os⟩ ∧ ThenD prog (aop0 e H (.store n a x)) d os e (over ++ [(⟨d, .store n a x, gd, id, pre⟩ : AOper)]) ls (hs ++ [⟨H, over, (⟨d, .store n a x, gd, id, pre⟩ : AOper) :: effsO os⟩]) Q) ∧
    (∀ {prog : Nat → Option AFunc} {e : Env} {H : AH} {d : Option Nat} {id : Nat} {pre : List Nat} {os : List AOper} {over : List AOper} {ls : List LR} {hs : List HR} {Q : Env → AH → Prop} {gd : Option (Nat × Bool)} (n : Nat) (a x : AOpd), WpDN prog (⟨d, .store n a x, gd, id, pre⟩ : AOper) os e H over ls hs Q ↔ okAll ls ⟨H, over, (⟨d, .store n a x, gd, id, pre⟩ : AOper) :: effsO os⟩ ∧ WpD prog os (putDst e d (.tuple [])) H (over ++ [(⟨d, .store n a x, gd, id, pre⟩ : AOper)]) ls (hs ++ [⟨H, over, (⟨d, .store n a x, gd, id, pre⟩ : AOper) :: effsO os⟩]) Q) ∧
    (∀ {prog : Nat → Option AFunc} {e : Env} {H : AH} {d : Option Nat} {id : Nat} {pre : List Nat} {os : List AOper} {over : List AOper} {ls : List LR} {hs : List HR} {Q : Env → AH → Prop} {gd : Option (Nat × Bool)} (x : AOpd), WpDG prog (⟨d, .nilCheck x, gd, id, pre⟩ : AOper) os e H over ls hs Q ↔ ThenD prog (aop0 e H (.nilCheck x)) d os e over ls hs Q) ∧
    (∀ {prog : Nat → Option AFunc} {e : Env} {H : AH} {d : Option Nat} {id : Nat} {pre : List Nat} {os : List AOper} {over : List AOper} {ls : List LR} {hs : List HR} {Q : Env → AH → Prop} {gd : Option (Nat × Bool)} (x : AOpd), WpDN prog (⟨d, .nilCheck x, gd, id, pre⟩ : AOper) os e H over ls hs Q ↔ WpD prog os (putDst e d (.tuple [])) H over ls hs Q) ∧
    (∀ {prog : Nat → Option AFunc} {e : Env} {H : AH} {d : Option Nat} {id : Nat} {pre : List Nat} {os : List AOper} {over : List AOper} {ls : List LR} {hs : List HR} {Q : Env → AH → Prop} {gd : Option (Nat × Bool)} (op : BinOp) (x y : AOpd), WpDG prog (⟨d, .bin op x y, gd, id, pre⟩ : AOper) os e H over ls hs Q ↔ ThenD prog (aop0 e H (.bin op x y)) d os e over ls hs Q) ∧
    (∀ {prog : Nat → Option AFunc} {e : Env} {H : AH} {d : Option Nat} {id : Nat} {pre : List Nat} {os : List AOper} {over : List AOper} {ls : List LR} {hs : List HR} {Q : Env → AH → Prop} {gd : Option (Nat × Bool)} (op : BinOp) (x y : AOpd), WpDN prog (⟨d, .bin op x y, gd, id, pre⟩ : AOper) os e H over ls hs Q ↔ WpD prog os (putDst e d (.tuple [])) H over ls hs Q) ∧
    (∀ {prog : Nat → Option AFunc} {e : Env} {H : AH} {d : Option Nat} {id : Nat} {pre : List Nat} {os : List AOper} {over : List AOper} {ls : List LR} {hs : List HR} {Q : Env → AH → Prop} {gd : Option (Nat × Bool)} (g : Bool) (ks : List SK) (neg : Bool) (x y : AOpd), WpDG prog (⟨d, .eqFlat g ks neg x y, gd, id, pre⟩ : AOper) os e H over ls hs Q ↔ ThenD prog (aop0 e H (.eqFlat g ks neg x y)) d os e over ls hs Q) ∧
    (∀ {prog : Nat → Option AFunc} {e : Env} {H : AH} {d : Option Nat} {id : Nat} {pre : List Nat} {os : List AOper} {over : List AOper} {ls : List LR} {hs : List HR} {Q : Env → AH → Prop} {gd : Option (Nat × Bool)} (g : Bool) (ks : List SK) (neg : Bool) (x y : AOpd), WpDN prog (⟨d, .eqFlat g ks neg x y, gd, id, pre⟩ : AOper) os e H over ls hs Q ↔ WpD prog os (putDst e d (.tuple [])) H over ls hs Q) ∧
    (∀ {prog : Nat → Option AFunc} {e : Env} {H : AH} {d : Option Nat} {id : Nat} {pre : List Nat} {os : List AOper} {over : List AOper} {ls : List LR} {hs : List HR} {Q : Env → AH → Prop} {gd : Option (Nat × Bool)} (k : NK) (neg : Bool) (x y : AOpd), WpDG prog (⟨d, .eqNil k neg x y, gd, id, pre⟩ : AOper) os e H over ls hs Q ↔ ThenD prog (aop0 e H (.eqNil k neg x y)) d os e over ls hs Q) ∧
    (∀ {prog : Nat → Option AFunc} {e : Env} {H : AH} {d : Option Nat} {id : Nat} {pre : List Nat} {os : List AOper} {over : List AOper} {ls : List LR} {hs : List HR} {Q : Env → AH → Prop} {gd : Option (Nat × Bool)} (k : NK) (neg : Bool) (x y : AOpd), WpDN prog (⟨d, .eqNil k neg x y, gd, id, pre⟩ : AOper) os e H over ls hs Q ↔ WpD prog os (putDst e d (.tuple [])) H over ls hs Q) ∧
    (∀ {prog : Nat → Option AFunc} {e : Env} {H : AH} {d : Option Nat} {id : Nat} {pre : List Nat} {os : List AOper} {over : List AOper} {ls : List LR} {hs : List HR} {Q : Env → AH → Prop} {gd : Option (Nat × Bool)} (op : UnOp) (x : AOpd), WpDG prog (⟨d, .un op x, gd, id, pre⟩ : AOper) os e H over ls hs Q ↔ ThenD prog (aop0 e H (.un op x)) d os e over ls hs Q) ∧
    (∀ {prog : Nat → Option AFunc} {e : Env} {H : AH} {d : Option Nat} {id : Nat} {pre : List Nat} {os : List AOper} {over : List AOper} {ls : List LR} {hs : List HR} {Q : Env → AH → Prop} {gd : Option (Nat × Bool)} (op : UnOp) (x : AOpd), WpDN prog (⟨d, .un op x, gd, id, pre⟩ : AOper) os e H over ls hs Q ↔ WpD prog os (putDst e d (.tuple [])) H over ls hs Q) ∧
    (∀ {prog : Nat → Option AFunc} {e : Env} {H : AH} {d : Option Nat} {id : Nat} {pre : List Nat} {os : List AOper} {over : List AOper} {ls : List LR} {hs : List HR} {Q : Env → AH → Prop} {gd : Option (Nat × Bool)} (k : IntKind) (x : AOpd), WpDG prog (⟨d, .toInt k x, gd, id, pre⟩ : AOper) os e H over ls hs Q ↔ ThenD prog (aop0 e H (.toInt k x)) d os e over ls hs Q) ∧
    (∀ {prog : Nat → Option AFunc} {e : Env} {H : AH} {d : Option Nat} {id : Nat} {pre : List Nat} {os : List AOper} {over : List AOper} {ls : List LR} {hs : List HR} {Q : Env → AH → Prop} {gd : Option (Nat × Bool)} (k : IntKind) (x : AOpd), WpDN prog (⟨d, .toInt k x, gd, id, pre⟩ : AOper) os e H over ls hs Q ↔ WpD prog os (putDst e d (.tuple [])) H over ls hs Q) ∧
    (∀ {prog : Nat → Option AFunc} {e : Env} {H : AH} {d : Option Nat} {id : Nat} {pre : List Nat} {os : List AOper} {over : List AOper} {ls : List LR} {hs : List HR} {Q : Env → AH → Prop} {gd : Option (Nat × Bool)} (x : AOpd), WpDG prog (⟨d, .strId x, gd, id, pre⟩ : AOper) os e H over ls hs Q ↔ ThenD prog (aop0 e H (.strId x)) d os e over ls hs Q) ∧
    (∀ {prog : Nat → Option AFunc} {e : Env} {H : AH} {d : Option Nat} {id : Nat} {pre : List Nat} {os : List AOper} {over : List AOper} {ls : List LR} {hs : List HR} {Q : Env → AH → Prop} {gd : Option (Nat × Bool)} (x : AOpd), WpDN prog (⟨d, .strId x, gd, id, pre⟩ : AOper) os e H over ls hs Q ↔ WpD prog os (putDst e d (.tuple [])) H over ls hs Q) ∧
    (∀ {prog : Nat → Option AFunc} {e : Env} {H : AH} {d : Option Nat} {id : Nat} {pre : List Nat} {os : List AOper} {over : List AOper} {ls : List LR} {hs : List HR} {Q : Env → AH → Prop} {gd : Option (Nat × Bool)} (f : Nat) (first captured : List AOpd), WpDG prog (⟨d, .func f first captured, gd, id, pre⟩ : AOper) os e H over ls hs Q ↔ ThenD prog (aop0 e H (.func f first captured)) d os e over ls hs Q) ∧
    (∀ {prog : Nat → Option AFunc} {e : Env} {H : AH} {d : Option Nat} {id : Nat} {pre : List Nat} {os : List AOper} {over : List AOper} {ls : List LR} {hs : List HR} {Q : Env → AH → Prop} {gd : Option (Nat × Bool)} (f : Nat) (first captured : List AOpd), WpDN prog (⟨d, .func f first captured, gd, id, pre⟩ : AOper) os e H over ls hs Q ↔ WpD prog os (putDst e d (.tuple [])) H over ls hs Q) ∧
    (∀ {prog : Nat → Option AFunc} {e : Env} {H : AH} {d : Option Nat} {id : Nat} {pre : List Nat} {os : List AOper} {over : List AOper} {ls : List LR} {hs : List HR} {Q : Env → AH → Prop} {gd : Option (Nat × Bool)} , WpDG prog (⟨d, .makeMap, gd, id, pre⟩ : AOper) os e H over ls hs Q ↔ ThenD prog (aop0 e H .makeMap) d os e over ls hs Q) ∧
    (∀ {prog : Nat → Option AFunc} {e : Env} {H : AH} {d : Option Nat} {id : Nat} {pre : List Nat} {os : List AOper} {over : List AOper} {ls : List LR} {hs : List HR} {Q : Env → AH → Prop} {gd : Option (Nat × Bool)} , WpDN prog (⟨d, .makeMap, gd, id, pre⟩ : AOper) os e H over ls hs Q ↔ WpD prog os (putDst e d (.tuple [])) H over ls hs Q) ∧
    (∀ {prog : Nat → Option AFunc} {e : Env} {H : AH} {d : Option Nat} {id : Nat} {pre : List Nat} {os : List AOper} {over : List AOper} {ls : List LR} {hs : List HR} {Q : Env → AH → Prop} {gd : Option (Nat × Bool)} (sz bytes : Nat) (zero : List AV) (len cap : AOpd), WpDG prog (⟨d, .makeSlice sz bytes zero len cap, gd, id, pre⟩ : AOper) os e H over ls hs Q ↔ ThenD prog (aop0 e H (.makeSlice sz bytes zero len cap)) d os e over ls hs Q) ∧
    (∀ {prog : Nat → Option AFunc} {e : Env} {H : AH} {d : Option Nat} {id : Nat} {pre : List Nat} {os : List AOper} {over : List AOper} {ls : List LR} {hs : List HR} {Q : Env → AH → Prop} {gd : Option (Nat × Bool)} (sz bytes : Nat) (zero : List AV) (len cap : AOpd), WpDN prog (⟨d, .makeSlice sz bytes zero len cap, gd, id, pre⟩ : AOper) os e H over ls hs Q ↔ WpD prog os (putDst e d (.tuple [])) H over ls hs Q) ∧
    (∀ {prog : Nat → Option AFunc} {e : Env} {H : AH} {d : Option Nat} {id : Nat} {pre : List Nat} {os : List AOper} {over : List AOper} {ls : List LR} {hs : List HR} {Q : Env → AH → Prop} {gd : Option (Nat × Bool)} (x : AOpd) (lo hi : Option AOpd), WpDG prog (⟨d, .sliceStr x lo hi, gd, id, pre⟩ : AOper) os e H over ls hs Q ↔ ThenD prog (aop0 e H (.sliceStr x lo hi)) d os e over ls hs Q) ∧
    (∀ {prog : Nat → Option AFunc} {e : Env} {H : AH} {d : Option Nat} {id : Nat} {pre : List Nat} {os : List AOper} {over : List AOper} {ls : List LR} {hs : List HR} {Q : Env → AH → Prop} {gd : Option (Nat × Bool)} (x : AOpd) (lo hi : Option AOpd), WpDN prog (⟨d, .sliceStr x lo hi, gd, id, pre⟩ : AOper) os e H over ls hs Q ↔ WpD prog os (putDst e d (.tuple [])) H over ls hs Q) ∧
    (∀ {prog : Nat → Option AFunc} {e : Env} {H : AH} {d : Option Nat} {id : Nat} {pre : List Nat} {os : List AOper} {over : List AOper} {ls : List LR} {hs : List HR} {Q : Env → AH → Prop} {gd : Option (Nat × Bool)} (sz : Nat) (x : AOpd) (lo hi : Option AOpd), WpDG prog (⟨d, .sliceSl sz x lo hi, gd, id, pre⟩ : AOper) os e H over ls hs Q ↔ ThenD prog (aop0 e H (.sliceSl sz x lo hi)) d os e over ls hs Q) ∧
    (∀ {prog : Nat → Option AFunc} {e : Env} {H : AH} {d : Option Nat} {id : Nat} {pre : List Nat} {os : List AOper} {over : List AOper} {ls : List LR} {hs : List HR} {Q : Env → AH → Prop} {gd : Option (Nat × Bool)} (sz : Nat) (x : AOpd) (lo hi : Option AOpd), WpDN prog (⟨d, .sliceSl sz x lo hi, gd, id, pre⟩ : AOper) os e H over ls hs Q ↔ WpD prog os (putDst e d (.tuple [])) H over ls hs Q) ∧
    (∀ {prog : Nat → Option AFunc} {e : Env} {H : AH} {d : Option Nat} {id : Nat} {pre : List Nat} {os : List AOper} {over : List AOper} {ls : List LR} {hs : List HR} {Q : Env → AH → Prop} {gd : Option (Nat × Bool)} (n sz : Nat) (x : AOpd) (lo hi : Option AOpd), WpDG prog (⟨d, .sliceArr n sz x lo hi, gd, id, pre⟩ : AOper) os e H over ls hs Q ↔ ThenL prog (aop0 e H (.sliceArr n sz x lo hi)) (⟨d, .sliceArr n sz x lo hi, gd, id, pre⟩ : AOper) (fun S => aop0 e S (.sliceArr n sz x lo hi)) os e over ls hs Q) ∧
    (∀ {prog : Nat → Option AFunc} {e : Env} {H : AH} {d : Option Nat} {id : Nat} {pre : List Nat} {os : List AOper} {over : List AOper} {ls : List LR} {hs : List HR} {Q : Env → AH → Prop} {gd : Option (Nat × Bool)} (n sz : Nat) (x : AOpd) (lo hi : Option AOpd), WpDN prog (⟨d, .sliceArr n sz x lo hi, gd, id, pre⟩ : AOper) os e H over ls hs Q ↔ WpD prog os (putDst e d (.tuple [])) H over ls hs Q) ∧
    (∀ {prog : Nat → Option AFunc} {e : Env} {H : AH} {d : Option Nat} {id : Nat} {pre : List Nat} {os : List AOper} {over : List AOper} {ls : List LR} {hs : List HR} {Q : Env → AH → Prop} {gd : Option (Nat × Bool)} (n : Nat) (x : AOpd), WpDG prog (⟨d, .off n x, gd, id, pre⟩ : AOper) os e H over ls hs Q ↔ ThenD prog (aop0 e H (.off n x)) d os e over ls hs Q) ∧
    (∀ {prog : Nat → Option AFunc} {e : Env} {H : AH} {d : Option Nat} {id : Nat} {pre : List Nat} {os : List AOper} {over : List AOper} {ls : List LR} {hs : List HR} {Q : Env → AH → Prop} {gd : Option (Nat × Bool)} (n : Nat) (x : AOpd), WpDN prog (⟨d, .off n x, gd, id, pre⟩ : AOper) os e H over ls hs Q ↔ WpD prog os (putDst e d (.tuple [])) H over ls hs Q) ∧
    (∀ {prog : Nat → Option AFunc} {e : Env} {H : AH} {d : Option Nat} {id : Nat} {pre : List Nat} {os : List AOper} {over : List AOper} {ls : List LR} {hs : List HR} {Q : Env → AH → Prop} {gd : Option (Nat × Bool)} (sz : Nat) (x i : AOpd), WpDG prog (⟨d, .idxSl sz x i, gd, id, pre⟩ : AOper) os e H over ls hs Q ↔ ThenD prog (aop0 e H (.idxSl sz x i)) d os e over ls hs Q) ∧
    (∀ {prog : Nat → Option AFunc} {e : Env} {H : AH} {d : Option Nat} {id : Nat} {pre : List Nat} {os : List AOper} {over : List AOper} {ls : List LR} {hs : List HR} {Q : Env → AH → Prop} {gd : Option (Nat × Bool)} (sz : Nat) (x i : AOpd), WpDN prog (⟨d, .idxSl sz x i, gd, id, pre⟩ : AOper) os e H over ls hs Q ↔ WpD prog os (putDst e d (.tuple [])) H over ls hs Q) ∧
    (∀ {prog : Nat → Option AFunc} {e : Env} {H : AH} {d : Option Nat} {id : Nat} {pre : List Nat} {os : List AOper} {over : List AOper} {ls : List LR} {hs : List HR} {Q : Env → AH → Prop} {gd : Option (Nat × Bool)} (len sz : Nat) (x i : AOpd), WpDG prog (⟨d, .idxArr len sz x i, gd, id, pre⟩ : AOper) os e H over ls hs Q ↔ ThenD prog (aop0 e H (.idxArr len sz x i)) d os e over ls hs Q) ∧
    (∀ {prog : Nat → Option AFunc} {e : Env} {H : AH} {d : Option Nat} {id : Nat} {pre : List Nat} {os : List AOper} {over : List AOper} {ls : List LR} {hs : List HR} {Q : Env → AH → Prop} {gd : Option (Nat × Bool)} (len sz : Nat) (x i : AOpd), WpDN prog (⟨d, .idxArr len sz x i, gd, id, pre⟩ : AOper) os e H over ls hs Q ↔ WpD prog os (putDst e d (.tuple [])) H over ls hs Q) ∧
    (∀ {prog : Nat → Option AFunc} {e : Env} {H : AH} {d : Option Nat} {id : Nat} {pre : List Nat} {os : List AOper} {over : List AOper} {ls : List LR} {hs : List HR} {Q : Env → AH → Prop} {gd : Option (Nat × Bool)} (off : Nat) (x : AOpd), WpDG prog (⟨d, .part off x, gd, id, pre⟩ : AOper) os e H over ls hs Q ↔ ThenD prog (aop0 e H (.part off x)) d os e over ls hs Q) ∧
    (∀ {prog : Nat → Option AFunc} {e : Env} {H : AH} {d : Option Nat} {id : Nat} {pre : List Nat} {os : List AOper} {over : List AOper} {ls : List LR} {hs : List HR} {Q : Env → AH → Prop} {gd : Option (Nat × Bool)} (off : Nat) (x : AOpd), WpDN prog (⟨d, .part off x, gd, id, pre⟩ : AOper) os e H over ls hs Q ↔ WpD prog os (putDst e d (.tuple [])) H over ls hs Q) ∧
    (∀ {prog : Nat → Option AFunc} {e : Env} {H : AH} {d : Option Nat} {id : Nat} {pre : List Nat} {os : List AOper} {over : List AOper} {ls : List LR} {hs : List HR} {Q : Env → AH → Prop} {gd : Option (Nat × Bool)} (off n : Nat) (x : AOpd), WpDG prog (⟨d, .partN off n x, gd, id, pre⟩ : AOper) os e H over ls hs Q ↔ ThenD prog (aop0 e H (.partN off n x)) d os e over ls hs Q) ∧
    (∀ {prog : Nat → Option AFunc} {e : Env} {H : AH} {d : Option Nat} {id : Nat} {pre : List Nat} {os : List AOper} {over : List AOper} {ls : List LR} {hs : List HR} {Q : Env → AH → Prop} {gd : Option (Nat × Bool)} (off n : Nat) (x : AOpd), WpDN prog (⟨d, .partN off n x, gd, id, pre⟩ : AOper) os e H over ls hs Q ↔ WpD prog os (putDst e d (.tuple [])) H over ls hs Q) ∧
    (∀ {prog : Nat → Option AFunc} {e : Env} {H : AH} {d : Option Nat} {id : Nat} {pre : List Nat} {os : List AOper} {over : List AOper} {ls : List LR} {hs : List HR} {Q : Env → AH → Prop} {gd : Option (Nat × Bool)} (len sz : Nat) (isAgg : Bool) (x i : AOpd), WpDG prog (⟨d, .at len sz isAgg x i, gd, id, pre⟩ : AOper) os e H over ls hs Q ↔ ThenD prog (aop0 e H (.at len sz isAgg x i)) d os e over ls hs Q) ∧
    (∀ {prog : Nat → Option AFunc} {e : Env} {H : AH} {d : Option Nat} {id : Nat} {pre : List Nat} {os : List AOper} {over : List AOper} {ls : List LR} {hs : List HR} {Q : Env → AH → Prop} {gd : Option (Nat × Bool)} (len sz : Nat) (isAgg : Bool) (x i : AOpd), WpDN prog (⟨d, .at len sz isAgg x i, gd, id, pre⟩ : AOper) os e H over ls hs Q ↔ WpD prog os (putDst e d (.tuple [])) H over ls hs Q) ∧
    (∀ {prog : Nat → Option AFunc} {e : Env} {H : AH} {d : Option Nat} {id : Nat} {pre : List Nat} {os : List AOper} {over : List AOper} {ls : List LR} {hs : List HR} {Q : Env → AH → Prop} {gd : Option (Nat × Bool)} (x i : AOpd), WpDG prog (⟨d, .byteAt x i, gd, id, pre⟩ : AOper) os e H over ls hs Q ↔ ThenD prog (aop0 e H (.byteAt x i)) d os e over ls hs Q) ∧
    (∀ {prog : Nat → Option AFunc} {e : Env} {H : AH} {d : Option Nat} {id : Nat} {pre : List Nat} {os : List AOper} {over : List AOper} {ls : List LR} {hs : List HR} {Q : Env → AH → Prop} {gd : Option (Nat × Bool)} (x i : AOpd), WpDN prog (⟨d, .byteAt x i, gd, id, pre⟩ : AOper) os e H over ls hs Q ↔ WpD prog os (putDst e d (.tuple [])) H over ls hs Q) ∧
    (∀ {prog : Nat → Option AFunc} {e : Env} {H : AH} {d : Option Nat} {id : Nat} {pre : List Nat} {os : List AOper} {over : List AOper} {ls : List LR} {hs : List HR} {Q : Env → AH → Prop} {gd : Option (Nat × Bool)} (g : Bool) (ks : List SK) (zero : AV) (ok : Bool) (m k : AOpd), WpDG prog (⟨d, .lookup g ks zero ok m k, gd, id, pre⟩ : AOper) os e H over ls hs Q ↔ ThenL prog (aop0 e H (.lookup g ks zero ok m k)) (⟨d, .lookup g ks zero ok m k, gd, id, pre⟩ : AOper) (fun S => aop0 e S (.lookup g ks zero ok m k)) os e over ls hs Q) ∧
    (∀ {prog : Nat → Option AFunc} {e : Env} {H : AH} {d : Option Nat} {id : Nat} {pre : List Nat} {os : List AOper} {over : List AOper} {ls : List LR} {hs : List HR} {Q : Env → AH → Prop} {gd : Option (Nat × Bool)} (g : Bool) (ks : List SK) (zero : AV) (ok : Bool) (m k : AOpd), WpDN prog (⟨d, .lookup g ks zero ok m k, gd, id, pre⟩ : AOper) os e H over ls hs Q ↔ WpD prog os (putDst e d (.tuple [])) H over ls hs Q) ∧
    (∀ {prog : Nat → Option AFunc} {e : Env} {H : AH} {d : Option Nat} {id : Nat} {pre : List Nat} {os : List AOper} {over : List AOper} {ls : List LR} {hs : List HR} {Q : Env → AH → Prop} {gd : Option (Nat × Bool)} (g : Bool) (ks : List SK) (m k v : AOpd), WpDG prog (⟨d, .update g ks m k v, gd, id, pre⟩ : AOper) os e H over ls hs Q ↔ okAll ls ⟨H, over, (⟨d, .update g ks m k v, gd, id, pre⟩ : AOper) :: effsO os⟩ ∧ ThenD prog (aop0 e H (.update g ks m k v)) d os e (over ++ [(⟨d, .update g ks m k v, gd, id, pre⟩ : AOper)]) ls (hs ++ [⟨H, over, (⟨d, .update g ks m k v, gd, id, pre⟩ : AOper) :: effsO os⟩]) Q) ∧
    (∀ {prog : Nat → Option AFunc} {e : Env} {H : AH} {d : Option Nat} {id : Nat} {pre : List Nat} {os : List AOper} {over : List AOper} {ls : List LR} {hs : List HR} {Q : Env → AH → Prop} {gd : Option (Nat × Bool)} (g : Bool) (ks : List SK) (m k v : AOpd), WpDN prog (⟨d, .update g ks m k v, gd, id, pre⟩ : AOper) os e H over ls hs Q ↔ okAll ls ⟨H, over, (⟨d, .update g ks m k v, gd, id, pre⟩ : AOper) :: effsO os⟩ ∧ WpD prog os (putDst e d (.tuple [])) H (over ++ [(⟨d, .update g ks m k v, gd, id, pre⟩ : AOper)]) ls (hs ++ [⟨H, over, (⟨d, .update g ks m k v, gd, id, pre⟩ : AOper) :: effsO os⟩]) Q) ∧
    (∀ {prog : Nat → Option AFunc} {e : Env} {H : AH} {d : Option Nat} {id : Nat} {pre : List Nat} {os : List AOper} {over : List AOper} {ls : List LR} {hs : List HR} {Q : Env → AH → Prop} {gd : Option (Nat × Bool)} (x : AOpd), WpDG prog (⟨d, .rangeStr x, gd, id, pre⟩ : AOper) os e H over ls hs Q ↔ okAll ls ⟨H, over, (⟨d, .rangeStr x, gd, id, pre⟩ : AOper) :: effsO os⟩ ∧ ThenD prog (aop0 e H (.rangeStr x)) d os e (over ++ [(⟨d, .rangeStr x, gd, id, pre⟩ : AOper)]) ls (hs ++ [⟨H, over, (⟨d, .rangeStr x, gd, id, pre⟩ : AOper) :: effsO os⟩]) Q) ∧
    (∀ {prog : Nat → Option AFunc} {e : Env} {H : AH} {d : Option Nat} {id : Nat} {pre : List Nat} {os : List AOper} {over : List AOper} {ls : List LR} {hs : List HR} {Q : Env → AH → Prop} {gd : Option (Nat × Bool)} (x : AOpd), WpDN prog (⟨d, .rangeStr x, gd, id, pre⟩ : AOper) os e H over ls hs Q ↔ okAll ls ⟨H, over, (⟨d, .rangeStr x, gd, id, pre⟩ : AOper) :: effsO os⟩ ∧ WpD prog os (putDst e d (.tuple [])) H (over ++ [(⟨d, .rangeStr x, gd, id, pre⟩ : AOper)]) ls (hs ++ [⟨H, over, (⟨d, .rangeStr x, gd, id, pre⟩ : AOper) :: effsO os⟩]) Q) ∧
    (∀ {prog : Nat → Option AFunc} {e : Env} {H : AH} {d : Option Nat} {id : Nat} {pre : List Nat} {os : List AOper} {over : List AOper} {ls : List LR} {hs : List HR} {Q : Env → AH → Prop} {gd : Option (Nat × Bool)} (it : AOpd), WpDG prog (⟨d, .nextStr it, gd, id, pre⟩ : AOper) os e H over ls hs Q ↔ okAll ls ⟨H, over, (⟨d, .nextStr it, gd, id, pre⟩ : AOper) :: effsO os⟩ ∧ ThenD prog (aop0 e H (.nextStr it)) d os e (over ++ [(⟨d, .nextStr it, gd, id, pre⟩ : AOper)]) ls (hs ++ [⟨H, over, (⟨d, .nextStr it, gd, id, pre⟩ : AOper) :: effsO os⟩]) Q) ∧
    (∀ {prog : Nat → Option AFunc} {e : Env} {H : AH} {d : Option Nat} {id : Nat} {pre : List Nat} {os : List AOper} {over : List AOper} {ls : List LR} {hs : List HR} {Q : Env → AH → Prop} {gd : Option (Nat × Bool)} (it : AOpd), WpDN prog (⟨d, .nextStr it, gd, id, pre⟩ : AOper) os e H over ls hs Q ↔ okAll ls ⟨H, over, (⟨d, .nextStr it, gd, id, pre⟩ : AOper) :: effsO os⟩ ∧ WpD prog os (putDst e d (.tuple [])) H (over ++ [(⟨d, .nextStr it, gd, id, pre⟩ : AOper)]) ls (hs ++ [⟨H, over, (⟨d, .nextStr it, gd, id, pre⟩ : AOper) :: effsO os⟩]) Q) ∧
    (∀ {prog : Nat → Option AFunc} {e : Env} {H : AH} {d : Option Nat} {id : Nat} {pre : List Nat} {os : List AOper} {over : List AOper} {ls : List LR} {hs : List HR} {Q : Env → AH → Prop} {gd : Option (Nat × Bool)} (i : Nat) (x : AOpd), WpDG prog (⟨d, .extract i x, gd, id, pre⟩ : AOper) os e H over ls hs Q ↔ ThenD prog (aop0 e H (.extract i x)) d os e over ls hs Q) ∧
    (∀ {prog : Nat → Option AFunc} {e : Env} {H : AH} {d : Option Nat} {id : Nat} {pre : List Nat} {os : List AOper} {over : List AOper} {ls : List LR} {hs : List HR} {Q : Env → AH → Prop} {gd : Option (Nat × Bool)} (i : Nat) (x : AOpd), WpDN prog (⟨d, .extract i x, gd, id, pre⟩ : AOper) os e H over ls hs Q ↔ WpD prog os (putDst e d (.tuple [])) H over ls hs Q) ∧
    (∀ {prog : Nat → Option AFunc} {e : Env} {H : AH} {d : Option Nat} {id : Nat} {pre : List Nat} {os : List AOper} {over : List AOper} {ls : List LR} {hs : List HR} {Q : Env → AH → Prop} {gd : Option (Nat × Bool)} (isStr : Bool) (x : AOpd), WpDG prog (⟨d, .len isStr x, gd, id, pre⟩ : AOper) os e H over ls hs Q ↔ ThenD prog (aop0 e H (.len isStr x)) d os e over ls hs Q) ∧
    (∀ {prog : Nat → Option AFunc} {e : Env} {H : AH} {d : Option Nat} {id : Nat} {pre : List Nat} {os : List AOper} {over : List AOper} {ls : List LR} {hs : List HR} {Q : Env → AH → Prop} {gd : Option (Nat × Bool)} (isStr : Bool) (x : AOpd), WpDN prog (⟨d, .len isStr x, gd, id, pre⟩ : AOper) os e H over ls hs Q ↔ WpD prog os (putDst e d (.tuple [])) H over ls hs Q) ∧
    (∀ {prog : Nat → Option AFunc} {e : Env} {H : AH} {d : Option Nat} {id : Nat} {pre : List Nat} {os : List AOper} {over : List AOper} {ls : List LR} {hs : List HR} {Q : Env → AH → Prop} {gd : Option (Nat × Bool)} (x : AOpd), WpDG prog (⟨d, .lenMap x, gd, id, pre⟩ : AOper) os e H over ls hs Q ↔ ThenL prog (aop0 e H (.lenMap x)) (⟨d, .lenMap x, gd, id, pre⟩ : AOper) (fun S => aop0 e S (.lenMap x)) os e over ls hs Q) ∧
    (∀ {prog : Nat → Option AFunc} {e : Env} {H : AH} {d : Option Nat} {id : Nat} {pre : List Nat} {os : List AOper} {over : List AOper} {ls : List LR} {hs : List HR} {Q : Env → AH → Prop} {gd : Option (Nat × Bool)} (x : AOpd), WpDN prog (⟨d, .lenMap x, gd, id, pre⟩ : AOper) os e H over ls hs Q ↔ WpD prog os (putDst e d (.tuple [])) H over ls hs Q) ∧
    (∀ {prog : Nat → Option AFunc} {e : Env} {H : AH} {d : Option Nat} {id : Nat} {pre : List Nat} {os : List AOper} {over : List AOper} {ls : List LR} {hs : List HR} {Q : Env → AH → Prop} {gd : Option (Nat × Bool)} (sz bytes : Nat) (s x : AOpd), WpDG prog (⟨d, .append sz bytes s x, gd, id, pre⟩ : AOper) os e H over ls hs Q ↔ okAll ls ⟨H, over, (⟨d, .append sz bytes s x, gd, id, pre⟩ : AOper) :: effsO os⟩ ∧ ThenD prog (aop0 e H (.append sz bytes s x)) d os e (over ++ [(⟨d, .append sz bytes s x, gd, id, pre⟩ : AOper)]) ls (hs ++ [⟨H, over, (⟨d, .append sz bytes s x, gd, id, pre⟩ : AOper) :: effsO os⟩]) Q) ∧
    (∀ {prog : Nat → Option AFunc} {e : Env} {H : AH} {d : Option Nat} {id : Nat} {pre : List Nat} {os : List AOper} {over : List AOper} {ls : List LR} {hs : List HR} {Q : Env → AH → Prop} {gd : Option (Nat × Bool)} (sz bytes : Nat) (s x : AOpd), WpDN prog (⟨d, .append sz bytes s x, gd, id, pre⟩ : AOper) os e H over ls hs Q ↔ okAll ls ⟨H, over, (⟨d, .append sz bytes s x, gd, id, pre⟩ : AOper) :: effsO os⟩ ∧ WpD prog os (putDst e d (.tuple [])) H (over ++ [(⟨d, .append sz bytes s x, gd, id, pre⟩ : AOper)]) ls (hs ++ [⟨H, over, (⟨d, .append sz bytes s x, gd, id, pre⟩ : AOper) :: effsO os⟩]) Q) ∧
    (∀ {prog : Nat → Option AFunc} {e : Env} {H : AH} {d : Option Nat} {id : Nat} {pre : List Nat} {os : List AOper} {over : List AOper} {ls : List LR} {hs : List HR} {Q : Env → AH → Prop} {gd : Option (Nat × Bool)} (sz : Nat) (y s : AOpd), WpDG prog (⟨d, .copy sz y s, gd, id, pre⟩ : AOper) os e H over ls hs Q ↔ okAll ls ⟨H, over, (⟨d, .copy sz y s, gd, id, pre⟩ : AOper) :: effsO os⟩ ∧ ThenD prog (aop0 e H (.copy sz y s)) d os e (over ++ [(⟨d, .copy sz y s, gd, id, pre⟩ : AOper)]) ls (hs ++ [⟨H, over, (⟨d, .copy sz y s, gd, id, pre⟩ : AOper) :: effsO os⟩]) Q) ∧
    (∀ {prog : Nat → Option AFunc} {e : Env} {H : AH} {d : Option Nat} {id : Nat} {pre : List Nat} {os : List AOper} {over : List AOper} {ls : List LR} {hs : List HR} {Q : Env → AH → Prop} {gd : Option (Nat × Bool)} (sz : Nat) (y s : AOpd), WpDN prog (⟨d, .copy sz y s, gd, id, pre⟩ : AOper) os e H over ls hs Q ↔ okAll ls ⟨H, over, (⟨d, .copy sz y s, gd, id, pre⟩ : AOper) :: effsO os⟩ ∧ WpD prog os (putDst e d (.tuple [])) H (over ++ [(⟨d, .copy sz y s, gd, id, pre⟩ : AOper)]) ls (hs ++ [⟨H, over, (⟨d, .copy sz y s, gd, id, pre⟩ : AOper) :: effsO os⟩]) Q) ∧
    (∀ {prog : Nat → Option AFunc} {e : Env} {H : AH} {d : Option Nat} {id : Nat} {pre : List Nat} {os : List AOper} {over : List AOper} {ls : List LR} {hs : List HR} {Q : Env → AH → Prop} {gd : Option (Nat × Bool)} (x : AOpd) (xs : List AOpd), WpDG prog (⟨d, .maxInt x xs, gd, id, pre⟩ : AOper) os e H over ls hs Q ↔ ThenD prog (aop0 e H (.maxInt x xs)) d os e over ls hs Q) ∧
    (∀ {prog : Nat → Option AFunc} {e : Env} {H : AH} {d : Option Nat} {id : Nat} {pre : List Nat} {os : List AOper} {over : List AOper} {ls : List LR} {hs : List HR} {Q : Env → AH → Prop} {gd : Option (Nat × Bool)} (x : AOpd) (xs : List AOpd), WpDN prog (⟨d, .maxInt x xs, gd, id, pre⟩ : AOper) os e H over ls hs Q ↔ WpD prog os (putDst e d (.tuple [])) H over ls hs Q) ∧
    (∀ {prog : Nat → Option AFunc} {e : Env} {H : AH} {d : Option Nat} {id : Nat} {pre : List Nat} {os : List AOper} {over : List AOper} {ls : List LR} {hs : List HR} {Q : Env → AH → Prop} {gd : Option (Nat × Bool)} (x : AOpd) (xs : List AOpd), WpDG prog (⟨d, .minInt x xs, gd, id, pre⟩ : AOper) os e H over ls hs Q ↔ ThenD prog (aop0 e H (.minInt x xs)) d os e over ls hs Q) ∧
    (∀ {prog : Nat → Option AFunc} {e : Env} {H : AH} {d : Option Nat} {id : Nat} {pre : List Nat} {os : List AOper} {over : List AOper} {ls : List LR} {hs : List HR} {Q : Env → AH → Prop} {gd : Option (Nat × Bool)} (x : AOpd) (xs : List AOpd), WpDN prog (⟨d, .minInt x xs, gd, id, pre⟩ : AOper) os e H over ls hs Q ↔ WpD prog os (putDst e d (.tuple [])) H over ls hs Q) ∧
    (∀ {prog : Nat → Option AFunc} {e : Env} {H : AH} {d : Option Nat} {id : Nat} {pre : List Nat} {os : List AOper} {over : List AOper} {ls : List LR} {hs : List HR} {Q : Env → AH → Prop} {gd : Option (Nat × Bool)} (f : AOpd) (xs : List AOpd), WpDN prog (⟨d, .call f xs, gd, id, pre⟩ : AOper) os e H over ls hs Q ↔ okAll ls ⟨H, over, (⟨d, .call f xs, gd, id, pre⟩ : AOper) :: effsO os⟩ ∧ WpD prog os (putDst e d (.tuple [])) H (over ++ [(⟨d, .call f xs, gd, id, pre⟩ : AOper)]) ls (hs ++ [⟨H, over, (⟨d, .call f xs, gd, id, pre⟩ : AOper) :: effsO os⟩]) Q) ∧
    (∀ {prog : Nat → Option AFunc} {e : Env} {H : AH} {over : List AOper} {ls : List LR} {hs : List HR} {Q : Env → AH → Prop}, WpD prog [] e H over ls hs Q ↔ okAll ls ⟨H, over, []⟩ ∧ Q e H) ∧
    (∀ {prog : Nat → Option AFunc} {v : AV} {H : AH} {d : Option Nat} {os : List AOper} {e : Env} {over : List AOper} {ls : List LR} {hs : List HR} {Q : Env → AH → Prop}, ThenD prog (some (v, H)) d os e over ls hs Q ↔ WpD prog os (putDst e d v) H over ls hs Q) ∧
    (∀ {prog : Nat → Option AFunc} {v : AV} {H : AH} {o : AOper} {f : AH → ORes} {os : List AOper} {e : Env} {over : List AOper} {ls : List LR} {hs : List HR} {Q : Env → AH → Prop}, ThenL prog (some (v, H)) o f os e over ls hs Q ↔ okOne ⟨o, f, v⟩ hs ∧ WpD prog os (putDst e o.dst v) H over (ls ++ [⟨o, f, v⟩]) hs Q) ∧
    (∀ {prog : Nat → Option AFunc} {e : Env} {H : AH} {d : Option Nat} {id : Nat} {pre : List Nat} {os : List AOper} {over : List AOper} {ls : List LR} {hs : List HR} {Q : Env → AH → Prop} {op : AOp}, WpD prog (⟨d, op, none, id, pre⟩ :: os) e H over ls hs Q ↔ WpDG prog ⟨d, op, none, id, pre⟩ os e H over ls hs Q) ∧
    (∀ {prog : Nat → Option AFunc} {e : Env} {H : AH} {d : Option Nat} {id : Nat} {pre : List Nat} {os : List AOper} {over : List AOper} {ls : List LR} {hs : List HR} {Q : Env → AH → Prop} {op : AOp} {t : Nat} {b : Bool}, WpD prog (⟨d, op, some (t, b), id, pre⟩ :: os) e H over ls hs Q ↔ GuardD prog (e.get t) b ⟨d, op, some (t, b), id, pre⟩ os e H over ls hs Q) ∧
    (∀ {prog : Nat → Option AFunc} {e : Env} {H : AH} {d : Option Nat} {id : Nat} {pre : List Nat} {os : List AOper} {over : List AOper} {ls : List LR} {hs : List HR} {Q : Env → AH → Prop} {o : AOper}, GuardD prog (some (.bool true)) true o os e H over ls hs Q ↔ WpDG prog o os e H over ls hs Q) ∧
    (∀ {prog : Nat → Option AFunc} {e : Env} {H : AH} {d : Option Nat} {id : Nat} {pre : List Nat} {os : List AOper} {over : List AOper} {ls : List LR} {hs : List HR} {Q : Env → AH → Prop} {o : AOper}, GuardD prog (some (.bool false)) false o os e H over ls hs Q ↔ WpDG prog o os e H over ls hs Q) ∧
    (∀ {prog : Nat → Option AFunc} {e : Env} {H : AH} {d : Option Nat} {id : Nat} {pre : List Nat} {os : List AOper} {over : List AOper} {ls : List LR} {hs : List HR} {Q : Env → AH → Prop} {o : AOper}, GuardD prog (some (.bool true)) false o os e H over ls hs Q ↔ WpDN prog o os e H over ls hs Q) ∧
    (∀ {prog : Nat → Option AFunc} {e : Env} {H : AH} {d : Option Nat} {id : Nat} {pre : List Nat} {os : List AOper} {over : List AOper} {ls : List LR} {hs : List HR} {Q : Env → AH → Prop} {o : AOper}, GuardD prog (some (.bool false)) true o os e H over ls hs Q ↔ WpDN prog o os e H over ls hs Q) ∧
    (∀ {prog : Nat → Option AFunc} {e : Env} {H : AH} {d : Option Nat} {id : Nat} {pre : List Nat} {os : List AOper} {over : List AOper} {ls : List LR} {hs : List HR} {Q : Env → AH → Prop} {o : AOper} {b : Bool}, GuardD prog (some (.tuple [])) b o os e H over ls hs Q ↔ WpDN prog o os e H over ls hs Q) :=
  ⟨by intros; exact Iff.rfl,
   by intros; exact Iff.rfl,
   by intros; exact Iff.rfl,
   by intros; exact Iff.rfl,
   by intros; exact Iff.rfl,
   by intros; exact Iff.rfl,
   by intros; exact Iff.rfl,
   by intros; exact Iff.rfl,
   by intros; exact Iff.rfl,
   by intros; exact Iff.rfl,
   by intros; exact Iff.rfl,
   by intros; exact Iff.rfl,
   by intros; exact Iff.rfl,
   by intros; exact Iff.rfl,
   by intros; exact Iff.rfl,
   by intros; exact Iff.rfl,
   by intros; exact Iff.rfl,
   by intros; exact Iff.rfl,
   by intros; exact Iff.rfl,
   by intros; exact Iff.rfl,
   by intros; exact Iff.rfl,
   by intros; exact Iff.rfl,
   by intros; exact Iff.rfl,
   by intros; exact Iff.rfl,
   by intros; exact Iff.rfl,
   by intros; exact Iff.rfl,
   by intros; exact Iff.rfl,
   by intros; exact Iff.rfl,
   by intros; exact Iff.rfl,
   by intros; exact Iff.rfl,
   by intros; exact Iff.rfl,
   by intros; exact Iff.rfl,
   by intros; exact Iff.rfl,
   by intros; exact Iff.rfl,
   by intros; exact Iff.rfl,
   by intros; exact Iff.rfl,
   by intros; exact Iff.rfl,
   by intros; exact Iff.rfl,
   by intros; exact Iff.rfl,
   by intros; exact Iff.rfl,
   by intros; exact Iff.rfl,
   by intros; exact Iff.rfl,
   by intros; exact Iff.rfl,
   by intros; exact Iff.rfl,
   by intros; exact Iff.rfl,
   by intros; exact Iff.rfl,
   by intros; exact Iff.rfl,
   by intros; exact Iff.rfl,
   by intros; exact Iff.rfl,
   by intros; exact Iff.rfl,
   by intros; exact Iff.rfl,
   by intros; exact Iff.rfl,
   by intros; exact Iff.rfl,
   by intros; exact Iff.rfl,
   by intros; exact Iff.rfl,
   by intros; exact Iff.rfl,
   by intros; exact Iff.rfl,
   by intros; exact Iff.rfl,
   by intros; exact Iff.rfl,
   by intros; exact Iff.rfl,
   by intros; exact Iff.rfl,
   by intros; exact Iff.rfl,
   by intros; exact Iff.rfl,
   by intros; exact Iff.rfl,
   by intros; exact Iff.rfl,
   by intros; exact Iff.rfl,
   by intros; exact Iff.rfl,
   by intros; exact Iff.rfl,
   by intros; exact Iff.rfl,
   by intros; exact Iff.rfl,
   by intros; exact Iff.rfl,
   by intros; exact Iff.rfl,
   by intros; exact Iff.rfl,
   by intros; exact Iff.rfl,
   by intros; exact Iff.rfl,
   by intros; exact Iff.rfl,
   by intros; exact Iff.rfl,
   by intros; exact Iff.rfl,
   by intros; exact Iff.rfl,
   by intros; exact Iff.rfl,
   by intros; exact Iff.rfl,
   Iff.rfl,
   Iff.rfl,
   Iff.rfl,
   WpD_yes rfl,
   D_guard,
   by intros; exact Iff.rfl,
   by intros; exact Iff.rfl,
   by intros; exact Iff.rfl,
   by intros; exact Iff.rfl,
   by intros; exact Iff.rfl⟩
end Go.AM
namespace Go.AM
theorem writeN_nil (vs : List AV) (i : Nat) : writeN vs i [] = some vs := by cases vs <;> rfl
def consV : Option AV → Option (List AV) → Option (List AV)
  | some v, some vs => some (v :: vs)
  | _, _ => none
def optV : Option AV → Option (Option AV)
  | some v => some (some v)
  | none => none
def consP (o n : Nat) : Option AV → Option (List (Nat × Nat × AV)) → Option (List (Nat × Nat × AV))
  | some v, some vs => some ((o, n, v) :: vs)
  | _, _ => none
theorem E4 :
    (∀ {e : Env} {x : AOpd} {xs : List AOpd}, vals e (x :: xs) = consV (x.val e) (vals e xs)) ∧
    (∀ {e : Env} {x : AOpd}, optVal e (some x) = optV (x.val e)) ∧
    (∀ {e : Env} {o n : Nat} {x : AOpd} {xs : List (Nat × Nat × AOpd)}, partVals e ((o, n, x) :: xs) = consP o n (x.val e) (partVals e xs)) ∧
    (∀ {v : AV} {vs : List AV}, consV (some v) (some vs) = some (v :: vs)) ∧
    (∀ {v : AV}, optV (some v) = some (some v)) ∧
    (∀ {o n : Nat} {v : AV} {vs : List (Nat × Nat × AV)}, consP o n (some v) (some vs) = some ((o, n, v) :: vs)) ∧
    (∀ {e : Env}, vals e [] = some []) := by
  refine ⟨?_, ?_, ?_, rfl, rfl, rfl, rfl⟩
  · intro e x xs
    rw [vals_cons]
    cases x.val e <;> cases vals e xs <;> rfl
  · intro e x
    rw [optVal_some]
    cases x.val e <;> rfl
  · intro e o n x xs
    rw [partVals_cons]
    cases x.val e <;> cases partVals e xs <;> rfl
theorem E3 :
    (∀ {H : AH} {b i : Nat}, AH.read1 H b i = match H.get b with
      | some (.cells _ vs) => vs[i]?
      | _ => none) ∧
    (∀ {H : AH} {b i n : Nat}, AH.read H b i n = match H.get b with
      | some (.cells _ vs) => readN vs i n
      | _ => none) ∧
    (∀ {H : AH} {b i : Nat} {xs : List AV}, AH.write H b i xs = match H.get b with
      | some (.cells false vs) => match writeN vs i xs with
        | some vs' => if xs.all AV.isCell then some (H.set b (.cells false vs')) else none
        | none => none
      | _ => none) ∧
    (∀ {H : AH} {o : AObj} {k : Nat}, (H.alloc o).get k = if k = H.next then some o else H.get k) ∧
    (∀ {H : AH} {b k : Nat} {o : AObj}, (H.set b o).get k = if k = b then some o else H.get k) ∧
    (∀ {a b : Nat} {x y : Option AObj}, a ≠ b → (if a = b then x else y) = y) ∧
    (∀ {H : AH} {o : AObj}, (H.alloc o).next = H.next + 1) ∧
    (∀ {H : AH} {b : Nat} {o : AObj}, (H.set b o).next = H.next) ∧
    (∀ {H : AH} {n b i : Nat} {v : AV}, opStore n (.ptr b i) v H = match v.cells? with
      | some cs => if cs.length = n then unitOf (H.write b i cs) else none
      | none => none) ∧
    (∀ {cs : List AV}, AV.cells? (.agg cs) = some cs) ∧
    (∀ {k : IntKind} {n : Int}, AV.cells? (.int k n) = some [.int k n]) ∧
    (∀ {b : Bool}, AV.cells? (.bool b) = some [.bool b]) ∧
    (∀ {s : ByteArray}, AV.cells? (.str s) = some [.str s]) ∧
    (∀ {b i : Nat}, AV.cells? (.ptr b i) = some [.ptr b i]) ∧
    (∀ {b i l z : Nat}, AV.cells? (.slice b i l z) = some [.slice b i l z]) ∧
    (AV.cells? .nilslice = some [.nilslice]) ∧ (AV.cells? .nilptr = some [.nilptr]) ∧ (AV.cells? .nilfunc = some [.nilfunc]) ∧
    (∀ {f : Nat} {a b : List AV}, AV.cells? (.func f a b) = some [.func f a b]) ∧
    (∀ {l : Nat}, AV.cells? (.yield l) = some [.yield l]) ∧
    (∀ {b : Nat}, AV.cells? (.map b) = some [.map b]) ∧
    (∀ {k : IntKind} {n : Int}, AV.isCell (.int k n) = true) ∧
    (∀ {b : Bool}, AV.isCell (.bool b) = true) ∧
    (∀ {s : ByteArray}, AV.isCell (.str s) = true) ∧
    (∀ {b i : Nat}, AV.isCell (.ptr b i) = true) ∧
    (∀ {b i l z : Nat}, AV.isCell (.slice b i l z) = true) ∧
    (AV.isCell .nilslice = true) ∧ (AV.isCell .nilptr = true) ∧ (AV.isCell .nilfunc = true) ∧
    (∀ {f : Nat} {a b : List AV}, AV.isCell (.func f a b) = true) ∧
    (∀ {l : Nat}, AV.isCell (.yield l) = true) ∧
    (∀ {b : Nat}, AV.isCell (.map b) = true) ∧
    (∀ {vs : List AV} {i : Nat}, writeN vs i [] = some vs) ∧
    (∀ {v x : AV} {vs xs : List AV}, writeN (v :: vs) 0 (x :: xs) = (writeN vs 0 xs).map (x :: ·)) ∧
    (∀ {v x : AV} {vs xs : List AV} {i : Nat}, writeN (v :: vs) (i + 1) (x :: xs) = (writeN vs i (x :: xs)).map (v :: ·)) ∧
    (∀ {vs : List AV} {i n : Nat}, readN vs i n = if i + n ≤ vs.length then some ((vs.drop i).take n) else none) ∧
    (∀ {z : List AV} {ps : List (Nat × Nat × AV)} {H : AH}, opBuild z ps H = aggOf H (fillA z ps)) ∧
    (∀ {cs : List AV}, fillA cs [] = some cs) ∧
    (∀ {cs : List AV} {o n : Nat} {v : AV} {rest : List (Nat × Nat × AV)}, fillA cs ((o, n, v) :: rest) = match v.cells? with
      | some vs => if vs.length = n ∧ o + n ≤ cs.length then match writeN cs o vs with
          | some cs' => fillA cs' rest
          | none => none
        else none
      | none => none) ∧
    (∀ {l z : Nat} {zero : List AV} {ps : List (Nat × Nat × AV)} {H : AH}, opMkslice l z zero ps H = match fillA zero ps with
      | some cs => some (.slice H.next 0 l z, H.alloc (.cells false cs))
      | none => none) ∧
    (∀ {v : AV}, oneOf [v] = v) ∧
    (∀ {v w : AV} {l : List AV}, oneOf (v :: w :: l) = .tuple (v :: w :: l)) ∧
    (∀ {p : AV → Bool}, [].all p = true) ∧
    (∀ {p : AV → Bool} {v : AV} {vs : List AV}, (v :: vs).all p = (p v && vs.all p)) ∧
    (∀ {v : AV} {vs : List AV}, (v :: vs)[0]? = some v) ∧
    (∀ {v : AV} {vs : List AV} {i : Nat}, (v :: vs)[i + 1]? = vs[i]?) ∧
    (∀ {l : List AV}, l.drop 0 = l) ∧
    (∀ {v : AV} {l : List AV} {i : Nat}, (v :: l).drop (i + 1) = l.drop i) ∧
    (∀ {l : List AV}, l.take 0 = []) ∧
    (∀ {v : AV} {l : List AV} {i : Nat}, (v :: l).take (i + 1) = v :: l.take i) ∧
    (∀ {v : AV} {l : List AV}, (v :: l).length = l.length + 1) ∧
    (([] : List AV).length = 0) ∧
    (∀ {e : Env} {H : AH}, resVals e H [] = some []) ∧
    (∀ {e : Env} {H : AH} {t : Nat} {rs : List ARes}, resVals e H (.slot t :: rs) = match e.get t with
      | some v => match resVals e H rs with
        | some vs => some (v :: vs)
        | none => none
      | none => none) ∧
    (∀ {e : Env} {H : AH} {t : Nat} {rs : List ARes}, resVals e H (.cell t :: rs) = match (match e.get t with
        | some (.ptr b i) => H.read1 b i
        | _ => none) with
      | some v => match resVals e H rs with
        | some vs => some (v :: vs)
        | none => none
      | none => none) ∧
    (∀ {e : Env} {H : AH} {n t : Nat} {rs : List ARes}, resVals e H (.cellN n t :: rs) = match (match e.get t with
        | some (.ptr b i) => match H.read b i n with
          | some cs => some (.agg cs)
          | none => none
        | _ => none) with
      | some v => match resVals e H rs with
        | some vs => some (v :: vs)
        | none => none
      | none => none) := by
  refine ⟨rfl, rfl, ?_, AH.get_alloc _ _ _, AH.get_set _ _ _ _, fun h => if_neg h, rfl, rfl, rfl, rfl, rfl, rfl, rfl, rfl, rfl, rfl, rfl, rfl, rfl, rfl, rfl, rfl, rfl, rfl, rfl, rfl, rfl, rfl, rfl, rfl, rfl, rfl, writeN_nil _ _, rfl, rfl, rfl, ?_, rfl, rfl, ?_, rfl, rfl, rfl, rfl, rfl, rfl, rfl, rfl, rfl, rfl, rfl, rfl, rfl, rfl, rfl, rfl⟩
  · intro H b i xs
    unfold AH.write
    cases H.get b with
    | none => rfl
    | some o =>
      cases o with
      | cells ro vs =>
        cases ro with
        | true => rfl
        | false => simp only; cases writeN vs i xs <;> rfl
      | _ => rfl
  · intro z ps H
    unfold opBuild aggOf
    cases fillA z ps <;> rfl
  · intro l z zero ps H
    unfold opMkslice
    cases fillA zero ps <;> rfl
end Go.AM
namespace Go.AM
structure Goal (p : Prop) : Prop where
  out : p
theorem goal_iff {p : Prop} : Goal p ↔ p := ⟨Goal.out, Goal.mk⟩
inductive Kont where
  | seq (b : ACode)
  | block (id : Nat)
  | loop (m : Nat) (I : Nat → Env → AH → Prop)
def RetQ (res : List ARes) (R : AV → AH → Prop) : AExit → Env → AH → Prop
  | .exit _, _, _ => False
  | _, e, H => ∃ vs, resVals e H res = some vs ∧ R (oneOf vs) H
def RetE (x : Option (List AV)) (R : AV → AH → Prop) (H : AH) : Prop :=
  match x with
  | some vs => R (oneOf vs) H
  | none => False
def runK (prog : Nat → Option AFunc) (Q : AExit → Env → AH → Prop) : List Kont → AExit → Env → AH → Prop
  | [], x, e, H => Q x e H
  | .seq b :: ks, x, e, H => match x with
    | .normal => Wp prog b e H fun x e H => runK prog Q ks x e H
    | x => runK prog Q ks x e H
  | .block id :: ks, x, e, H => match x with
    | .exit i => if i = id then runK prog Q ks .normal e H else runK prog Q ks (.exit i) e H
    | x => runK prog Q ks x e H
  | .loop m I :: ks, x, e, H => match x with
    | .normal => ∃ k, k < m ∧ I k e H
    | x => runK prog Q ks x e H
def WpK (prog : Nat → Option AFunc) (c : ACode) (e : Env) (H : AH) (ks : List Kont) (Q : AExit → Env → AH → Prop) : Prop := Wp prog c e H fun x e H => runK prog Q ks x e H
def EndK (prog : Nat → Option AFunc) (x : AExit) (e : Env) (H : AH) (ks : List Kont) (Q : AExit → Env → AH → Prop) : Prop := runK prog Q ks x e H
def RegK (prog : Nat → Option AFunc) (os : List AOper) (kp : List Nat) (e : Env) (H : AH) (ks : List Kont) (Q : AExit → Env → AH → Prop) : Prop := WpOps prog os e H fun e H => runK prog Q ks .normal (e.keep kp) H
def DrawK (prog : Nat → Option AFunc) (os : List AOper) (kp : List Nat) (e : Env) (H : AH) (over : List AOper) (ls : List LR) (hs : List HR) (ks : List Kont) (Q : AExit → Env → AH → Prop) : Prop := WpD prog os e H over ls hs fun e H => runK prog Q ks .normal (e.keep kp) H
section
variable {prog : Nat → Option AFunc} {e : Env} {H : AH} {ks : List Kont} {Q : AExit → Env → AH → Prop}
def CondK (prog : Nat → Option AFunc) (x : Option AV) (a b : ACode) (e : Env) (H : AH) (ks : List Kont) (Q : AExit → Env → AH → Prop) : Prop :=
  match x with
  | some (.bool true) => WpK prog a e H ks Q
  | some (.bool false) => WpK prog b e H ks Q
  | _ => False
theorem CallQ_enter {R : AV → AH → Prop} {f : Nat} {first captured args : List AV} {fn : AFunc} (hp : prog f = some fn) (hl : (first ++ args ++ captured).length ≤ fn.nt)
    (h : WpK prog fn.body (envFrom 0 (first ++ args ++ captured)) H [] (RetQ fn.res R)) : CallQ prog (.func f first captured) args H R := by
  refine CallQ_func hp hl (h.mono fun x e' H' hx => ?_)
  cases x <;> exact hx
theorem K_draw {os : List AOper} {kp : List Nat} (h : Goal (DrawK prog os kp e H [] [] [] ks Q)) : WpK prog (.draw os kp) e H ks Q := Wp_draw h.out
theorem K_loop {a : ACode} (I : Nat → Env → AH → Prop) (m : Nat) (h0 : I m e H) (step : ∀ m e H, I m e H → WpK prog a e H (.loop m I :: ks) Q) : WpK prog (.loop a) e H ks Q := by
  refine Wp_loop I (fun k e H hI => ?_) m e H h0
  refine (step k e H hI).mono fun x e' H' hx => ?_
  cases x <;> exact hx
theorem C_decide {p : Prop} [Decidable p] {a b : ACode} (h1 : p → WpK prog a e H ks Q) (h2 : ¬ p → WpK prog b e H ks Q) : CondK prog (some (.bool (decide p))) a b e H ks Q := by
  by_cases h : p
  · simp only [h, decide_true]; exact h1 h
  · simp only [h, decide_false]; exact h2 h
end
theorem Wp_iff_reg {prog : Nat → Option AFunc} {ops : List AOper} {kp : List Nat} {e : Env} {H : AH} {Q : AExit → Env → AH → Prop} : Wp prog (.reg ops kp) e H Q ↔ WpOps prog ops e H fun e' H' => Q .normal (e'.keep kp) H' := by
  refine ⟨fun ⟨n, x, e', H', h, hq⟩ => ?_, Wp_reg⟩
  simp only [code] at h
  split at h
  · rename_i e1 H1 h1
    simp only [Option.some.injEq, Prod.mk.injEq] at h
    obtain ⟨rfl, rfl, rfl⟩ := h
    exact ⟨n, e1, H1, h1, hq⟩
  · cases h
theorem Wp_iff_seq {prog : Nat → Option AFunc} {a b : ACode} {e : Env} {H : AH} {Q : AExit → Env → AH → Prop} : Wp prog (.seq a b) e H Q ↔ Wp prog a e H fun x e' H' => match x with
    | .normal => Wp prog b e' H' Q
    | x => Q x e' H' := by
  refine ⟨fun ⟨n, x, e', H', h, hq⟩ => ?_, Wp_seq⟩
  simp only [code] at h
  split at h
  · rename_i e1 H1 h1
    exact ⟨n, _, _, _, h1, n, x, e', H', h, hq⟩
  · rename_i h1
    refine ⟨n, x, e', H', h, ?_⟩
    cases x with
    | normal => exact absurd h (h1 e' H')
    | _ => exact hq
theorem Wp_iff_block {prog : Nat → Option AFunc} {id : Nat} {a : ACode} {e : Env} {H : AH} {Q : AExit → Env → AH → Prop} : Wp prog (.block id a) e H Q ↔ Wp prog a e H fun x e' H' => match x with
    | .exit i => if i = id then Q .normal e' H' else Q (.exit i) e' H'
    | x => Q x e' H' := by
  refine ⟨fun ⟨n, x, e', H', h, hq⟩ => ?_, Wp_block⟩
  simp only [code] at h
  split at h
  · rename_i i e1 H1 h1
    refine ⟨n, _, _, _, h1, ?_⟩
    split at h
    · rename_i hi
      simp only [Option.some.injEq, Prod.mk.injEq] at h
      obtain ⟨rfl, rfl, rfl⟩ := h
      simp only [hi, if_true]; exact hq
    · rename_i hi
      simp only [Option.some.injEq, Prod.mk.injEq] at h
      obtain ⟨rfl, rfl, rfl⟩ := h
      simp only [hi, if_false]; exact hq
  · rename_i h1
    refine ⟨n, x, e', H', h, ?_⟩
    cases x with
    | exit i => exact absurd h (h1 i e' H')
    | _ => exact hq
theorem Wp_iff_plain {prog : Nat → Option AFunc} {e : Env} {H : AH} {Q : AExit → Env → AH → Prop} : (Wp prog .skip e H Q ↔ Q .normal e H) ∧ (∀ i, Wp prog (.exit i) e H Q ↔ Q (.exit i) e H) ∧ (Wp prog .ret e H Q ↔ Q .ret e H) := by
  refine ⟨⟨fun ⟨n, x, e', H', h, hq⟩ => ?_, Wp_skip⟩, fun i => ⟨fun ⟨n, x, e', H', h, hq⟩ => ?_, Wp_exit⟩, ⟨fun ⟨n, x, e', H', h, hq⟩ => ?_, Wp_ret⟩⟩
  all_goals
    simp only [code, Option.some.injEq, Prod.mk.injEq] at h
    obtain ⟨rfl, rfl, rfl⟩ := h
    exact hq
theorem Wp_iff_cond {prog : Nat → Option AFunc} {c : AOpd} {a b : ACode} {e : Env} {H : AH} {Q : AExit → Env → AH → Prop} : Wp prog (.cond c a b) e H Q ↔ match c.val e with
    | some (.bool true) => Wp prog a e H Q
    | some (.bool false) => Wp prog b e H Q
    | _ => False := by
  constructor
  · rintro ⟨n, x, e', H', h, hq⟩
    simp only [code] at h
    split at h
    · rename_i t ht
      simp only [ht]
      cases t with
      | true => exact ⟨n, x, e', H', h, hq⟩
      | false => exact ⟨n, x, e', H', h, hq⟩
    · cases h
  · intro h
    split at h
    · rename_i hc; exact Wp_cond hc h
    · rename_i hc; exact Wp_cond hc h
    · exact h.elim
theorem Wp_ext {prog : Nat → Option AFunc} {c : ACode} {e : Env} {H : AH} {Q Q' : AExit → Env → AH → Prop} (h : ∀ x e H, Q x e H ↔ Q' x e H) : Wp prog c e H Q ↔ Wp prog c e H Q' :=
  ⟨fun h' => h'.mono fun x e H => (h x e H).1, fun h' => h'.mono fun x e H => (h x e H).2⟩
theorem K1 :
    (∀ {prog : Nat → Option AFunc} {e : Env} {H : AH} {ks : List Kont} {Q : AExit → Env → AH → Prop} {a b : ACode}, WpK prog (.seq a b) e H ks Q ↔ WpK prog a e H (.seq b :: ks) Q) ∧
    (∀ {prog : Nat → Option AFunc} {e : Env} {H : AH} {ks : List Kont} {Q : AExit → Env → AH → Prop} {a : ACode} {id : Nat}, WpK prog (.block id a) e H ks Q ↔ WpK prog a e H (.block id :: ks) Q) ∧
    (∀ {prog : Nat → Option AFunc} {e : Env} {H : AH} {ks : List Kont} {Q : AExit → Env → AH → Prop}, WpK prog .skip e H ks Q ↔ EndK prog .normal e H ks Q) ∧
    (∀ {prog : Nat → Option AFunc} {e : Env} {H : AH} {ks : List Kont} {Q : AExit → Env → AH → Prop} {i : Nat}, WpK prog (.exit i) e H ks Q ↔ EndK prog (.exit i) e H ks Q) ∧
    (∀ {prog : Nat → Option AFunc} {e : Env} {H : AH} {ks : List Kont} {Q : AExit → Env → AH → Prop}, WpK prog .ret e H ks Q ↔ EndK prog .ret e H ks Q) ∧
    (∀ {prog : Nat → Option AFunc} {e : Env} {H : AH} {ks : List Kont} {Q : AExit → Env → AH → Prop} {os : List AOper} {kp : List Nat}, WpK prog (.reg os kp) e H ks Q ↔ RegK prog os kp e H ks Q) ∧
    (∀ {prog : Nat → Option AFunc} {e : Env} {H : AH} {ks : List Kont} {Q : AExit → Env → AH → Prop} {c : AOpd} {a b : ACode}, WpK prog (.cond c a b) e H ks Q ↔ CondK prog (c.val e) a b e H ks Q) ∧
    (∀ {prog : Nat → Option AFunc} {e : Env} {H : AH} {ks : List Kont} {Q : AExit → Env → AH → Prop} {a b : ACode}, CondK prog (some (.bool true)) a b e H ks Q ↔ WpK prog a e H ks Q) ∧
    (∀ {prog : Nat → Option AFunc} {e : Env} {H : AH} {ks : List Kont} {Q : AExit → Env → AH → Prop} {a b : ACode}, CondK prog (some (.bool false)) a b e H ks Q ↔ WpK prog b e H ks Q) ∧
    (∀ {prog : Nat → Option AFunc} {e : Env} {H : AH} {ks : List Kont} {Q : AExit → Env → AH → Prop} {b : ACode}, EndK prog .normal e H (.seq b :: ks) Q ↔ WpK prog b e H ks Q) ∧
    (∀ {prog : Nat → Option AFunc} {e : Env} {H : AH} {ks : List Kont} {Q : AExit → Env → AH → Prop} {b : ACode} {i : Nat}, EndK prog (.exit i) e H (.seq b :: ks) Q ↔ EndK prog (.exit i) e H ks Q) ∧
    (∀ {prog : Nat → Option AFunc} {e : Env} {H : AH} {ks : List Kont} {Q : AExit → Env → AH → Prop} {b : ACode}, EndK prog .ret e H (.seq b :: ks) Q ↔ EndK prog .ret e H ks Q) ∧
    (∀ {prog : Nat → Option AFunc} {e : Env} {H : AH} {ks : List Kont} {Q : AExit → Env → AH → Prop} {id : Nat}, EndK prog .normal e H (.block id :: ks) Q ↔ EndK prog .normal e H ks Q) ∧
    (∀ {prog : Nat → Option AFunc} {e : Env} {H : AH} {ks : List Kont} {Q : AExit → Env → AH → Prop} {id i : Nat}, EndK prog (.exit i) e H (.block id :: ks) Q ↔ if i = id then EndK prog .normal e H ks Q else EndK prog (.exit i) e H ks Q) ∧
    (∀ {prog : Nat → Option AFunc} {e : Env} {H : AH} {ks : List Kont} {Q : AExit → Env → AH → Prop} {id : Nat}, EndK prog .ret e H (.block id :: ks) Q ↔ EndK prog .ret e H ks Q) ∧
    (∀ {prog : Nat → Option AFunc} {e : Env} {H : AH} {ks : List Kont} {Q : AExit → Env → AH → Prop} {m i : Nat} {I : Nat → Env → AH → Prop}, EndK prog (.exit i) e H (.loop m I :: ks) Q ↔ EndK prog (.exit i) e H ks Q) ∧
    (∀ {prog : Nat → Option AFunc} {e : Env} {H : AH} {ks : List Kont} {Q : AExit → Env → AH → Prop} {m : Nat} {I : Nat → Env → AH → Prop}, EndK prog .ret e H (.loop m I :: ks) Q ↔ EndK prog .ret e H ks Q) ∧
    (∀ {prog : Nat → Option AFunc} {e : Env} {H : AH} {res : List ARes} {R : AV → AH → Prop}, EndK prog .normal e H [] (RetQ res R) ↔ RetE (resVals e H res) R H) ∧
    (∀ {prog : Nat → Option AFunc} {e : Env} {H : AH} {res : List ARes} {R : AV → AH → Prop}, EndK prog .ret e H [] (RetQ res R) ↔ RetE (resVals e H res) R H) ∧
    (∀ {vs : List AV} {H : AH} {R : AV → AH → Prop}, RetE (some vs) R H ↔ R (oneOf vs) H) := by
  have hret : ∀ {e : Env} {H : AH} {res : List ARes} {R : AV → AH → Prop}, (∃ vs, resVals e H res = some vs ∧ R (oneOf vs) H) ↔ RetE (resVals e H res) R H := by
    intro e H res R
    unfold RetE
    cases resVals e H res with
    | none => simp
    | some vs => simp
  refine ⟨?_, ?_, Wp_iff_plain.1, Wp_iff_plain.2.1 _, Wp_iff_plain.2.2, Wp_iff_reg, ?_, Iff.rfl, Iff.rfl, Iff.rfl, Iff.rfl, Iff.rfl, Iff.rfl, Iff.rfl, Iff.rfl, Iff.rfl, Iff.rfl, hret, hret, Iff.rfl⟩
  · intro prog e H ks Q a b
    refine Wp_iff_seq.trans (Wp_ext fun x e H => ?_)
    cases x <;> exact Iff.rfl
  · intro prog e H ks Q a id
    refine Wp_iff_block.trans (Wp_ext fun x e H => ?_)
    cases x <;> exact Iff.rfl
  · intro prog e H ks Q c a b
    refine Wp_iff_cond.trans ?_
    unfold CondK
    generalize c.val e = x
    cases x with
    | none => rfl
    | some v =>
      cases v with
      | bool t => cases t <;> rfl
      | _ => rfl
def ThenR (prog : Nat → Option AFunc) (x : ORes) (d : Option Nat) (os : List AOper) (kp : List Nat) (e : Env) (ks : List Kont) (Q : AExit → Env → AH → Prop) : Prop := ThenO prog x d os e fun e H => runK prog Q ks .normal (e.keep kp) H
def GuardR (prog : Nat → Option AFunc) (x : Option AV) (b : Bool) (d : Option Nat) (op : AOp) (id : Nat) (pre : List Nat) (os : List AOper) (kp : List Nat) (e : Env) (H : AH) (ks : List Kont) (Q : AExit → Env → AH → Prop) : Prop := GuardO prog x b d op id pre os e H fun e H => runK prog Q ks .normal (e.keep kp) H
theorem K2 :
    (∀ {prog : Nat → Option AFunc} {e : Env} {H : AH} {d : Option Nat} {id : Nat} {pre : List Nat} {os : List AOper} {kp : List Nat} {kk : List Kont} {Q : AExit → Env → AH → Prop} (x : AOpd), RegK prog (⟨d, .move x, none, id, pre⟩ :: os) kp e H kk Q ↔ ThenR prog (aop0 e H (.move x)) d os kp e kk Q) ∧
    (∀ {prog : Nat → Option AFunc} {e : Env} {H : AH} {d : Option Nat} {id : Nat} {pre : List Nat} {os : List AOper} {kp : List Nat} {kk : List Kont} {Q : AExit → Env → AH → Prop} (c a b : AOpd), RegK prog (⟨d, .pick c a b, none, id, pre⟩ :: os) kp e H kk Q ↔ ThenR prog (aop0 e H (.pick c a b)) d os kp e kk Q) ∧
    (∀ {prog : Nat → Option AFunc} {e : Env} {H : AH} {d : Option Nat} {id : Nat} {pre : List Nat} {os : List AOper} {kp : List Nat} {kk : List Kont} {Q : AExit → Env → AH → Prop} (zero : List AV), RegK prog (⟨d, .alloc zero, none, id, pre⟩ :: os) kp e H kk Q ↔ ThenR prog (aop0 e H (.alloc zero)) d os kp e kk Q) ∧
    (∀ {prog : Nat → Option AFunc} {e : Env} {H : AH} {d : Option Nat} {id : Nat} {pre : List Nat} {os : List AOper} {kp : List Nat} {kk : List Kont} {Q : AExit → Env → AH → Prop} (x : AOpd), RegK prog (⟨d, .box x, none, id, pre⟩ :: os) kp e H kk Q ↔ ThenR prog (aop0 e H (.box x)) d os kp e kk Q) ∧
    (∀ {prog : Nat → Option AFunc} {e : Env} {H : AH} {d : Option Nat} {id : Nat} {pre : List Nat} {os : List AOper} {kp : List Nat} {kk : List Kont} {Q : AExit → Env → AH → Prop} (zero : List AV) (parts : List (Nat × Nat × AOpd)), RegK prog (⟨d, .build zero parts, none, id, pre⟩ :: os) kp e H kk Q ↔ ThenR prog (aop0 e H (.build zero parts)) d os kp e kk Q) ∧
    (∀ {prog : Nat → Option AFunc} {e : Env} {H : AH} {d : Option Nat} {id : Nat} {pre : List Nat} {os : List AOper} {kp : List Nat} {kk : List Kont} {Q : AExit → Env → AH → Prop} (len sz : Nat) (zero : List AV) (parts : List (Nat × Nat × AOpd)), RegK prog (⟨d, .mkslice len sz zero parts, none, id, pre⟩ :: os) kp e H kk Q ↔ ThenR prog (aop0 e H (.mkslice len sz zero parts)) d os kp e kk Q) ∧
    (∀ {prog : Nat → Option AFunc} {e : Env} {H : AH} {d : Option Nat} {id : Nat} {pre : List Nat} {os : List AOper} {kp : List Nat} {kk : List Kont} {Q : AExit → Env → AH → Prop} (a : AOpd), RegK prog (⟨d, .load a, none, id, pre⟩ :: os) kp e H kk Q ↔ ThenR prog (aop0 e H (.load a)) d os kp e kk Q) ∧
    (∀ {prog : Nat → Option AFunc} {e : Env} {H : AH} {d : Option Nat} {id : Nat} {pre : List Nat} {os : List AOper} {kp : List Nat} {kk : List Kont} {Q : AExit → Env → AH → Prop} (n : Nat) (a : AOpd), RegK prog (⟨d, .loadN n a, none, id, pre⟩ :: os) kp e H kk Q ↔ ThenR prog (aop0 e H (.loadN n a)) d os kp e kk Q) ∧
    (∀ {prog : Nat → Option AFunc} {e : Env} {H : AH} {d : Option Nat} {id : Nat} {pre : List Nat} {os : List AOper} {kp : List Nat} {kk : List Kont} {Q : AExit → Env → AH → Prop} (n : Nat) (a x : AOpd), RegK prog (⟨d, .store n a x, none, id, pre⟩ :: os) kp e H kk Q ↔ ThenR prog (aop0 e H (.store n a x)) d os kp e kk Q) ∧
    (∀ {prog : Nat → Option AFunc} {e : Env} {H : AH} {d : Option Nat} {id : Nat} {pre : List Nat} {os : List AOper} {kp : List Nat} {kk : List Kont} {Q : AExit → Env → AH → Prop} (x : AOpd), RegK prog (⟨d, .nilCheck x, none, id, pre⟩ :: os) kp e H kk Q ↔ ThenR prog (aop0 e H (.nilCheck x)) d os kp e kk Q) ∧
    (∀ {prog : Nat → Option AFunc} {e : Env} {H : AH} {d : Option Nat} {id : Nat} {pre : List Nat} {os : List AOper} {kp : List Nat} {kk : List Kont} {Q : AExit → Env → AH → Prop} (op : BinOp) (x y : AOpd), RegK prog (⟨d, .bin op x y, none, id, pre⟩ :: os) kp e H kk Q ↔ ThenR prog (aop0 e H (.bin op x y)) d os kp e kk Q) ∧
    (∀ {prog : Nat → Option AFunc} {e : Env} {H : AH} {d : Option Nat} {id : Nat} {pre : List Nat} {os : List AOper} {kp : List Nat} {kk : List Kont} {Q : AExit → Env → AH → Prop} (g : Bool) (ks : List SK) (neg : Bool) (x y : AOpd), RegK prog (⟨d, .eqFlat g ks neg x y, none, id, pre⟩ :: os) kp e H kk Q ↔ ThenR prog (aop0 e H (.eqFlat g ks neg x y)) d os kp e kk Q) ∧
    (∀ {prog : Nat → Option AFunc} {e : Env} {H : AH} {d : Option Nat} {id : Nat} {pre : List Nat} {os : List AOper} {kp : List Nat} {kk : List Kont} {Q : AExit → Env → AH → Prop} (k : NK) (neg : Bool) (x y : AOpd), RegK prog (⟨d, .eqNil k neg x y, none, id, pre⟩ :: os) kp e H kk Q ↔ ThenR prog (aop0 e H (.eqNil k neg x y)) d os kp e kk Q) ∧
    (∀ {prog : Nat → Option AFunc} {e : Env} {H : AH} {d : Option Nat} {id : Nat} {pre : List Nat} {os : List AOper} {kp : List Nat} {kk : List Kont} {Q : AExit → Env → AH → Prop} (op : UnOp) (x : AOpd), RegK prog (⟨d, .un op x, none, id, pre⟩ :: os) kp e H kk Q ↔ ThenR prog (aop0 e H (.un op x)) d os kp e kk Q) ∧
    (∀ {prog : Nat → Option AFunc} {e : Env} {H : AH} {d : Option Nat} {id : Nat} {pre : List Nat} {os : List AOper} {kp : List Nat} {kk : List Kont} {Q : AExit → Env → AH → Prop} (k : IntKind) (x : AOpd), RegK prog (⟨d, .toInt k x, none, id, pre⟩ :: os) kp e H kk Q ↔ ThenR prog (aop0 e H (.toInt k x)) d os kp e kk Q) ∧
    (∀ {prog : Nat → Option AFunc} {e : Env} {H : AH} {d : Option Nat} {id : Nat} {pre : List Nat} {os : List AOper} {kp : List Nat} {kk : List Kont} {Q : AExit → Env → AH → Prop} (x : AOpd), RegK prog (⟨d, .strId x, none, id, pre⟩ :: os) kp e H kk Q ↔ ThenR prog (aop0 e H (.strId x)) d os kp e kk Q) ∧
    (∀ {prog : Nat → Option AFunc} {e : Env} {H : AH} {d : Option Nat} {id : Nat} {pre : List Nat} {os : List AOper} {kp : List Nat} {kk : List Kont} {Q : AExit → Env → AH → Prop} (f : Nat) (first captured : List AOpd), RegK prog (⟨d, .func f first captured, none, id, pre⟩ :: os) kp e H kk Q ↔ ThenR prog (aop0 e H (.func f first captured)) d os kp e kk Q) ∧
    (∀ {prog : Nat → Option AFunc} {e : Env} {H : AH} {d : Option Nat} {id : Nat} {pre : List Nat} {os : List AOper} {kp : List Nat} {kk : List Kont} {Q : AExit → Env → AH → Prop} , RegK prog (⟨d, .makeMap, none, id, pre⟩ :: os) kp e H kk Q ↔ ThenR prog (aop0 e H .makeMap) d os kp e kk Q) ∧
    (∀ {prog : Nat → Option AFunc} {e : Env} {H : AH} {d : Option Nat} {id : Nat} {pre : List Nat} {os : List AOper} {kp : List Nat} {kk : List Kont} {Q : AExit → Env → AH → Prop} (sz bytes : Nat) (zero : List AV) (len cap : AOpd), RegK prog (⟨d, .makeSlice sz bytes zero len cap, none, id, pre⟩ :: os) kp e H kk Q ↔ ThenR prog (aop0 e H (.makeSlice sz bytes zero len cap)) d os kp e kk Q) ∧
    (∀ {prog : Nat → Option AFunc} {e : Env} {H : AH} {d : Option Nat} {id : Nat} {pre : List Nat} {os : List AOper} {kp : List Nat} {kk : List Kont} {Q : AExit → Env → AH → Prop} (x : AOpd) (lo hi : Option AOpd), RegK prog (⟨d, .sliceStr x lo hi, none, id, pre⟩ :: os) kp e H kk Q ↔ ThenR prog (aop0 e H (.sliceStr x lo hi)) d os kp e kk Q) ∧
    (∀ {prog : Nat → Option AFunc} {e : Env} {H : AH} {d : Option Nat} {id : Nat} {pre : List Nat} {os : List AOper} {kp : List Nat} {kk : List Kont} {Q : AExit → Env → AH → Prop} (sz : Nat) (x : AOpd) (lo hi : Option AOpd), RegK prog (⟨d, .sliceSl sz x lo hi, none, id, pre⟩ :: os) kp e H kk Q ↔ ThenR prog (aop0 e H (.sliceSl sz x lo hi)) d os kp e kk Q) ∧
    (∀ {prog : Nat → Option AFunc} {e : Env} {H : AH} {d : Option Nat} {id : Nat} {pre : List Nat} {os : List AOper} {kp : List Nat} {kk : List Kont} {Q : AExit → Env → AH → Prop} (n sz : Nat) (x : AOpd) (lo hi : Option AOpd), RegK prog (⟨d, .sliceArr n sz x lo hi, none, id, pre⟩ :: os) kp e H kk Q ↔ ThenR prog (aop0 e H (.sliceArr n sz x lo hi)) d os kp e kk Q) ∧
    (∀ {prog : Nat → Option AFunc} {e : Env} {H : AH} {d : Option Nat} {id : Nat} {pre : List Nat} {os : List AOper} {kp : List Nat} {kk : List Kont} {Q : AExit → Env → AH → Prop} (n : Nat) (x : AOpd), RegK prog (⟨d, .off n x, none, id, pre⟩ :: os) kp e H kk Q ↔ ThenR prog (aop0 e H (.off n x)) d os kp e kk Q) ∧
    (∀ {prog : Nat → Option AFunc} {e : Env} {H : AH} {d : Option Nat} {id : Nat} {pre : List Nat} {os : List AOper} {kp : List Nat} {kk : List Kont} {Q : AExit → Env → AH → Prop} (sz : Nat) (x i : AOpd), RegK prog (⟨d, .idxSl sz x i, none, id, pre⟩ :: os) kp e H kk Q ↔ ThenR prog (aop0 e H (.idxSl sz x i)) d os kp e kk Q) ∧
    (∀ {prog : Nat → Option AFunc} {e : Env} {H : AH} {d : Option Nat} {id : Nat} {pre : List Nat} {os : List AOper} {kp : List Nat} {kk : List Kont} {Q : AExit → Env → AH → Prop} (len sz : Nat) (x i : AOpd), RegK prog (⟨d, .idxArr len sz x i, none, id, pre⟩ :: os) kp e H kk Q ↔ ThenR prog (aop0 e H (.idxArr len sz x i)) d os kp e kk Q) ∧
    (∀ {prog : Nat → Option AFunc} {e : Env} {H : AH} {d : Option Nat} {id : Nat} {pre : List Nat} {os : List AOper} {kp : List Nat} {kk : List Kont} {Q : AExit → Env → AH → Prop} (off : Nat) (x : AOpd), RegK prog (⟨d, .part off x, none, id, pre⟩ :: os) kp e H kk Q ↔ ThenR prog (aop0 e H (.part off x)) d os kp e kk Q) ∧
    (∀ {prog : Nat → Option AFunc} {e : Env} {H : AH} {d : Option Nat} {id : Nat} {pre : List Nat} {os : List AOper} {kp : List Nat} {kk : List Kont} {Q : AExit → Env → AH → Prop} (off n : Nat) (x : AOpd), RegK prog (⟨d, .partN off n x, none, id, pre⟩ :: os) kp e H kk Q ↔ ThenR prog (aop0 e H (.partN off n x)) d os kp e kk Q) ∧
    (∀ {prog : Nat → Option AFunc} {e : Env} {H : AH} {d : Option Nat} {id : Nat} {pre : List Nat} {os : List AOper} {kp : List Nat} {kk : List Kont} {Q : AExit → Env → AH → Prop} (len sz : Nat) (isAgg : Bool) (x i : AOpd), RegK prog (⟨d, .at len sz isAgg x i, none, id, pre⟩ :: os) kp e H kk Q ↔ ThenR prog (aop0 e H (.at len sz isAgg x i)) d os kp e kk Q) ∧
    (∀ {prog : Nat → Option AFunc} {e : Env} {H : AH} {d : Option Nat} {id : Nat} {pre : List Nat} {os : List AOper} {kp : List Nat} {kk : List Kont} {Q : AExit → Env → AH → Prop} (x i : AOpd), RegK prog (⟨d, .byteAt x i, none, id, pre⟩ :: os) kp e H kk Q ↔ ThenR prog (aop0 e H (.byteAt x i)) d os kp e kk Q) ∧
    (∀ {prog : Nat → Option AFunc} {e : Env} {H : AH} {d : Option Nat} {id : Nat} {pre : List Nat} {os : List AOper} {kp : List Nat} {kk : List Kont} {Q : AExit → Env → AH → Prop} (g : Bool) (ks : List SK) (zero : AV) (ok : Bool) (m k : AOpd), RegK prog (⟨d, .lookup g ks zero ok m k, none, id, pre⟩ :: os) kp e H kk Q ↔ ThenR prog (aop0 e H (.lookup g ks zero ok m k)) d os kp e kk Q) ∧
    (∀ {prog : Nat → Option AFunc} {e : Env} {H : AH} {d : Option Nat} {id : Nat} {pre : List Nat} {os : List AOper} {kp : List Nat} {kk : List Kont} {Q : AExit → Env → AH → Prop} (g : Bool) (ks : List SK) (m k v : AOpd), RegK prog (⟨d, .update g ks m k v, none, id, pre⟩ :: os) kp e H kk Q ↔ ThenR prog (aop0 e H (.update g ks m k v)) d os kp e kk Q) ∧
    (∀ {prog : Nat → Option AFunc} {e : Env} {H : AH} {d : Option Nat} {id : Nat} {pre : List Nat} {os : List AOper} {kp : List Nat} {kk : List Kont} {Q : AExit → Env → AH → Prop} (x : AOpd), RegK prog (⟨d, .rangeStr x, none, id, pre⟩ :: os) kp e H kk Q ↔ ThenR prog (aop0 e H (.rangeStr x)) d os kp e kk Q) ∧
    (∀ {prog : Nat → Option AFunc} {e : Env} {H : AH} {d : Option Nat} {id : Nat} {pre : List Nat} {os : List AOper} {kp : List Nat} {kk : List Kont} {Q : AExit → Env → AH → Prop} (it : AOpd), RegK prog (⟨d, .nextStr it, none, id, pre⟩ :: os) kp e H kk Q ↔ ThenR prog (aop0 e H (.nextStr it)) d os kp e kk Q) ∧
    (∀ {prog : Nat → Option AFunc} {e : Env} {H : AH} {d : Option Nat} {id : Nat} {pre : List Nat} {os : List AOper} {kp : List Nat} {kk : List Kont} {Q : AExit → Env → AH → Prop} (i : Nat) (x : AOpd), RegK prog (⟨d, .extract i x, none, id, pre⟩ :: os) kp e H kk Q ↔ ThenR prog (aop0 e H (.extract i x)) d os kp e kk Q) ∧
    (∀ {prog : Nat → Option AFunc} {e : Env} {H : AH} {d : Option Nat} {id : Nat} {pre : List Nat} {os : List AOper} {kp : List Nat} {kk : List Kont} {Q : AExit → Env → AH → Prop} (isStr : Bool) (x : AOpd), RegK prog (⟨d, .len isStr x, none, id, pre⟩ :: os) kp e H kk Q ↔ ThenR prog (aop0 e H (.len isStr x)) d os kp e kk Q) ∧
    (∀ {prog : Nat → Option AFunc} {e : Env} {H : AH} {d : Option Nat} {id : Nat} {pre : List Nat} {os : List AOper} {kp : List Nat} {kk : List Kont} {Q : AExit → Env → AH → Prop} (x : AOpd), RegK prog (⟨d, .lenMap x, none, id, pre⟩ :: os) kp e H kk Q ↔ ThenR prog (aop0 e H (.lenMap x)) d os kp e kk Q) ∧
    (∀ {prog : Nat → Option AFunc} {e : Env} {H : AH} {d : Option Nat} {id : Nat} {pre : List Nat} {os : List AOper} {kp : List Nat} {kk : List Kont} {Q : AExit → Env → AH → Prop} (sz bytes : Nat) (s x : AOpd), RegK prog (⟨d, .append sz bytes s x, none, id, pre⟩ :: os) kp e H kk Q ↔ ThenR prog (aop0 e H (.append sz bytes s x)) d os kp e kk Q) ∧
    (∀ {prog : Nat → Option AFunc} {e : Env} {H : AH} {d : Option Nat} {id : Nat} {pre : List Nat} {os : List AOper} {kp : List Nat} {kk : List Kont} {Q : AExit → Env → AH → Prop} (sz : Nat) (y s : AOpd), RegK prog (⟨d, .copy sz y s, none, id, pre⟩ :: os) kp e H kk Q ↔ ThenR prog (aop0 e H (.copy sz y s)) d os kp e kk Q) ∧
    (∀ {prog : Nat → Option AFunc} {e : Env} {H : AH} {d : Option Nat} {id : Nat} {pre : List Nat} {os : List AOper} {kp : List Nat} {kk : List Kont} {Q : AExit → Env → AH → Prop} (x : AOpd) (xs : List AOpd), RegK prog (⟨d, .maxInt x xs, none, id, pre⟩ :: os) kp e H kk Q ↔ ThenR prog (aop0 e H (.maxInt x xs)) d os kp e kk Q) ∧
    (∀ {prog : Nat → Option AFunc} {e : Env} {H : AH} {d : Option Nat} {id : Nat} {pre : List Nat} {os : List AOper} {kp : List Nat} {kk : List Kont} {Q : AExit → Env → AH → Prop} (x : AOpd) (xs : List AOpd), RegK prog (⟨d, .minInt x xs, none, id, pre⟩ :: os) kp e H kk Q ↔ ThenR prog (aop0 e H (.minInt x xs)) d os kp e kk Q) ∧
    (∀ {prog : Nat → Option AFunc} {e : Env} {H : AH} {kp : List Nat} {kk : List Kont} {Q : AExit → Env → AH → Prop}, RegK prog [] kp e H kk Q ↔ EndK prog .normal (e.keep kp) H kk Q) ∧
    (∀ {prog : Nat → Option AFunc} {v : AV} {H : AH} {d : Option Nat} {os : List AOper} {e : Env} {kp : List Nat} {kk : List Kont} {Q : AExit → Env → AH → Prop}, ThenR prog (some (v, H)) d os kp e kk Q ↔ RegK prog os kp (putDst e d v) H kk Q) ∧
    (∀ {prog : Nat → Option AFunc} {e : Env} {H : AH} {d : Option Nat} {id : Nat} {pre : List Nat} {os : List AOper} {kp : List Nat} {kk : List Kont} {Q : AExit → Env → AH → Prop} {op : AOp} {t : Nat} {b : Bool}, RegK prog (⟨d, op, some (t, b), id, pre⟩ :: os) kp e H kk Q ↔ GuardR prog (e.get t) b d op id pre os kp e H kk Q) ∧
    (∀ {prog : Nat → Option AFunc} {e : Env} {H : AH} {d : Option Nat} {id : Nat} {pre : List Nat} {os : List AOper} {kp : List Nat} {kk : List Kont} {Q : AExit → Env → AH → Prop} {op : AOp}, GuardR prog (some (.bool true)) true d op id pre os kp e H kk Q ↔ RegK prog (⟨d, op, none, id, pre⟩ :: os) kp e H kk Q) ∧
    (∀ {prog : Nat → Option AFunc} {e : Env} {H : AH} {d : Option Nat} {id : Nat} {pre : List Nat} {os : List AOper} {kp : List Nat} {kk : List Kont} {Q : AExit → Env → AH → Prop} {op : AOp}, GuardR prog (some (.bool false)) false d op id pre os kp e H kk Q ↔ RegK prog (⟨d, op, none, id, pre⟩ :: os) kp e H kk Q) ∧
    (∀ {prog : Nat → Option AFunc} {e : Env} {H : AH} {d : Option Nat} {id : Nat} {pre : List Nat} {os : List AOper} {kp : List Nat} {kk : List Kont} {Q : AExit → Env → AH → Prop} {op : AOp}, GuardR prog (some (.bool true)) false d op id pre os kp e H kk Q ↔ RegK prog os kp (putDst e d (.tuple [])) H kk Q) ∧
    (∀ {prog : Nat → Option AFunc} {e : Env} {H : AH} {d : Option Nat} {id : Nat} {pre : List Nat} {os : List AOper} {kp : List Nat} {kk : List Kont} {Q : AExit → Env → AH → Prop} {op : AOp}, GuardR prog (some (.bool false)) true d op id pre os kp e H kk Q ↔ RegK prog os kp (putDst e d (.tuple [])) H kk Q) ∧
    (∀ {prog : Nat → Option AFunc} {e : Env} {H : AH} {d : Option Nat} {id : Nat} {pre : List Nat} {os : List AOper} {kp : List Nat} {kk : List Kont} {Q : AExit → Env → AH → Prop} {op : AOp} {b : Bool}, GuardR prog (some (.tuple [])) b d op id pre os kp e H kk Q ↔ RegK prog os kp (putDst e d (.tuple [])) H kk Q) :=
  ⟨by intros; exact WpOps_n rfl,
   by intros; exact WpOps_n rfl,
   by intros; exact WpOps_n rfl,
   by intros; exact WpOps_n rfl,
   by intros; exact WpOps_n rfl,
   by intros; exact WpOps_n rfl,
   by intros; exact WpOps_n rfl,
   by intros; exact WpOps_n rfl,
   by intros; exact WpOps_n rfl,
   by intros; exact WpOps_n rfl,
   by intros; exact WpOps_n rfl,
   by intros; exact WpOps_n rfl,
   by intros; exact WpOps_n rfl,
   by intros; exact WpOps_n rfl,
   by intros; exact WpOps_n rfl,
   by intros; exact WpOps_n rfl,
   by intros; exact WpOps_n rfl,
   by intros; exact WpOps_n rfl,
   by intros; exact WpOps_n rfl,
   by intros; exact WpOps_n rfl,
   by intros; exact WpOps_n rfl,
   by intros; exact WpOps_n rfl,
   by intros; exact WpOps_n rfl,
   by intros; exact WpOps_n rfl,
   by intros; exact WpOps_n rfl,
   by intros; exact WpOps_n rfl,
   by intros; exact WpOps_n rfl,
   by intros; exact WpOps_n rfl,
   by intros; exact WpOps_n rfl,
   by intros; exact WpOps_n rfl,
   by intros; exact WpOps_n rfl,
   by intros; exact WpOps_n rfl,
   by intros; exact WpOps_n rfl,
   by intros; exact WpOps_n rfl,
   by intros; exact WpOps_n rfl,
   by intros; exact WpOps_n rfl,
   by intros; exact WpOps_n rfl,
   by intros; exact WpOps_n rfl,
   by intros; exact WpOps_n rfl,
   by intros; exact WpOps_n rfl,
   WpOps_nil,
   Iff.rfl,
   S_guard,
   by intros; exact Iff.rfl,
   by intros; exact Iff.rfl,
   by intros; exact Iff.rfl,
   by intros; exact Iff.rfl,
   by intros; exact Iff.rfl⟩
def ThenX (prog : Nat → Option AFunc) (x : ORes) (d : Option Nat) (os : List AOper) (kp : List Nat) (e : Env) (over : List AOper) (ls : List LR) (hs : List HR) (ks : List Kont) (Q : AExit → Env → AH → Prop) : Prop := ThenD prog x d os e over ls hs fun e H => runK prog Q ks .normal (e.keep kp) H
def ThenY (prog : Nat → Option AFunc) (x : ORes) (o : AOper) (f : AH → ORes) (os : List AOper) (kp : List Nat) (e : Env) (over : List AOper) (ls : List LR) (hs : List HR) (ks : List Kont) (Q : AExit → Env → AH → Prop) : Prop := ThenL prog x o f os e over ls hs fun e H => runK prog Q ks .normal (e.keep kp) H
def DrawG (prog : Nat → Option AFunc) (o : AOper) (os : List AOper) (kp : List Nat) (e : Env) (H : AH) (over : List AOper) (ls : List LR) (hs : List HR) (ks : List Kont) (Q : AExit → Env → AH → Prop) : Prop := WpDG prog o os e H over ls hs fun e H => runK prog Q ks .normal (e.keep kp) H
def DrawN (prog : Nat → Option AFunc) (o : AOper) (os : List AOper) (kp : List Nat) (e : Env) (H : AH) (over : List AOper) (ls : List LR) (hs : List HR) (ks : List Kont) (Q : AExit → Env → AH → Prop) : Prop := WpDN prog o os e H over ls hs fun e H => runK prog Q ks .normal (e.keep kp) H
def GuardX (prog : Nat → Option AFunc) (x : Option AV) (b : Bool) (o : AOper) (os : List AOper) (kp : List Nat) (e : Env) (H : AH) (over : List AOper) (ls : List LR) (hs : List HR) (ks : List Kont) (Q : AExit → Env → AH → Prop) : Prop := GuardD prog x b o os e H over ls hs fun e H => runK prog Q ks .normal (e.keep kp) H
theorem K3 :
    (∀ {prog : Nat → Option AFunc} {e : Env} {H : AH} {d : Option Nat} {id : Nat} {pre : List Nat} {os : List AOper} {over : List AOper} {ls : List LR} {hs : List HR} {kp : List Nat} {kk : List Kont} {Q : AExit → Env → AH → Prop} {gd : Option (Nat × Bool)} (x : AOpd), DrawG prog (⟨d, .move x, gd, id, pre⟩ : AOper) os kp e H over ls hs kk Q ↔ ThenX prog (aop0 e H (.move x)) d os kp e over ls hs kk Q) ∧
    (∀ {prog : Nat → Option AFunc} {e : Env} {H : AH} {d : Option Nat} {id : Nat} {pre : List Nat} {os : List AOper} {over : List AOper} {ls : List LR} {hs : List HR} {kp : List Nat} {kk : List Kont} {Q : AExit → Env → AH → Prop} {gd : Option (Nat × Bool)} (x : AOpd), DrawN prog (⟨d, .move x, gd, id, pre⟩ : AOper) os kp e H over ls hs kk Q ↔ DrawK prog os kp (putDst e d (.tuple [])) H over ls hs kk Q) ∧
    (∀ {prog : Nat → Option AFunc} {e : Env} {H : AH} {d : Option Nat} {id : Nat} {pre : List Nat} {os : List AOper} {over : List AOper} {ls : List LR} {hs : List HR} {kp : List Nat} {kk : List Kont} {Q : AExit → Env → AH → Prop} {gd : Option (Nat × Bool)} (c a b : AOpd), DrawG prog (⟨d, .pick c a b, gd, id, pre⟩ : AOper) os kp e H over ls hs kk Q ↔ ThenX prog (aop0 e H (.pick c a b)) d os kp e over ls hs kk Q) ∧
    (∀ {prog : Nat → Option AFunc} {e : Env} {H : AH} {d : Option Nat} {id : Nat} {pre : List Nat} {os : List AOper} {over : List AOper} {ls : List LR} {hs : List HR} {kp : List Nat} {kk : List Kont} {Q : AExit → Env → AH → Prop} {gd : Option (Nat × Bool)} (c a b : AOpd), DrawN prog (⟨d, .pick c a b, gd, id, pre⟩ : AOper) os kp e H over ls hs kk Q ↔ DrawK prog os kp (putDst e d (.tuple [])) H over ls hs kk Q) ∧
    (∀ {prog : Nat → Option AFunc} {e : Env} {H : AH} {d : Option Nat} {id : Nat} {pre : List Nat} {os : List AOper} {over : List AOper} {ls : List LR} {hs : List HR} {kp : List Nat} {kk : List Kont} {Q : AExit → Env → AH → Prop} {gd : Option (Nat × Bool)} (zero : List AV), DrawG prog (⟨d, .alloc zero, gd, id, pre⟩ : AOper) os kp e H over ls hs kk Q ↔ ThenX prog (aop0 e H (.alloc zero)) d os kp e over ls hs kk Q) ∧
    (∀ {prog : Nat → Option AFunc} {e : Env} {H : AH} {d : Option Nat} {id : Nat} {pre : List Nat} {os : List AOper} {over : List AOper} {ls : List LR} {hs : List HR} {kp : List Nat} {kk : List Kont} {Q : AExit → Env → AH → Prop} {gd : Option (Nat × Bool)} (zero : List AV), DrawN prog (⟨d, .alloc zero, gd, id, pre⟩ : AOper) os kp e H over ls hs kk Q ↔ DrawK prog os kp (putDst e d (.tuple [])) H over ls hs kk Q) ∧
    (∀ {prog : Nat → Option AFunc} {e : Env} {H : AH} {d : Option Nat} {id : Nat} {pre : List Nat} {os : List AOper} {over : List AOper} {ls : List LR} {hs : List HR} {kp : List Nat} {kk : List Kont} {Q : AExit → Env → AH → Prop} {gd : Option (Nat × Bool)} (x : AOpd), DrawG prog (⟨d, .box x, gd, id, pre⟩ : AOper) os kp e H over ls hs kk Q ↔ ThenX prog (aop0 e H (.box x)) d os kp e over ls hs kk Q) ∧
    (∀ {prog : Nat → Option AFunc} {e : Env} {H : AH} {d : Option Nat} {id : Nat} {pre : List Nat} {os : List AOper} {over : List AOper} {ls : List LR} {hs : List HR} {kp : List Nat} {kk : List Kont} {Q : AExit → Env → AH → Prop} {gd : Option (Nat × Bool)} (x : AOpd), DrawN prog (⟨d, .box x, gd, id, pre⟩ : AOper) os kp e H over ls hs kk Q ↔ DrawK prog os kp (putDst e d (.tuple [])) H over ls hs kk Q) ∧
    (∀ {prog : Nat → Option AFunc} {e : Env} {H : AH} {d : Option Nat} {id : Nat} {pre : List Nat} {os : List AOper} {over : List AOper} {ls : List LR} {hs : List HR} {kp : List Nat} {kk : List Kont} {Q : AExit → Env → AH → Prop} {gd : Option (Nat × Bool)} (zero : List AV) (parts : List (Nat × Nat × AOpd)), DrawG prog (⟨d, .build zero parts, gd, id, pre⟩ : AOper) os kp e H over ls hs kk Q ↔ ThenX prog (aop0 e H (.build zero parts)) d os kp e over ls hs kk Q) ∧
    (∀ {prog : Nat → Option AFunc} {e : Env} {H : AH} {d : Option Nat} {id : Nat} {pre : List Nat} {os : List AOper} {over : List AOper} {ls : List LR} {hs : List HR} {kp : List Nat} {kk : List Kont} {Q : AExit → Env → AH → Prop} {gd : Option (Nat × Bool)} (zero : List AV) (parts : List (Nat × Nat × AOpd)), DrawN prog (⟨d, .build zero parts, gd, id, pre⟩ : AOper) os kp e H over ls hs kk Q ↔ DrawK prog os kp (putDst e d (.tuple [])) H over ls hs kk Q) ∧
    (∀ {prog : Nat → Option AFunc} {e : Env} {H : AH} {d : Option Nat} {id : Nat} {pre : List Nat} {os : List AOper} {over : List AOper} {ls : List LR} {hs : List HR} {kp : List Nat} {kk : List Kont} {Q : AExit → Env → AH → Prop} {gd : Option (Nat × Bool)} (len sz : Nat) (zero : List AV) (parts : List (Nat × Nat × AOpd)), DrawG prog (⟨d, .mkslice len sz zero parts, gd, id, pre⟩ : AOper) os kp e H over ls hs kk Q ↔ ThenX prog (aop0 e H (.mkslice len sz zero parts)) d os kp e over ls hs kk Q) ∧
    (∀ {prog : Nat → Option AFunc} {e : Env} {H : AH} {d : Option Nat} {id : Nat} {pre : List Nat} {os : List AOper} {over : List AOper} {ls : List LR} {hs : List HR} {kp : List Nat} {kk : List Kont} {Q : AExit → Env → AH → Prop} {gd : Option (Nat × Bool)} (len sz : Nat) (zero : List AV) (parts : List (Nat × Nat × AOpd)), DrawN prog (⟨d, .mkslice len sz zero parts, gd, id, pre⟩ : AOper) os kp e H over ls hs kk Q ↔ DrawK prog os kp (putDst e d (.tuple [])) H over ls hs kk Q) ∧
    (∀ {prog : Nat → Option AFunc} {e : Env} {H : AH} {d : Option Nat} {id : Nat} {pre : List Nat} {os : List AOper} {over : List AOper} {ls : List LR} {hs : List HR} {kp : List Nat} {kk : List Kont} {Q : AExit → Env → AH → Prop} {gd : Option (Nat × Bool)} (a : AOpd), DrawG prog (⟨d, .load a, gd, id, pre⟩ : AOper) os kp e H over ls hs kk Q ↔ ThenY prog (aop0 e H (.load a)) (⟨d, .load a, gd, id, pre⟩ : AOper) (fun S => aop0 e S (.load a)) os kp e over ls hs kk Q) ∧
    (∀ {prog : Nat → Option AFunc} {e : Env} {H : AH} {d : Option Nat} {id : Nat} {pre : List Nat} {os : List AOper} {over : List AOper} {ls : List LR} {hs : List HR} {kp : List Nat} {kk : List Kont} {Q : AExit → Env → AH → Prop} {gd : Option (Nat × Bool)} (a : AOpd), DrawN prog (⟨d, .load a, gd, id, pre⟩ : AOper) os kp e H over ls hs kk Q ↔ DrawK prog os kp (putDst e d (.tuple [])) H over ls hs kk Q) ∧
    (∀ {prog : Nat → Option AFunc} {e : Env} {H : AH} {d : Option Nat} {id : Nat} {pre : List Nat} {os : List AOper} {over : List AOper} {ls : List LR} {hs : List HR} {kp : List Nat} {kk : List Kont} {Q : AExit → Env → AH → Prop} {gd : Option (Nat × Bool)} (n : Nat) (a : AOpd), DrawG prog (⟨d, .loadN n a, gd, id, pre⟩ : AOper) os kp e H over ls hs kk Q ↔ ThenY prog (aop0 e H (.loadN n a)) (⟨d, .loadN n a, gd, id, pre⟩ : AOper) (fun S => aop0 e S (.loadN n a)) os kp e over ls hs kk Q) ∧
    (∀ {prog : Nat → Option AFunc} {e : Env} {H : AH} {d : Option Nat} {id : Nat} {pre : List Nat} {os : List AOper} {over : List AOper} {ls : List LR} {hs : List HR} {kp : List Nat} {kk : List Kont} {Q : AExit → Env → AH → Prop} {gd : Option (Nat × Bool)} (n : Nat) (a : AOpd), DrawN prog (⟨d, .loadN n a, gd, id, pre⟩ : AOper) os kp e H over ls hs kk Q ↔ DrawK prog os kp (putDst e d (.tuple [])) H over ls hs kk Q) ∧
    (∀ {prog : Nat → Option AFunc} {e : Env} {H : AH} {d : Option Nat} {id : Nat} {pre : List Nat} {os : List AOper} {over : List AOper} {ls : List LR} {hs : List HR} {kp : List Nat} {kk : List Kont} {Q : AExit → Env → AH → Prop} {gd : Option (Nat × Bool)} (n : Nat) (a x : AOpd), DrawG prog (⟨d, .store n a x, gd, id, pre⟩ : AOper) os kp e H over ls hs kk Q ↔ okAll ls ⟨H, over, (⟨d, .store n a x, gd, id, pre⟩ : AOper) :: effsO os⟩ ∧ ThenX prog (aop0 e H (.store n a x)) d os kp e (over ++ [(⟨d, .store n a x, gd, id, pre⟩ : AOper)]) ls (hs ++ [⟨H, over, (⟨d, .store n a x, gd, id, pre⟩ : AOper) :: effsO os⟩]) kk Q) ∧
    (∀ {prog : Nat → Option AFunc} {e : Env} {H : AH} {d : Option Nat} {id : Nat} {pre : List Nat} {os : List AOper} {over : List AOper} {ls : List LR} {hs : List HR} {kp : List Nat} {kk : List Kont} {Q : AExit → Env → AH → Prop} {gd : Option (Nat × Bool)} (n : Nat) (a x : AOpd), DrawN prog (⟨d, .store n a x, gd, id, pre⟩ : AOper) os kp e H over ls hs kk Q ↔ okAll ls ⟨H, over, (⟨d, .store n a x, gd, id, pre⟩ : AOper) :: effsO os⟩ ∧ DrawK prog os kp (putDst e d (.tuple [])) H (over ++ [(⟨d, .store n a x, gd, id, pre⟩ : AOper)]) ls (hs ++ [⟨H, over, (⟨d, .store n a x, gd, id, pre⟩ : AOper) :: effsO os⟩]) kk Q) ∧
    (∀ {prog : Nat → Option AFunc} {e : Env} {H : AH} {d : Option Nat} {id : Nat} {pre : List Nat} {os : List AOper} {over : List AOper} {ls : List LR} {hs : List HR} {kp : List Nat} {kk : List Kont} {Q : AExit → Env → AH → Prop} {gd : Option (Nat × Bool)} (x : AOpd), DrawG prog (⟨d, .nilCheck x, gd, id, pre⟩ : AOper) os kp e H over ls hs kk Q ↔ ThenX prog (aop0 e H (.nilCheck x)) d os kp e over ls hs kk Q) ∧
    (∀ {prog : Nat → Option AFunc} {e : Env} {H : AH} {d : Option Nat} {id : Nat} {pre : List Nat} {os : List AOper} {over : List AOper} {ls : List LR} {hs : List HR} {kp : List Nat} {kk : List Kont} {Q : AExit → Env → AH → Prop} {gd : Option (Nat × Bool)} (x : AOpd), DrawN prog (⟨d, .nilCheck x, gd, id, pre⟩ : AOper) os kp e H over ls hs kk Q ↔ DrawK prog os kp (putDst e d (.tuple [])) H over ls hs kk Q) ∧
    (∀ {prog : Nat → Option AFunc} {e : Env} {H : AH} {d : Option Nat} {id : Nat} {pre : List Nat} {os : List AOper} {over : List AOper} {ls : List LR} {hs : List HR} {kp : List Nat} {kk : List Kont} {Q : AExit → Env → AH → Prop} {gd : Option (Nat × Bool)} (op : BinOp) (x y : AOpd), DrawG prog (⟨d, .bin op x y, gd, id, pre⟩ : AOper) os kp e H over ls hs kk Q ↔ ThenX prog (aop0 e H (.bin op x y)) d os kp e over ls hs kk Q) ∧
    (∀ {prog : Nat → Option AFunc} {e : Env} {H : AH} {d : Option Nat} {id : Nat} {pre : List Nat} {os : List AOper} {over : List AOper} {ls : List LR} {hs : List HR} {kp : List Nat} {kk : List Kont} {Q : AExit → Env → AH → Prop} {gd : Option (Nat × Bool)} (op : BinOp) (x y : AOpd), DrawN prog (⟨d, .bin op x y, gd, id, pre⟩ : AOper) os kp e H over ls hs kk Q ↔ DrawK prog os kp (putDst e d (.tuple [])) H over ls hs kk Q) ∧
    (∀ {prog : Nat → Option AFunc} {e : Env} {H : AH} {d : Option Nat} {id : Nat} {pre : List Nat} {os : List AOper} {over : List AOper} {ls : List LR} {hs : List HR} {kp : List Nat} {kk : List Kont} {Q : AExit → Env → AH → Prop} {gd : Option (Nat × Bool)} (g : Bool) (ks : List SK) (neg : Bool) (x y : AOpd), DrawG prog (⟨d, .eqFlat g ks neg x y, gd, id, pre⟩ : AOper) os kp e H over ls hs kk Q ↔ ThenX prog (aop0 e H (.eqFlat g ks neg x y)) d os kp e over ls hs kk Q) ∧
    (∀ {prog : Nat → Option AFunc} {e : Env} {H : AH} {d : Option Nat} {id : Nat} {pre : List Nat} {os : List AOper} {over : List AOper} {ls : List LR} {hs : List HR} {kp : List Nat} {kk : List Kont} {Q : AExit → Env → AH → Prop} {gd : Option (Nat × Bool)} (g : Bool) (ks : List SK) (neg : Bool) (x y : AOpd), DrawN prog (⟨d, .eqFlat g ks neg x y, gd, id, pre⟩ : AOper) os kp e H over ls hs kk Q ↔ DrawK prog os kp (putDst e d (.tuple [])) H over ls hs kk Q) ∧
    (∀ {prog : Nat → Option AFunc} {e : Env} {H : AH} {d : Option Nat} {id : Nat} {pre : List Nat} {os : List AOper} {over : List AOper} {ls : List LR} {hs : List HR} {kp : List Nat} {kk : List Kont} {Q : AExit → Env → AH → Prop} {gd : Option (Nat × Bool)} (k : NK) (neg : Bool) (x y : AOpd), DrawG prog (⟨d, .eqNil k neg x y, gd, id, pre⟩ : AOper) os kp e H over ls hs kk Q ↔ ThenX prog (aop0 e H (.eqNil k neg x y)) d os kp e over ls hs kk Q) ∧
    (∀ {prog : Nat → Option AFunc} {e : Env} {H : AH} {d : Option Nat} {id : Nat} {pre : List Nat} {os : List AOper} {over : List AOper} {ls : List LR} {hs : List HR} {kp : List Nat} {kk : List Kont} {Q : AExit → Env → AH → Prop} {gd : Option (Nat × Bool)} (k : NK) (neg : Bool) (x y : AOpd), DrawN prog (⟨d, .eqNil k neg x y, gd, id, pre⟩ : AOper) os kp e H over ls hs kk Q ↔ DrawK prog os kp (putDst e d (.tuple [])) H over ls hs kk Q) ∧
    (∀ {prog : Nat → Option AFunc} {e : Env} {H : AH} {d : Option Nat} {id : Nat} {pre : List Nat} {os : List AOper} {over : List AOper} {ls : List LR} {hs : List HR} {kp : List Nat} {kk : List Kont} {Q : AExit → Env → AH → Prop} {gd : Option (Nat × Bool)} (op : UnOp) (x : AOpd), DrawG prog (⟨d, .un op x, gd, id, pre⟩ : AOper) os kp e H over ls hs kk Q ↔ ThenX prog (aop0 e H (.un op x)) d os kp e over ls hs kk Q) ∧
    (∀ {prog : Nat → Option AFunc} {e : Env} {H : AH} {d : Option Nat} {id : Nat} {pre : List Nat} {os : List AOper} {over : List AOper} {ls : List LR} {hs : List HR} {kp : List Nat} {kk : List Kont} {Q : AExit → Env → AH → Prop} {gd : Option (Nat × Bool)} (op : UnOp) (x : AOpd), DrawN prog (⟨d, .un op x, gd, id, pre⟩ : AOper) os kp e H over ls hs kk Q ↔ DrawK prog os kp (putDst e d (.tuple [])) H over ls hs kk Q) ∧
    (∀ {prog : Nat → Option AFunc} {e : Env} {H : AH} {d : Option Nat} {id : Nat} {pre : List Nat} {os : List AOper} {over : List AOper} {ls : List LR} {hs : List HR} {kp : List Nat} {kk : List Kont} {Q : AExit → Env → AH → Prop} {gd : Option (Nat × Bool)} (k : IntKind) (x : AOpd), DrawG prog (⟨d, .toInt k x, gd, id, pre⟩ : AOper) os kp e H over ls hs kk Q ↔ ThenX prog (aop0 e H (.toInt k x)) d os kp e over ls hs kk Q) ∧
    (∀ {prog : Nat → Option AFunc} {e : Env} {H : AH} {d : Option Nat} {id : Nat} {pre : List Nat} {os : List AOper} {over : List AOper} {ls : List LR} {hs : List HR} {kp : List Nat} {kk : List Kont} {Q : AExit → Env → AH → Prop} {gd : Option (Nat × Bool)} (k : IntKind) (x : AOpd), DrawN prog (⟨d, .toInt k x, gd, id, pre⟩ : AOper) os kp e H over ls hs kk Q ↔ DrawK prog os kp (putDst e d (.tuple [])) H over ls hs kk Q) ∧
    (∀ {prog : Nat → Option AFunc} {e : Env} {H : AH} {d : Option Nat} {id : Nat} {pre : List Nat} {os : List AOper} {over : List AOper} {ls : List LR} {hs : List HR} {kp : List Nat} {kk : List Kont} {Q : AExit → Env → AH → Prop} {gd : Option (Nat × Bool)} (x : AOpd), DrawG prog (⟨d, .strId x, gd, id, pre⟩ : AOper) os kp e H over ls hs kk Q ↔ ThenX prog (aop0 e H (.strId x)) d os kp e over ls hs kk Q) ∧
    (∀ {prog : Nat → Option AFunc} {e : Env} {H : AH} {d : Option Nat} {id : Nat} {pre : List Nat} {os : List AOper} {over : List AOper} {ls : List LR} {hs : List HR} {kp : List Nat} {kk : List Kont} {Q : AExit → Env → AH → Prop} {gd : Option (Nat × Bool)} (x : AOpd), DrawN prog (⟨d, .strId x, gd, id, pre⟩ : AOper) os kp e H over ls hs kk Q ↔ DrawK prog os kp (putDst e d (.tuple [])) H over ls hs kk Q) ∧
    (∀ {prog : Nat → Option AFunc} {e : Env} {H : AH} {d : Option Nat} {id : Nat} {pre : List Nat} {os : List AOper} {over : List AOper} {ls : List LR} {hs : List HR} {kp : List Nat} {kk : List Kont} {Q : AExit → Env → AH → Prop} {gd : Option (Nat × Bool)} (f : Nat) (first captured : List AOpd), DrawG prog (⟨d, .func f first captured, gd, id, pre⟩ : AOper) os kp e H over ls hs kk Q ↔ ThenX prog (aop0 e H (.func f first captured)) d os kp e over ls hs kk Q) ∧
    (∀ {prog : Nat → Option AFunc} {e : Env} {H : AH} {d : Option Nat} {id : Nat} {pre : List Nat} {os : List AOper} {over : List AOper} {ls : List LR} {hs : List HR} {kp : List Nat} {kk : List Kont} {Q : AExit → Env → AH → Prop} {gd : Option (Nat × Bool)} (f : Nat) (first captured : List AOpd), DrawN prog (⟨d, .func f first captured, gd, id, pre⟩ : AOper) os kp e H over ls hs kk Q ↔ DrawK prog os kp (putDst e d (.tuple [])) H over ls hs kk Q) ∧
    (∀ {prog : Nat → Option AFunc} {e : Env} {H : AH} {d : Option Nat} {id : Nat} {pre : List Nat} {os : List AOper} {over : List AOper} {ls : List LR} {hs : List HR} {kp : List Nat} {kk : List Kont} {Q : AExit → Env → AH → Prop} {gd : Option (Nat × Bool)} , DrawG prog (⟨d, .makeMap, gd, id, pre⟩ : AOper) os kp e H over ls hs kk Q ↔ ThenX prog (aop0 e H .makeMap) d os kp e over ls hs kk Q) ∧
    (∀ {prog : Nat → Option AFunc} {e : Env} {H : AH} {d : Option Nat} {id : Nat} {pre : List Nat} {os : List AOper} {over : List AOper} {ls : List LR} {hs : List HR} {kp : List Nat} {kk : List Kont} {Q : AExit → Env → AH → Prop} {gd : Option (Nat × Bool)} , DrawN prog (⟨d, .makeMap, gd, id, pre⟩ : AOper) os kp e H over ls hs kk Q ↔ DrawK prog os kp (putDst e d (.tuple [])) H over ls hs kk Q) ∧
    (∀ {prog : Nat → Option AFunc} {e : Env} {H : AH} {d : Option Nat} {id : Nat} {pre : List Nat} {os : List AOper} {over : List AOper} {ls : List LR} {hs : List HR} {kp : List Nat} {kk : List Kont} {Q : AExit → Env → AH → Prop} {gd : Option (Nat × Bool)} (sz bytes : Nat) (zero : List AV) (len cap : AOpd), DrawG prog (⟨d, .makeSlice sz bytes zero len cap, gd, id, pre⟩ : AOper) os kp e H over ls hs kk Q ↔ ThenX prog (aop0 e H (.makeSlice sz bytes zero len cap)) d os kp e over ls hs kk Q) ∧
    (∀ {prog : Nat → Option AFunc} {e : Env} {H : AH} {d : Option Nat} {id : Nat} {pre : List Nat} {os : List AOper} {over : List AOper} {ls : List LR} {hs : List HR} {kp : List Nat} {kk : List Kont} {Q : AExit → Env → AH → Prop} {gd : Option (Nat × Bool)} (sz bytes : Nat) (zero : List AV) (len cap : AOpd), DrawN prog (⟨d, .makeSlice sz bytes zero len cap, gd, id, pre⟩ : AOper) os kp e H over ls hs kk Q ↔ DrawK prog os kp (putDst e d (.tuple [])) H over ls hs kk Q) ∧
    (∀ {prog : Nat → Option AFunc} {e : Env} {H : AH} {d : Option Nat} {id : Nat} {pre : List Nat} {os : List AOper} {over : List AOper} {ls : List LR} {hs : List HR} {kp : List Nat} {kk : List Kont} {Q : AExit → Env → AH → Prop} {gd : Option (Nat × Bool)} (x : AOpd) (lo hi : Option AOpd), DrawG prog (⟨d, .sliceStr x lo hi, gd, id, pre⟩ : AOper) os kp e H over ls hs kk Q ↔ ThenX prog (aop0 e H (.sliceStr x lo hi)) d os kp e over ls hs kk Q) ∧
    (∀ {prog : Nat → Option AFunc} {e : Env} {H : AH} {d : Option Nat} {id : Nat} {pre : List Nat} {os : List AOper} {over : List AOper} {ls : List LR} {hs : List HR} {kp : List Nat} {kk : List Kont} {Q : AExit → Env → AH → Prop} {gd : Option (Nat × Bool)} (x : AOpd) (lo hi : Option AOpd), DrawN prog (⟨d, .sliceStr x lo hi, gd, id, pre⟩ : AOper) os kp e H over ls hs kk Q ↔ DrawK prog os kp (putDst e d (.tuple [])) H over ls hs kk Q) ∧
    (∀ {prog : Nat → Option AFunc} {e : Env} {H : AH} {d : Option Nat} {id : Nat} {pre : List Nat} {os : List AOper} {over : List AOper} {ls : List LR} {hs : List HR} {kp : List Nat} {kk : List Kont} {Q : AExit → Env → AH → Prop} {gd : Option (Nat × Bool)} (sz : Nat) (x : AOpd) (lo hi : Option AOpd), DrawG prog (⟨d, .sliceSl sz x lo hi, gd, id, pre⟩ : AOper) os kp e H over ls hs kk Q ↔ ThenX prog (aop0 e H (.sliceSl sz x lo hi)) d os kp e over ls hs kk Q) ∧
    (∀ {prog : Nat → Option AFunc} {e : Env} {H : AH} {d : Option Nat} {id : Nat} {pre : List Nat} {os : List AOper} {over : List AOper} {ls : List LR} {hs : List HR} {kp : List Nat} {kk : List Kont} {Q : AExit → Env → AH → Prop} {gd : Option (Nat × Bool)} (sz : Nat) (x : AOpd) (lo hi : Option AOpd), DrawN prog (⟨d, .sliceSl sz x lo hi, gd, id, pre⟩ : AOper) os kp e H over ls hs kk Q ↔ DrawK prog os kp (putDst e d (.tuple [])) H over ls hs kk Q) ∧
    (∀ {prog : Nat → Option AFunc} {e : Env} {H : AH} {d : Option Nat} {id : Nat} {pre : List Nat} {os : List AOper} {over : List AOper} {ls : List LR} {hs : List HR} {kp : List Nat} {kk : List Kont} {Q : AExit → Env → AH → Prop} {gd : Option (Nat × Bool)} (n sz : Nat) (x : AOpd) (lo hi : Option AOpd), DrawG prog (⟨d, .sliceArr n sz x lo hi, gd, id, pre⟩ : AOper) os kp e H over ls hs kk Q ↔ ThenY prog (aop0 e H (.sliceArr n sz x lo hi)) (⟨d, .sliceArr n sz x lo hi, gd, id, pre⟩ : AOper) (fun S => aop0 e S (.sliceArr n sz x lo hi)) os kp e over ls hs kk Q) ∧
    (∀ {prog : Nat → Option AFunc} {e : Env} {H : AH} {d : Option Nat} {id : Nat} {pre : List Nat} {os : List AOper} {over : List AOper} {ls : List LR} {hs : List HR} {kp : List Nat} {kk : List Kont} {Q : AExit → Env → AH → Prop} {gd : Option (Nat × Bool)} (n sz : Nat) (x : AOpd) (lo hi : Option AOpd), DrawN prog (⟨d, .sliceArr n sz x lo hi, gd, id, pre⟩ : AOper) os kp e H over ls hs kk Q ↔ DrawK prog os kp (putDst e d (.tuple [])) H over ls hs kk Q) ∧
    (∀ {prog : Nat → Option AFunc} {e : Env} {H : AH} {d : Option Nat} {id : Nat} {pre : List Nat} {os : List AOper} {over : List AOper} {ls : List LR} {hs : List HR} {kp : List Nat} {kk : List Kont} {Q : AExit → Env → AH → Prop} {gd : Option (Nat × Bool)} (n : Nat) (x : AOpd), DrawG prog (⟨d, .off n x, gd, id, pre⟩ : AOper) os kp e H over ls hs kk Q ↔ ThenX prog (aop0 e H (.off n x)) d os kp e over ls hs kk Q) ∧
    (∀ {prog : Nat → Option AFunc} {e : Env} {H : AH} {d : Option Nat} {id : Nat} {pre : List Nat} {os : List AOper} {over : List AOper} {ls : List LR} {hs : List HR} {kp : List Nat} {kk : List Kont} {Q : AExit → Env → AH → Prop} {gd : Option (Nat × Bool)} (n : Nat) (x : AOpd), DrawN prog (⟨d, .off n x, gd, id, pre⟩ : AOper) os kp e H over ls hs kk Q ↔ DrawK prog os kp (putDst e d (.tuple [])) H over ls hs kk Q) ∧
    (∀ {prog : Nat → Option AFunc} {e : Env} {H : AH} {d : Option Nat} {id : Nat} {pre : List Nat} {os : List AOper} {over : List AOper} {ls : List LR} {hs : List HR} {kp : List Nat} {kk : List Kont} {Q : AExit → Env → AH → Prop} {gd : Option (Nat × Bool)} (sz : Nat) (x i : AOpd), DrawG prog (⟨d, .idxSl sz x i, gd, id, pre⟩ : AOper) os kp e H over ls hs kk Q ↔ ThenX prog (aop0 e H (.idxSl sz x i)) d os kp e over ls hs kk Q) ∧
    (∀ {prog : Nat → Option AFunc} {e : Env} {H : AH} {d : Option Nat} {id : Nat} {pre : List Nat} {os : List AOper} {over : List AOper} {ls : List LR} {hs : List HR} {kp : List Nat} {kk : List Kont} {Q : AExit → Env → AH → Prop} {gd : Option (Nat × Bool)} (sz : Nat) (x i : AOpd), DrawN prog (⟨d, .idxSl sz x i, gd, id, pre⟩ : AOper) os kp e H over ls hs kk Q ↔ DrawK prog os kp (putDst e d (.tuple [])) H over ls hs kk Q) ∧
    (∀ {prog : Nat → Option AFunc} {e : Env} {H : AH} {d : Option Nat} {id : Nat} {pre : List Nat} {os : List AOper} {over : List AOper} {ls : List LR} {hs : List HR} {kp : List Nat} {kk : List Kont} {Q : AExit → Env → AH → Prop} {gd : Option (Nat × Bool)} (len sz : Nat) (x i : AOpd), DrawG prog (⟨d, .idxArr len sz x i, gd, id, pre⟩ : AOper) os kp e H over ls hs kk Q ↔ ThenX prog (aop0 e H (.idxArr len sz x i)) d os kp e over ls hs kk Q) ∧
    (∀ {prog : Nat → Option AFunc} {e : Env} {H : AH} {d : Option Nat} {id : Nat} {pre : List Nat} {os : List AOper} {over : List AOper} {ls : List LR} {hs : List HR} {kp : List Nat} {kk : List Kont} {Q : AExit → Env → AH → Prop} {gd : Option (Nat × Bool)} (len sz : Nat) (x i : AOpd), DrawN prog (⟨d, .idxArr len sz x i, gd, id, pre⟩ : AOper) os kp e H over ls hs kk Q ↔ DrawK prog os kp (putDst e d (.tuple [])) H over ls hs kk Q) ∧
    (∀ {prog : Nat → Option AFunc} {e : Env} {H : AH} {d : Option Nat} {id : Nat} {pre : List Nat} {os : List AOper} {over : List AOper} {ls : List LR} {hs : List HR} {kp : List Nat} {kk : List Kont} {Q : AExit → Env → AH → Prop} {gd : Option (Nat × Bool)} (off : Nat) (x : AOpd), DrawG prog (⟨d, .part off x, gd, id, pre⟩ : AOper) os kp e H over ls hs kk Q ↔ ThenX prog (aop0 e H (.part off x)) d os kp e over ls hs kk Q) ∧
    (∀ {prog : Nat → Option AFunc} {e : Env} {H : AH} {d : Option Nat} {id : Nat} {pre : List Nat} {os : List AOper} {over : List AOper} {ls : List LR} {hs : List HR} {kp : List Nat} {kk : List Kont} {Q : AExit → Env → AH → Prop} {gd : Option (Nat × Bool)} (off : Nat) (x : AOpd), DrawN prog (⟨d, .part off x, gd, id, pre⟩ : AOper) os kp e H over ls hs kk Q ↔ DrawK prog os kp (putDst e d (.tuple [])) H over ls hs kk Q) ∧
    (∀ {prog : Nat → Option AFunc} {e : Env} {H : AH} {d : Option Nat} {id : Nat} {pre : List Nat} {os : List AOper} {over : List AOper} {ls : List LR} {hs : List HR} {kp : List Nat} {kk : List Kont} {Q : AExit → Env → AH → Prop} {gd : Option (Nat × Bool)} (off n : Nat) (x : AOpd), DrawG prog (⟨d, .partN off n x, gd, id, pre⟩ : AOper) os kp e H over ls hs kk Q ↔ ThenX prog (aop0 e H (.partN off n x)) d os kp e over ls hs kk Q) ∧
    (∀ {prog : Nat → Option AFunc} {e : Env} {H : AH} {d : Option Nat} {id : Nat} {pre : List Nat} {os : List AOper} {over : List AOper} {ls : List LR} {hs : List HR} {kp : List Nat} {kk : List Kont} {Q : AExit → Env → AH → Prop} {gd : Option (Nat × Bool)} (off n : Nat) (x : AOpd), DrawN prog (⟨d, .partN off n x, gd, id, pre⟩ : AOper) os kp e H over ls hs kk Q ↔ DrawK prog os kp (putDst e d (.tuple [])) H over ls hs kk Q) ∧
    (∀ {prog : Nat → Option AFunc} {e : Env} {H : AH} {d : Option Nat} {id : Nat} {pre : List Nat} {os : List AOper} {over : List AOper} {ls : List LR} {hs : List HR} {kp : List Nat} {kk : List Kont} {Q : AExit → Env → AH → Prop} {gd : Option (Nat × Bool)} (len sz : Nat) (isAgg : Bool) (x i : AOpd), DrawG prog (⟨d, .at len sz isAgg x i, gd, id, pre⟩ : AOper) os kp e H over ls hs kk Q ↔ ThenX prog (aop0 e H (.at len sz isAgg x i)) d os kp e over ls hs kk Q) ∧
    (∀ {prog : Nat → Option AFunc} {e : Env} {H : AH} {d : Option Nat} {id : Nat} {pre : List Nat} {os : List AOper} {over : List AOper} {ls : List LR} {hs : List HR} {kp : List Nat} {kk : List Kont} {Q : AExit → Env → AH → Prop} {gd : Option (Nat × Bool)} (len sz : Nat) (isAgg : Bool) (x i : AOpd), DrawN prog (⟨d, .at len sz isAgg x i, gd, id, pre⟩ : AOper) os kp e H over ls hs kk Q ↔ DrawK prog os kp (putDst e d (.tuple [])) H over ls hs kk Q) ∧
    (∀ {prog : Nat → Option AFunc} {e : Env} {H : AH} {d : Option Nat} {id : Nat} {pre : List Nat} {os : List AOper} {over : List AOper} {ls : List LR} {hs : List HR} {kp : List Nat} {kk : List Kont} {Q : AExit → Env → AH → Prop} {gd : Option (Nat × Bool)} (x i : AOpd), DrawG prog (⟨d, .byteAt x i, gd, id, pre⟩ : AOper) os kp e H over ls hs kk Q ↔ ThenX prog (aop0 e H (.byteAt x i)) d os kp e over ls hs kk Q) ∧
    (∀ {prog : Nat → Option AFunc} {e : Env} {H : AH} {d : Option Nat} {id : Nat} {pre : List Nat} {os : List AOper} {over : List AOper} {ls : List LR} {hs : List HR} {kp : List Nat} {kk : List Kont} {Q : AExit → Env → AH → Prop} {gd : Option (Nat × Bool)} (x i : AOpd), DrawN prog (⟨d, .byteAt x i, gd, id, pre⟩ : AOper) os kp e H over ls hs kk Q ↔ DrawK prog os kp (putDst e d (.tuple [])) H over ls hs kk Q) ∧
    (∀ {prog : Nat → Option AFunc} {e : Env} {H : AH} {d : Option Nat} {id : Nat} {pre : List Nat} {os : List AOper} {over : List AOper} {ls : List LR} {hs : List HR} {kp : List Nat} {kk : List Kont} {Q : AExit → Env → AH → Prop} {gd : Option (Nat × Bool)} (g : Bool) (ks : List SK) (zero : AV) (ok : Bool) (m k : AOpd), DrawG prog (⟨d, .lookup g ks zero ok m k, gd, id, pre⟩ : AOper) os kp e H over ls hs kk Q ↔ ThenY prog (aop0 e H (.lookup g ks zero ok m k)) (⟨d, .lookup g ks zero ok m k, gd, id, pre⟩ : AOper) (fun S => aop0 e S (.lookup g ks zero ok m k)) os kp e over ls hs kk Q) ∧
    (∀ {prog : Nat → Option AFunc} {e : Env} {H : AH} {d : Option Nat} {id : Nat} {pre : List Nat} {os : List AOper} {over : List AOper} {ls : List LR} {hs : List HR} {kp : List Nat} {kk : List Kont} {Q : AExit → Env → AH → Prop} {gd : Option (Nat × Bool)} (g : Bool) (ks : List SK) (zero : AV) (ok : Bool) (m k : AOpd), DrawN prog (⟨d, .lookup g ks zero ok m k, gd, id, pre⟩ : AOper) os kp e H over ls hs kk Q ↔ DrawK prog os kp (putDst e d (.tuple [])) H over ls hs kk Q) ∧
    (∀ {prog : Nat → Option AFunc} {e : Env} {H : AH} {d : Option Nat} {id : Nat} {pre : List Nat} {os : List AOper} {over : List AOper} {ls : List LR} {hs : List HR} {kp : List Nat} {kk : List Kont} {Q : AExit → Env → AH → Prop} {gd : Option (Nat × Bool)} (g : Bool) (ks : List SK) (m k v : AOpd), DrawG prog (⟨d, .update g ks m k v, gd, id, pre⟩ : AOper) os kp e H over ls hs kk Q ↔ okAll ls ⟨H, over, (⟨d, .update g ks m k v, gd, id, pre⟩ : AOper) :: effsO os⟩ ∧ ThenX prog (aop0 e H (.update g ks m k v)) d os kp e (over ++ [(⟨d, .update g ks m k v, gd, id, pre⟩ : AOper)]) ls (hs ++ [⟨H, over, (⟨d, .update g ks m k v, gd, id, pre⟩ : AOper) :: effsO os⟩]) kk Q) ∧
    (∀ {prog : Nat → Option AFunc} {e : Env} {H : AH} {d : Option Nat} {id : Nat} {pre : List Nat} {os : List AOper} {over : List AOper} {ls : List LR} {hs : List HR} {kp : List Nat} {kk : List Kont} {Q : AExit → Env → AH → Prop} {gd : Option (Nat × Bool)} (g : Bool) (ks : List SK) (m k v : AOpd), DrawN prog (⟨d, .update g ks m k v, gd, id, pre⟩ : AOper) os kp e H over ls hs kk Q ↔ okAll ls ⟨H, over, (⟨d, .update g ks m k v, gd, id, pre⟩ : AOper) :: effsO os⟩ ∧ DrawK prog os kp (putDst e d (.tuple [])) H (over ++ [(⟨d, .update g ks m k v, gd, id, pre⟩ : AOper)]) ls (hs ++ [⟨H, over, (⟨d, .update g ks m k v, gd, id, pre⟩ : AOper) :: effsO os⟩]) kk Q) ∧
    (∀ {prog : Nat → Option AFunc} {e : Env} {H : AH} {d : Option Nat} {id : Nat} {pre : List Nat} {os : List AOper} {over : List AOper} {ls : List LR} {hs : List HR} {kp : List Nat} {kk : List Kont} {Q : AExit → Env → AH → Prop} {gd : Option (Nat × Bool)} (x : AOpd), DrawG prog (⟨d, .rangeStr x, gd, id, pre⟩ : AOper) os kp e H over ls hs kk Q ↔ okAll ls ⟨H, over, (⟨d, .rangeStr x, gd, id, pre⟩ : AOper) :: effsO os⟩ ∧ ThenX prog (aop0 e H (.rangeStr x)) d os kp e (over ++ [(⟨d, .rangeStr x, gd, id, pre⟩ : AOper)]) ls (hs ++ [⟨H, over, (⟨d, .rangeStr x, gd, id, pre⟩ : AOper) :: effsO os⟩]) kk Q) ∧
    (∀ {prog : Nat → Option AFunc} {e : Env} {H : AH} {d : Option Nat} {id : Nat} {pre : List Nat} {os : List AOper} {over : List AOper} {ls : List LR} {hs : List HR} {kp : List Nat} {kk : List Kont} {Q : AExit → Env → AH → Prop} {gd : Option (Nat × Bool)} (x : AOpd), DrawN prog (⟨d, .rangeStr x, gd, id, pre⟩ : AOper) os kp e H over ls hs kk Q ↔ okAll ls ⟨H, over, (⟨d, .rangeStr x, gd, id, pre⟩ : AOper) :: effsO os⟩ ∧ DrawK prog os kp (putDst e d (.tuple [])) H (over ++ [(⟨d, .rangeStr x, gd, id, pre⟩ : AOper)]) ls (hs ++ [⟨H, over, (⟨d, .rangeStr x, gd, id, pre⟩ : AOper) :: effsO os⟩]) kk Q) ∧
    (∀ {prog : Nat → Option AFunc} {e : Env} {H : AH} {d : Option Nat} {id : Nat} {pre : List Nat} {os : List AOper} {over : List AOper} {ls : List LR} {hs : List HR} {kp : List Nat} {kk : List Kont} {Q : AExit → Env → AH → Prop} {gd : Option (Nat × Bool)} (it : AOpd), DrawG prog (⟨d, .nextStr it, gd, id, pre⟩ : AOper) os kp e H over ls hs kk Q ↔ okAll ls ⟨H, over, (⟨d, .nextStr it, gd, id, pre⟩ : AOper) :: effsO os⟩ ∧ ThenX prog (aop0 e H (.nextStr it)) d os kp e (over ++ [(⟨d, .nextStr it, gd, id, pre⟩ : AOper)]) ls (hs ++ [⟨H, over, (⟨d, .nextStr it, gd, id, pre⟩ : AOper) :: effsO os⟩]) kk Q) ∧
    (∀ {prog : Nat → Option AFunc} {e : Env} {H : AH} {d : Option Nat} {id : Nat} {pre : List Nat} {os : List AOper} {over : List AOper} {ls : List LR} {hs : List HR} {kp : List Nat} {kk : List Kont} {Q : AExit → Env → AH → Prop} {gd : Option (Nat × Bool)} (it : AOpd), DrawN prog (⟨d, .nextStr it, gd, id, pre⟩ : AOper) os kp e H over ls hs kk Q ↔ okAll ls ⟨H, over, (⟨d, .nextStr it, gd, id, pre⟩ : AOper) :: effsO os⟩ ∧ DrawK prog os kp (putDst e d (.tuple [])) H (over ++ [(⟨d, .nextStr it, gd, id, pre⟩ : AOper)]) ls (hs ++ [⟨H, over, (⟨d, .nextStr it, gd, id, pre⟩ : AOper) :: effsO os⟩]) kk Q) ∧
    (∀ {prog : Nat → Option AFunc} {e : Env} {H : AH} {d : Option Nat} {id : Nat} {pre : List Nat} {os : List AOper} {over : List AOper} {ls : List LR} {hs : List HR} {kp : List Nat} {kk : List Kont} {Q : AExit → Env → AH → Prop} {gd : Option (Nat × Bool)} (i : Nat) (x : AOpd), DrawG prog (⟨d, .extract i x, gd, id, pre⟩ : AOper) os kp e H over ls hs kk Q ↔ ThenX prog (aop0 e H (.extract i x)) d os kp e over ls hs kk Q) ∧
    (∀ {prog : Nat → Option AFunc} {e : Env} {H : AH} {d : Option Nat} {id : Nat} {pre : List Nat} {os : List AOper} {over : List AOper} {ls : List LR} {hs : List HR} {kp : List Nat} {kk : List Kont} {Q : AExit → Env → AH → Prop} {gd : Option (Nat × Bool)} (i : Nat) (x : AOpd), DrawN prog (⟨d, .extract i x, gd, id, pre⟩ : AOper) os kp e H over ls hs kk Q ↔ DrawK prog os kp (putDst e d (.tuple [])) H over ls hs kk Q) ∧
    (∀ {prog : Nat → Option AFunc} {e : Env} {H : AH} {d : Option Nat} {id : Nat} {pre : List Nat} {os : List AOper} {over : List AOper} {ls : List LR} {hs : List HR} {kp : List Nat} {kk : List Kont} {Q : AExit → Env → AH → Prop} {gd : Option (Nat × Bool)} (isStr : Bool) (x : AOpd), DrawG prog (⟨d, .len isStr x, gd, id, pre⟩ : AOper) os kp e H over ls hs kk Q ↔ ThenX prog (aop0 e H (.len isStr x)) d os kp e over ls hs kk Q) ∧
    (∀ {prog : Nat → Option AFunc} {e : Env} {H : AH} {d : Option Nat} {id : Nat} {pre : List Nat} {os : List AOper} {over : List AOper} {ls : List LR} {hs : List HR} {kp : List Nat} {kk : List Kont} {Q : AExit → Env → AH → Prop} {gd : Option (Nat × Bool)} (isStr : Bool) (x : AOpd), DrawN prog (⟨d, .len isStr x, gd, id, pre⟩ : AOper) os kp e H over ls hs kk Q ↔ DrawK prog os kp (putDst e d (.tuple [])) H over ls hs kk Q) ∧
    (∀ {prog : Nat → Option AFunc} {e : Env} {H : AH} {d : Option Nat} {id : Nat} {pre : List Nat} {os : List AOper} {over : List AOper} {ls : List LR} {hs : List HR} {kp : List Nat} {kk : List Kont} {Q : AExit → Env → AH → Prop} {gd : Option (Nat × Bool)} (x : AOpd), DrawG prog (⟨d, .lenMap x, gd, id, pre⟩ : AOper) os kp e H over ls hs kk Q ↔ ThenY prog (aop0 e H (.lenMap x)) (⟨d, .lenMap x, gd, id, pre⟩ : AOper) (fun S => aop0 e S (.lenMap x)) os kp e over ls hs kk Q) ∧
    (∀ {prog : Nat → Option AFunc} {e : Env} {H : AH} {d : Option Nat} {id : Nat} {pre : List Nat} {os : List AOper} {over : List AOper} {ls : List LR} {hs : List HR} {kp : List Nat} {kk : List Kont} {Q : AExit → Env → AH → Prop} {gd : Option (Nat × Bool)} (x : AOpd), DrawN prog (⟨d, .lenMap x, gd, id, pre⟩ : AOper) os kp e H over ls hs kk Q ↔ DrawK prog os kp (putDst e d (.tuple [])) H over ls hs kk Q) ∧
    (∀ {prog : Nat → Option AFunc} {e : Env} {H : AH} {d : Option Nat} {id : Nat} {pre : List Nat} {os : List AOper} {over : List AOper} {ls : List LR} {hs : List HR} {kp : List Nat} {kk : List Kont} {Q : AExit → Env → AH → Prop} {gd : Option (Nat × Bool)} (sz bytes : Nat) (s x : AOpd), DrawG prog (⟨d, .append sz bytes s x, gd, id, pre⟩ : AOper) os kp e H over ls hs kk Q ↔ okAll ls ⟨H, over, (⟨d, .append sz bytes s x, gd, id, pre⟩ : AOper) :: effsO os⟩ ∧ ThenX prog (aop0 e H (.append sz bytes s x)) d os kp e (over ++ [(⟨d, .append sz bytes s x, gd, id, pre⟩ : AOper)]) ls (hs ++ [⟨H, over, (⟨d, .append sz bytes s x, gd, id, pre⟩ : AOper) :: effsO os⟩]) kk Q) ∧
    (∀ {prog : Nat → Option AFunc} {e : Env} {H : AH} {d : Option Nat} {id : Nat} {pre : List Nat} {os : List AOper} {over : List AOper} {ls : List LR} {hs : List HR} {kp : List Nat} {kk : List Kont} {Q : AExit → Env → AH → Prop} {gd : Option (Nat × Bool)} (sz bytes : Nat) (s x : AOpd), DrawN prog (⟨d, .append sz bytes s x, gd, id, pre⟩ : AOper) os kp e H over ls hs kk Q ↔ okAll ls ⟨H, over, (⟨d, .append sz bytes s x, gd, id, pre⟩ : AOper) :: effsO os⟩ ∧ DrawK prog os kp (putDst e d (.tuple [])) H (over ++ [(⟨d, .append sz bytes s x, gd, id, pre⟩ : AOper)]) ls (hs ++ [⟨H, over, (⟨d, .append sz bytes s x, gd, id, pre⟩ : AOper) :: effsO os⟩]) kk Q) ∧
    (∀ {prog : Nat → Option AFunc} {e : Env} {H : AH} {d : Option Nat} {id : Nat} {pre : List Nat} {os : List AOper} {over : List AOper} {ls : List LR} {hs : List HR} {kp : List Nat} {kk : List Kont} {Q : AExit → Env → AH → Prop} {gd : Option (Nat × Bool)} (sz : Nat) (y s : AOpd), DrawG prog (⟨d, .copy sz y s, gd, id, pre⟩ : AOper) os kp e H over ls hs kk Q ↔ okAll ls ⟨H, over, (⟨d, .copy sz y s, gd, id, pre⟩ : AOper) :: effsO os⟩ ∧ ThenX prog (aop0 e H (.copy sz y s)) d os kp e (over ++ [(⟨d, .copy sz y s, gd, id, pre⟩ : AOper)]) ls (hs ++ [⟨H, over, (⟨d, .copy sz y s, gd, id, pre⟩ : AOper) :: effsO os⟩]) kk Q) ∧
    (∀ {prog : Nat → Option AFunc} {e : Env} {H : AH} {d : Option Nat} {id : Nat} {pre : List Nat} {os : List AOper} {over : List AOper} {ls : List LR} {hs : List HR} {kp : List Nat} {kk : List Kont} {Q : AExit → Env → AH → Prop} {gd : Option (Nat × Bool)} (sz : Nat) (y s : AOpd), DrawN prog (⟨d, .copy sz y s, gd, id, pre⟩ : AOper) os kp e H over ls hs kk Q ↔ okAll ls ⟨H, over, (⟨d, .copy sz y s, gd, id, pre⟩ : AOper) :: effsO os⟩ ∧ DrawK prog os kp (putDst e d (.tuple [])) H (over ++ [(⟨d, .copy sz y s, gd, id, pre⟩ : AOper)]) ls (hs ++ [⟨H, over, (⟨d, .copy sz y s, gd, id, pre⟩ : AOper) :: effsO os⟩]) kk Q) ∧
    (∀ {prog : Nat → Option AFunc} {e : Env} {H : AH} {d : Option Nat} {id : Nat} {pre : List Nat} {os : List AOper} {over : List AOper} {ls : List LR} {hs : List HR} {kp : List Nat} {kk : List Kont} {Q : AExit → Env → AH → Prop} {gd : Option (Nat × Bool)} (x : AOpd) (xs : List AOpd), DrawG prog (⟨d, .maxInt x xs, gd, id, pre⟩ : AOper) os kp e H over ls hs kk Q ↔ ThenX prog (aop0 e H (.maxInt x xs)) d os kp e over ls hs kk Q) ∧
    (∀ {prog : Nat → Option AFunc} {e : Env} {H : AH} {d : Option Nat} {id : Nat} {pre : List Nat} {os : List AOper} {over : List AOper} {ls : List LR} {hs : List HR} {kp : List Nat} {kk : List Kont} {Q : AExit → Env → AH → Prop} {gd : Option (Nat × Bool)} (x : AOpd) (xs : List AOpd), DrawN prog (⟨d, .maxInt x xs, gd, id, pre⟩ : AOper) os kp e H over ls hs kk Q ↔ DrawK prog os kp (putDst e d (.tuple [])) H over ls hs kk Q) ∧
    (∀ {prog : Nat → Option AFunc} {e : Env} {H : AH} {d : Option Nat} {id : Nat} {pre : List Nat} {os : List AOper} {over : List AOper} {ls : List LR} {hs : List HR} {kp : List Nat} {kk : List Kont} {Q : AExit → Env → AH → Prop} {gd : Option (Nat × Bool)} (x : AOpd) (xs : List AOpd), DrawG prog (⟨d, .minInt x xs, gd, id, pre⟩ : AOper) os kp e H over ls hs kk Q ↔ ThenX prog (aop0 e H (.minInt x xs)) d os kp e over ls hs kk Q) ∧
    (∀ {prog : Nat → Option AFunc} {e : Env} {H : AH} {d : Option Nat} {id : Nat} {pre : List Nat} {os : List AOper} {over : List AOper} {ls : List LR} {hs : List HR} {kp : List Nat} {kk : List Kont} {Q : AExit → Env → AH → Prop} {gd : Option (Nat × Bool)} (x : AOpd) (xs : List AOpd), DrawN prog (⟨d, .minInt x xs, gd, id, pre⟩ : AOper) os kp e H over ls hs kk Q ↔ DrawK prog os kp (putDst e d (.tuple [])) H over ls hs kk Q) ∧
    (∀ {prog : Nat → Option AFunc} {e : Env} {H : AH} {d : Option Nat} {id : Nat} {pre : List Nat} {os : List AOper} {over : List AOper} {ls : List LR} {hs : List HR} {kp : List Nat} {kk : List Kont} {Q : AExit → Env → AH → Prop} {gd : Option (Nat × Bool)} (f : AOpd) (xs : List AOpd), DrawN prog (⟨d, .call f xs, gd, id, pre⟩ : AOper) os kp e H over ls hs kk Q ↔ okAll ls ⟨H, over, (⟨d, .call f xs, gd, id, pre⟩ : AOper) :: effsO os⟩ ∧ DrawK prog os kp (putDst e d (.tuple [])) H (over ++ [(⟨d, .call f xs, gd, id, pre⟩ : AOper)]) ls (hs ++ [⟨H, over, (⟨d, .call f xs, gd, id, pre⟩ : AOper) :: effsO os⟩]) kk Q) ∧
    (∀ {prog : Nat → Option AFunc} {e : Env} {H : AH} {over : List AOper} {ls : List LR} {hs : List HR} {kp : List Nat} {kk : List Kont} {Q : AExit → Env → AH → Prop}, DrawK prog [] kp e H over ls hs kk Q ↔ okAll ls ⟨H, over, []⟩ ∧ EndK prog .normal (e.keep kp) H kk Q) ∧
    (∀ {prog : Nat → Option AFunc} {v : AV} {H : AH} {d : Option Nat} {os : List AOper} {e : Env} {over : List AOper} {ls : List LR} {hs : List HR} {kp : List Nat} {kk : List Kont} {Q : AExit → Env → AH → Prop}, ThenX prog (some (v, H)) d os kp e over ls hs kk Q ↔ DrawK prog os kp (putDst e d v) H over ls hs kk Q) ∧
    (∀ {prog : Nat → Option AFunc} {v : AV} {H : AH} {o : AOper} {f : AH → ORes} {os : List AOper} {e : Env} {over : List AOper} {ls : List LR} {hs : List HR} {kp : List Nat} {kk : List Kont} {Q : AExit → Env → AH → Prop}, ThenY prog (some (v, H)) o f os kp e over ls hs kk Q ↔ okOne ⟨o, f, v⟩ hs ∧ DrawK prog os kp (putDst e o.dst v) H over (ls ++ [⟨o, f, v⟩]) hs kk Q) ∧
    (∀ {prog : Nat → Option AFunc} {e : Env} {H : AH} {d : Option Nat} {id : Nat} {pre : List Nat} {os : List AOper} {over : List AOper} {ls : List LR} {hs : List HR} {kp : List Nat} {kk : List Kont} {Q : AExit → Env → AH → Prop} {op : AOp}, DrawK prog (⟨d, op, none, id, pre⟩ :: os) kp e H over ls hs kk Q ↔ DrawG prog ⟨d, op, none, id, pre⟩ os kp e H over ls hs kk Q) ∧
    (∀ {prog : Nat → Option AFunc} {e : Env} {H : AH} {d : Option Nat} {id : Nat} {pre : List Nat} {os : List AOper} {over : List AOper} {ls : List LR} {hs : List HR} {kp : List Nat} {kk : List Kont} {Q : AExit → Env → AH → Prop} {op : AOp} {t : Nat} {b : Bool}, DrawK prog (⟨d, op, some (t, b), id, pre⟩ :: os) kp e H over ls hs kk Q ↔ GuardX prog (e.get t) b ⟨d, op, some (t, b), id, pre⟩ os kp e H over ls hs kk Q) ∧
    (∀ {prog : Nat → Option AFunc} {e : Env} {H : AH} {os : List AOper} {over : List AOper} {ls : List LR} {hs : List HR} {kp : List Nat} {kk : List Kont} {Q : AExit → Env → AH → Prop} {o : AOper}, GuardX prog (some (.bool true)) true o os kp e H over ls hs kk Q ↔ DrawG prog o os kp e H over ls hs kk Q) ∧
    (∀ {prog : Nat → Option AFunc} {e : Env} {H : AH} {os : List AOper} {over : List AOper} {ls : List LR} {hs : List HR} {kp : List Nat} {kk : List Kont} {Q : AExit → Env → AH → Prop} {o : AOper}, GuardX prog (some (.bool false)) false o os kp e H over ls hs kk Q ↔ DrawG prog o os kp e H over ls hs kk Q) ∧
    (∀ {prog : Nat → Option AFunc} {e : Env} {H : AH} {os : List AOper} {over : List AOper} {ls : List LR} {hs : List HR} {kp : List Nat} {kk : List Kont} {Q : AExit → Env → AH → Prop} {o : AOper}, GuardX prog (some (.bool true)) false o os kp e H over ls hs kk Q ↔ DrawN prog o os kp e H over ls hs kk Q) ∧
    (∀ {prog : Nat → Option AFunc} {e : Env} {H : AH} {os : List AOper} {over : List AOper} {ls : List LR} {hs : List HR} {kp : List Nat} {kk : List Kont} {Q : AExit → Env → AH → Prop} {o : AOper}, GuardX prog (some (.bool false)) true o os kp e H over ls hs kk Q ↔ DrawN prog o os kp e H over ls hs kk Q) ∧
    (∀ {prog : Nat → Option AFunc} {e : Env} {H : AH} {os : List AOper} {over : List AOper} {ls : List LR} {hs : List HR} {kp : List Nat} {kk : List Kont} {Q : AExit → Env → AH → Prop} {o : AOper} {b : Bool}, GuardX prog (some (.tuple [])) b o os kp e H over ls hs kk Q ↔ DrawN prog o os kp e H over ls hs kk Q) :=
  ⟨by intros; exact Iff.rfl,
   by intros; exact Iff.rfl,
   by intros; exact Iff.rfl,
   by intros; exact Iff.rfl,
   by intros; exact Iff.rfl,
   by intros; exact Iff.rfl,
   by intros; exact Iff.rfl,
   by intros; exact Iff.rfl,
   by intros; exact Iff.rfl,
   by intros; exact Iff.rfl,
   by intros; exact Iff.rfl,
   by intros; exact Iff.rfl,
   by intros; exact Iff.rfl,
   by intros; exact Iff.rfl,
   by intros; exact Iff.rfl,
   by intros; exact Iff.rfl,
   by intros; exact Iff.rfl,
   by intros; exact Iff.rfl,
   by intros; exact Iff.rfl,
   by intros; exact Iff.rfl,
   by intros; exact Iff.rfl,
   by intros; exact Iff.rfl,
   by intros; exact Iff.rfl,
   by intros; exact Iff.rfl,
   by intros; exact Iff.rfl,
   by intros; exact Iff.rfl,
   by intros; exact Iff.rfl,
   by intros; exact Iff.rfl,
   by intros; exact Iff.rfl,
   by intros; exact Iff.rfl,
   by intros; exact Iff.rfl,
   by intros; exact Iff.rfl,
   by intros; exact Iff.rfl,
   by intros; exact Iff.rfl,
   by intros; exact Iff.rfl,
   by intros; exact Iff.rfl,
   by intros; exact Iff.rfl,
   by intros; exact Iff.rfl,
   by intros; exact Iff.rfl,
   by intros; exact Iff.rfl,
   by intros; exact Iff.rfl,
   by intros; exact Iff.rfl,
   by intros; exact Iff.rfl,
   by intros; exact Iff.rfl,
   by intros; exact Iff.rfl,
   by intros; exact Iff.rfl,
   by intros; exact Iff.rfl,
   by intros; exact Iff.rfl,
   by intros; exact Iff.rfl,
   by intros; exact Iff.rfl,
   by intros; exact Iff.rfl,
   by intros; exact Iff.rfl,
   by intros; exact Iff.rfl,
   by intros; exact Iff.rfl,
   by intros; exact Iff.rfl,
   by intros; exact Iff.rfl,
   by intros; exact Iff.rfl,
   by intros; exact Iff.rfl,
   by intros; exact Iff.rfl,
   by intros; exact Iff.rfl,
   by intros; exact Iff.rfl,
   by intros; exact Iff.rfl,
   by intros; exact Iff.rfl,
   by intros; exact Iff.rfl,
   by intros; exact Iff.rfl,
   by intros; exact Iff.rfl,
   by intros; exact Iff.rfl,
   by intros; exact Iff.rfl,
   by intros; exact Iff.rfl,
   by intros; exact Iff.rfl,
   by intros; exact Iff.rfl,
   by intros; exact Iff.rfl,
   by intros; exact Iff.rfl,
   by intros; exact Iff.rfl,
   by intros; exact Iff.rfl,
   by intros; exact Iff.rfl,
   by intros; exact Iff.rfl,
   by intros; exact Iff.rfl,
   by intros; exact Iff.rfl,
   by intros; exact Iff.rfl,
   by intros; exact Iff.rfl,
   Iff.rfl,
   Iff.rfl,
   Iff.rfl,
   WpD_yes rfl,
   D_guard,
   by intros; exact Iff.rfl,
   by intros; exact Iff.rfl,
   by intros; exact Iff.rfl,
   by intros; exact Iff.rfl,
   by intros; exact Iff.rfl⟩
theorem K4 : ∀ {prog : Nat → Option AFunc} {e : Env} {H : AH} {ks : List Kont} {Q : AExit → Env → AH → Prop} {os : List AOper} {kp : List Nat}, DrawK prog os kp e H [] [] [] ks Q → WpK prog (.draw os kp) e H ks Q := fun h => K_draw ⟨h⟩
def okV (x : ORes) (v : AV) : Prop := match x with
  | some (u, _) => u = v
  | none => False
theorem okAt_iff {o : AOper} {f : AH → ORes} {v : AV} {S : AH} {over todo : List AOper} : okAt ⟨o, f, v⟩ ⟨S, over, todo⟩ ↔ (admits o over todo = true → okV (f S) v) := by
  unfold okAt okV
  refine imp_congr Iff.rfl ?_
  simp only
  cases f S with
  | none => simp
  | some x => obtain ⟨u, H'⟩ := x; simp
theorem K6 :
    (∀ {o : AOper} {f : AH → ORes} {v : AV} {S : AH} {over todo : List AOper}, okAt ⟨o, f, v⟩ ⟨S, over, todo⟩ ↔ (admits o over todo = true → okV (f S) v)) ∧
    (∀ {v : AV} {H : AH}, okV (some (v, H)) v ↔ True) ∧
    (∀ {o : AOper} {over todo : List AOper}, admits o over todo = ((todo.all fun e => !hasNat o.pre e.id) && (over.all fun e => !hasNat e.pre o.id))) ∧
    (∀ {p : AOper → Bool}, [].all p = true) ∧
    (∀ {p : AOper → Bool} {v : AOper} {vs : List AOper}, (v :: vs).all p = (p v && vs.all p)) ∧
    (∀ {p : Prop}, (False → p) ↔ True) ∧ (∀ {p : Prop}, (p → True) ↔ True) ∧ (∀ {p : Prop}, (True → p) ↔ p) ∧
    (∀ {p : AOper → Bool}, List.filter p [] = []) ∧
    (∀ {p : AOper → Bool} {v : AOper} {vs : List AOper}, List.filter p (v :: vs) = if p v = true then v :: List.filter p vs else List.filter p vs) := by
  refine ⟨okAt_iff, ?_, rfl, rfl, rfl, ?_, ?_, ?_, rfl, List.filter_cons⟩
  · intro v H; exact iff_true_intro rfl
  · intro p; exact iff_true_intro (fun h => h.elim)
  · intro p; exact iff_true_intro (fun _ => trivial)
  · intro p; exact ⟨fun h => h trivial, fun h _ => h⟩
def CallK (prog : Nat → Option AFunc) (f : Option AV) (vs : Option (List AV)) (d : Option Nat) (os : List AOper) (kp : List Nat) (e : Env) (H : AH) (ks : List Kont) (Q : AExit → Env → AH → Prop) : Prop :=
  match f, vs with
  | some fv, some vs => CallQ prog fv vs H fun v H' => RegK prog os kp (putDst e d v) H' ks Q
  | _, _ => False
def CallD (prog : Nat → Option AFunc) (f : Option AV) (vs : Option (List AV)) (o : AOper) (os : List AOper) (kp : List Nat) (e : Env) (H : AH) (over : List AOper) (ls : List LR) (hs : List HR) (ks : List Kont) (Q : AExit → Env → AH → Prop) : Prop :=
  match f, vs with
  | some fv, some vs => CallQ prog fv vs H fun v H' => DrawK prog os kp (putDst e o.dst v) H' (over ++ [o]) ls (hs ++ [⟨H, over, o :: effsO os⟩]) ks Q
  | _, _ => False
theorem C_call {prog : Nat → Option AFunc} {fv : AV} {vs : List AV} {d : Option Nat} {os : List AOper} {kp : List Nat} {e : Env} {H : AH} {ks : List Kont} {Q : AExit → Env → AH → Prop}
    (h : CallQ prog fv vs H fun v H' => RegK prog os kp (putDst e d v) H' ks Q) : CallK prog (some fv) (some vs) d os kp e H ks Q := h
theorem C_calld {prog : Nat → Option AFunc} {fv : AV} {vs : List AV} {o : AOper} {os : List AOper} {kp : List Nat} {e : Env} {H : AH} {over : List AOper} {ls : List LR} {hs : List HR} {ks : List Kont} {Q : AExit → Env → AH → Prop}
    (h : CallQ prog fv vs H fun v H' => Goal (DrawK prog os kp (putDst e o.dst v) H' (over ++ [o]) ls (hs ++ [⟨H, over, o :: effsO os⟩]) ks Q)) : CallD prog (some fv) (some vs) o os kp e H over ls hs ks Q := CallQ.mono h fun _ _ h => h.out
theorem K5 :
    (∀ {prog : Nat → Option AFunc} {e : Env} {H : AH} {d : Option Nat} {id : Nat} {pre : List Nat} {os : List AOper} {kp : List Nat} {ks : List Kont} {Q : AExit → Env → AH → Prop} {f : AOpd} {xs : List AOpd},
      RegK prog (⟨d, .call f xs, none, id, pre⟩ :: os) kp e H ks Q ↔ CallK prog (f.val e) (vals e xs) d os kp e H ks Q) ∧
    (∀ {prog : Nat → Option AFunc} {e : Env} {H : AH} {d : Option Nat} {id : Nat} {pre : List Nat} {os : List AOper} {kp : List Nat} {ks : List Kont} {Q : AExit → Env → AH → Prop} {f : AOpd} {xs : List AOpd} {over : List AOper} {ls : List LR} {hs : List HR} {gd : Option (Nat × Bool)},
      DrawG prog ⟨d, .call f xs, gd, id, pre⟩ os kp e H over ls hs ks Q ↔ okAll ls ⟨H, over, (⟨d, .call f xs, gd, id, pre⟩ : AOper) :: effsO os⟩ ∧ CallD prog (f.val e) (vals e xs) ⟨d, .call f xs, gd, id, pre⟩ os kp e H over ls hs ks Q) := by
  refine ⟨?_, ?_⟩
  · intro prog e H d id pre os kp ks Q f xs
    constructor
    · rintro ⟨n, e', H', h, hq⟩
      simp only [aops, AOper.wanted, aop] at h
      unfold CallK
      cases hf : f.val e with
      | none => rw [hf] at h; simp [with1] at h
      | some fv =>
        cases hv : vals e xs with
        | none => rw [hf, hv] at h; simp [with1, withL] at h
        | some vs =>
          rw [hf, hv] at h
          simp only [with1, withL] at h
          split at h
          · rename_i v H1 h1
            exact ⟨n, v, H1, h1, n, e', H', h, hq⟩
          · cases h
    · intro h
      unfold CallK at h
      split at h
      · rename_i hf hv
        exact WpOps_call rfl hf hv h
      · exact h.elim
  · intro prog e H d id pre os kp ks Q f xs over ls hs gd
    show (okAll _ _ ∧ EffQ _ _ _ _ _) ↔ _
    unfold EffQ CallD
    refine and_congr Iff.rfl ?_
    simp only
    cases f.val e <;> cases vals e xs <;> exact Iff.rfl
def byteR (H : AH) : Option UInt8 → ORes
  | some b => some (.int .u8 b.toNat, H)
  | none => none
theorem E6 :
    (∀ {n : Nat}, natOf (.int .i64 (OfNat.ofNat n)) = some n) ∧
    (natOf (.int .i64 0) = some 0) ∧ (natOf (.int .i64 1) = some 1) ∧
    (∀ {s : ByteArray} {v : AV} {H : AH}, opByteAt (.str s) v H = byteR H ((natOf v).bind fun k => s.toList[k]?)) ∧
    (∀ {H : AH} {b : UInt8}, byteR H (some b) = some (.int .u8 b.toNat, H)) ∧
    (∀ {k : Nat} {f : Nat → Option UInt8}, (some k).bind f = f k) := by
  refine ⟨?_, rfl, rfl, ?_, rfl, rfl⟩
  · intro n
    have : (OfNat.ofNat n : Int) = ((n : Nat) : Int) := rfl
    rw [this]; simp [natOf]
  · intro s v H
    unfold opByteAt byteR
    cases natOf v with
    | none => rfl
    | some k => simp only [Option.bind_some]; cases s.toList[k]? <;> rfl
theorem E5 :
    (∀ {e : Env} {t k : Nat} {v : AV}, (e.put t v).get k = if t = k then some v else e.get k) ∧
    (∀ {e : Env} {l : List Nat} {k : Nat}, (e.keep l).get k = if hasNat l k then e.get k else none) := ⟨Env.get_put _ _ _ _, Env.get_keep' _ _ _⟩
end Go.AM
namespace Go.AM
def freeOf (l : List Nat) (e : AOper) : Bool := !hasNat l e.id
def overOf (n : Nat) (e : AOper) : Bool := !hasNat e.pre n
def effOf (e : AOper) : Bool := e.isEff
theorem K6n :
    (∀ {o : AOper} {f : AH → ORes} {v : AV} {S : AH} {over todo : List AOper}, okAt ⟨o, f, v⟩ ⟨S, over, todo⟩ ↔ (admits o over todo = true → okV (f S) v)) ∧
    (∀ {v : AV} {H : AH}, okV (some (v, H)) v ↔ True) ∧
    (∀ {d : Option Nat} {op : AOp} {g : Option (Nat × Bool)} {id : Nat} {pre : List Nat} {over todo : List AOper}, admits ⟨d, op, g, id, pre⟩ over todo = (todo.all (freeOf pre) && over.all (overOf id))) ∧
    (∀ {p : AOper → Bool}, [].all p = true) ∧
    (∀ {l : List Nat} {d : Option Nat} {op : AOp} {g : Option (Nat × Bool)} {id : Nat} {pre : List Nat} {vs : List AOper}, ((⟨d, op, g, id, pre⟩ : AOper) :: vs).all (freeOf l) = (!hasNat l id && vs.all (freeOf l))) ∧
    (∀ {n : Nat} {d : Option Nat} {op : AOp} {g : Option (Nat × Bool)} {id : Nat} {pre : List Nat} {vs : List AOper}, ((⟨d, op, g, id, pre⟩ : AOper) :: vs).all (overOf n) = (!hasNat pre n && vs.all (overOf n))) ∧
    (∀ {p : Prop}, (False → p) ↔ True) ∧ (∀ {p : Prop}, (p → True) ↔ True) ∧ (∀ {p : Prop}, (True → p) ↔ p) ∧
    (∀ {os : List AOper}, effsO os = List.filter effOf os) ∧
    (List.filter effOf [] = []) ∧
    (∀ {v : AOper} {vs : List AOper}, List.filter effOf (v :: vs) = if v.isEff = true then v :: List.filter effOf vs else List.filter effOf vs) := by
  refine ⟨okAt_iff, ?_, rfl, rfl, rfl, rfl, ?_, ?_, ?_, rfl, rfl, List.filter_cons⟩
  · intro v H; exact iff_true_intro rfl
  · intro p; exact iff_true_intro (fun h => h.elim)
  · intro p; exact iff_true_intro (fun _ => trivial)
  · intro p; exact ⟨fun h => h trivial, fun h _ => h⟩
end Go.AM
namespace Go.AM
set_option linter.defProp false
def KP := And.intro @K1 (And.intro @K2 (And.intro @K3 @K5))
theorem boolE : (∀ {p : Prop}, (p ∧ p) ↔ p) ∧ (∀ {p : Prop}, (p ∧ True) ↔ p) ∧ (∀ {p : Prop}, (True ∧ p) ↔ p) ∧ (decide True = true) ∧ (decide False = false) ∧ ((!true) = false) ∧ ((!false) = true) ∧ ((false = true) ↔ False) ∧
    (∀ {b : Bool}, (b && b) = b) ∧ (∀ {b : Bool}, (true && b) = b) ∧ (∀ {b : Bool}, (b && true) = b) ∧ (∀ {b : Bool}, (b != false) = b) ∧ (∀ {b : Bool}, (b != true) = !b) ∧
    (∀ {n : Nat}, 0 + n = n) ∧ (∀ {n : Nat}, n + 0 = n) ∧ (∀ {n : Nat}, 1 * n = n) ∧ (∀ {n : Nat}, n * 1 = n) ∧ (∀ {α : Type} {l : List α}, [] ++ l = l) ∧ (∀ {α : Type} {a : α} {l m : List α}, (a :: l) ++ m = a :: (l ++ m)) ∧ (∀ {α β : Type} {f : α → β} {a : α}, Option.map f (some a) = some (f a)) := by
  refine ⟨and_self_iff, Iff.of_eq (and_true _), Iff.of_eq (true_and _), rfl, rfl, rfl, rfl, by simp, ?_, ?_, ?_, ?_, ?_, Nat.zero_add _, Nat.add_zero _, Nat.one_mul _, Nat.mul_one _, rfl, rfl, rfl⟩ <;> intro b <;> cases b <;> rfl
def EP := And.intro @E1 (And.intro @E2 (And.intro @E3 (And.intro @E4 (And.intro @E5 (And.intro @E6 (And.intro @goal_iff @boolE))))))
theorem clsE :
    (∀ {a}, AOp.cls (.move a) = .pure) ∧
    (∀ {a b c}, AOp.cls (.pick a b c) = .pure) ∧
    (∀ {a}, AOp.cls (.alloc a) = .alloc) ∧
    (∀ {a}, AOp.cls (.box a) = .alloc) ∧
    (∀ {a b}, AOp.cls (.build a b) = .pure) ∧
    (∀ {a b c d}, AOp.cls (.mkslice a b c d) = .alloc) ∧
    (∀ {a}, AOp.cls (.load a) = .load) ∧
    (∀ {a b}, AOp.cls (.loadN a b) = .load) ∧
    (∀ {a b c}, AOp.cls (.store a b c) = .eff) ∧
    (∀ {a}, AOp.cls (.nilCheck a) = .pure) ∧
    (∀ {a b c}, AOp.cls (.bin a b c) = .pure) ∧
    (∀ {a b c d e}, AOp.cls (.eqFlat a b c d e) = .pure) ∧
    (∀ {a b c d}, AOp.cls (.eqNil a b c d) = .pure) ∧
    (∀ {a b}, AOp.cls (.un a b) = .pure) ∧
    (∀ {a b}, AOp.cls (.toInt a b) = .pure) ∧
    (∀ {a}, AOp.cls (.strId a) = .pure) ∧
    (∀ {a b c}, AOp.cls (.func a b c) = .pure) ∧
    (AOp.cls (.makeMap) = .alloc) ∧
    (∀ {a b c d e}, AOp.cls (.makeSlice a b c d e) = .alloc) ∧
    (∀ {a b c}, AOp.cls (.sliceStr a b c) = .pure) ∧
    (∀ {a b c d}, AOp.cls (.sliceSl a b c d) = .pure) ∧
    (∀ {a b c d e}, AOp.cls (.sliceArr a b c d e) = .load) ∧
    (∀ {a b}, AOp.cls (.off a b) = .pure) ∧
    (∀ {a b c}, AOp.cls (.idxSl a b c) = .pure) ∧
    (∀ {a b c d}, AOp.cls (.idxArr a b c d) = .pure) ∧
    (∀ {a b}, AOp.cls (.part a b) = .pure) ∧
    (∀ {a b c}, AOp.cls (.partN a b c) = .pure) ∧
    (∀ {a b c d e}, AOp.cls (.at a b c d e) = .pure) ∧
    (∀ {a b}, AOp.cls (.byteAt a b) = .pure) ∧
    (∀ {a b c d e f}, AOp.cls (.lookup a b c d e f) = .load) ∧
    (∀ {a b c d e}, AOp.cls (.update a b c d e) = .eff) ∧
    (∀ {a}, AOp.cls (.rangeStr a) = .eff) ∧
    (∀ {a}, AOp.cls (.nextStr a) = .eff) ∧
    (∀ {a b}, AOp.cls (.extract a b) = .pure) ∧
    (∀ {a b}, AOp.cls (.call a b) = .eff) ∧
    (∀ {a b}, AOp.cls (.len a b) = .pure) ∧
    (∀ {a}, AOp.cls (.lenMap a) = .load) ∧
    (∀ {a b c d}, AOp.cls (.append a b c d) = .eff) ∧
    (∀ {a b c}, AOp.cls (.copy a b c) = .eff) ∧
    (∀ {a b}, AOp.cls (.maxInt a b) = .pure) ∧
    (∀ {a b}, AOp.cls (.minInt a b) = .pure) := by
  refine ⟨rfl, rfl, rfl, rfl, rfl, rfl, rfl, rfl, rfl, rfl, rfl, rfl, rfl, rfl, rfl, rfl, rfl, rfl, rfl, rfl, rfl, rfl, rfl, rfl, rfl, rfl, rfl, rfl, rfl, rfl, rfl, rfl, rfl, rfl, rfl, rfl, rfl, rfl, rfl, rfl, rfl⟩
theorem okE : (∀ {h : HR}, okAll [] h ↔ True) ∧ (∀ {l : LR} {ls : List LR} {h : HR}, okAll (l :: ls) h ↔ okAt l h ∧ okAll ls h) ∧ (∀ {l : LR}, okOne l [] ↔ True) ∧ (∀ {l : LR} {h : HR} {hs : List HR}, okOne l (h :: hs) ↔ okAt l h ∧ okOne l hs) ∧
    (∀ {d : Option Nat} {op : AOp} {g : Option (Nat × Bool)} {id : Nat} {pre : List Nat}, AOper.isEff ⟨d, op, g, id, pre⟩ = decide (op.cls = .eff)) :=
  ⟨Iff.rfl, Iff.rfl, Iff.rfl, Iff.rfl, rfl⟩
theorem effE : ∀ {os : List AOper}, effsO os = os.filter (·.isEff) := rfl
def EK := And.intro @clsE (And.intro @okE (And.intro @EP (And.intro @effE @K6)))
def EN := And.intro @clsE (And.intro @okE (And.intro @EP @K6n))
def AN := And.intro @AH.next_alloc @AH.next_set
theorem GW {H H' : AH} (h : Grew H H' := by repeat (first | (with_reducible exact Grew.refl _) | (with_reducible assumption) | (with_reducible apply Grew.alloc) | (with_reducible refine Grew.set ?_ _ (by first | omega | (simp only [AH.next_alloc, AH.next_set]; omega))) | (with_reducible refine Grew.trans ?_ (by assumption)))) : Grew H H' := h
end Go.AM
namespace Go.AM
theorem C_ndecide {prog : Nat → Option AFunc} {e : Env} {H : AH} {ks : List Kont} {Q : AExit → Env → AH → Prop} {p : Prop} [Decidable p] {a b : ACode} (h1 : ¬ p → WpK prog a e H ks Q) (h2 : p → WpK prog b e H ks Q) : CondK prog (some (.bool (!decide p))) a b e H ks Q := by
  by_cases h : p
  · simp only [h, decide_true, Bool.not_true]; exact h2 h
  · simp only [h, decide_false, Bool.not_false]; exact h1 h
section
variable {α : Type} {z : Nat} {E : Elem α} {F : Nat → Prop} {H H' : AH} {v : AV} {l : List α}
theorem IsSl.rd (h : IsSl z E (Old H) H v l) {n : Int} {k : Nat} (hn : n = k) (hk : k < l.length) : ∃ b i ro vs cs, b < H.next ∧ cs.length = z ∧ E (Old H) H cs l[k] ∧
    ((∀ S, opIdxSl z v (.int .i64 n) S = some (.ptr b i, S)) ∧ H.get b = some (.cells ro vs) ∧ (i + z ≤ vs.length) ∧ (vs.drop i).take z = cs) ∧ ∀ j, j < z → vs[i + j]? = cs[j]? := by
  subst hn
  obtain ⟨b, i, ro, vs, cs, h1, h2, h3, h4, h5, h6, h7, h8⟩ := h.at_ hk
  exact ⟨b, i, ro, vs, cs, h2, h4, h5, ⟨h1, h3, h6, h7⟩, h8⟩
theorem IsSl.rdInt {l : List Int} (h : IsSl 1 EInt (Old H) H v l) {n : Int} {k : Nat} (hn : n = k) (hk : k < l.length) : ∃ b i ro vs, b < H.next ∧
    ((∀ S, opIdxSl 1 v (.int .i64 n) S = some (.ptr b i, S)) ∧ H.get b = some (.cells ro vs) ∧ vs[i]? = some (.int .i64 l[k])) := by
  obtain ⟨b, i, ro, vs, cs, h1, h2, rfl, ⟨h4, h5, _, _⟩, h6⟩ := h.rd hn hk
  exact ⟨b, i, ro, vs, h1, h4, h5, by simpa using h6 0 (by omega)⟩
theorem IsSl.grow (hE : Stays E) (hg : Grew H H') (h : IsSl z E (Old H) H v l) : IsSl z E (Old H') H' v l := h.move hE hg.keeps
def Mine (z : Nat) (E : Elem α) (P : Nat → Prop) (N : Nat) (H : AH) (v : AV) (l : List α) : Prop :=
  (v = .nilslice ∧ l = []) ∨ ∃ b i vs cells, v = .slice b i l.length z ∧ N ≤ b ∧ b < H.next ∧ H.get b = some (.cells false vs) ∧ readN vs i (l.length * z) = some cells ∧ Rows z (E (fun k => k < H.next ∧ k ≠ b ∧ (P k ∨ N ≤ k)) H) cells l
variable {P : Nat → Prop} {N : Nat}
theorem Mine.nil : Mine z E P N H .nilslice [] := .inl ⟨rfl, rfl⟩
theorem Mine.len (h : Mine z E P N H v l) (S : AH) : opLen false v S = some (.int .i64 l.length, S) := by
  rcases h with ⟨rfl, rfl⟩ | ⟨b, i, vs, cells, rfl, _⟩ <;> rfl
theorem Mine.isCell (h : Mine z E P N H v l) : v.isCell = true := by
  rcases h with ⟨rfl, rfl⟩ | ⟨b, i, vs, cells, rfl, _⟩ <;> rfl
theorem Mine.cells? (h : Mine z E P N H v l) : v.cells? = some [v] := by
  rcases h with ⟨rfl, rfl⟩ | ⟨b, i, vs, cells, rfl, _⟩ <;> rfl
theorem Mine.spine (h : Mine z E P N H v l) {b i n y : Nat} (hv : v = .slice b i n y) : N ≤ b ∧ b < H.next := by
  rcases h with ⟨rfl, _⟩ | ⟨b', i', vs, cells, rfl, h2, h3, _⟩
  · cases hv
  · simp only [AV.slice.injEq] at hv
    obtain ⟨rfl, _⟩ := hv
    exact ⟨h2, h3⟩
theorem Mine.move (hE : Stays E) (hs : ∀ k, k < H.next → (P k ∨ N ≤ k) → H'.get k = H.get k) (hn : H.next ≤ H'.next) (h : Mine z E P N H v l) : Mine z E P N H' v l := by
  rcases h with h | ⟨b, i, vs, cells, h1, h2, h3, h4, h5, h6⟩
  · exact .inl h
  · refine .inr ⟨b, i, vs, cells, h1, h2, Nat.lt_of_lt_of_le h3 hn, (hs b h3 (.inr h2)).trans h4, h5, h6.mono fun cs a h => hE _ _ _ _ _ _ (fun k hk => ⟨⟨Nat.lt_of_lt_of_le hk.1 hn, hk.2⟩, hs k hk.1 hk.2.2⟩) h⟩
theorem Mine.grow (hE : Stays E) (hg : Grew H H') (h : Mine z E P N H v l) : Mine z E P N H' v l := h.move hE (fun k hk _ => hg.get k hk) hg.next
theorem Mine.weak {P' : Nat → Prop} {N' : Nat} (h : Mine z E P N H v l) (hN : N' ≤ N) (hP : ∀ k, P k → P' k ∨ N' ≤ k) (hE : Stays E := by first | exact EInt.stays | exact ESl.stays EInt.stays | assumption) : Mine z E P' N' H v l := by
  rcases h with h | ⟨b, i, vs, cells, h1, h2, h3, h4, h5, h6⟩
  · exact .inl h
  · exact .inr ⟨b, i, vs, cells, h1, by omega, h3, h4, h5, h6.mono fun cs a h => hE _ _ _ _ _ _ (fun k hk => ⟨⟨hk.1, hk.2.1, hk.2.2.elim (hP k) fun h => .inr (by omega)⟩, rfl⟩) h⟩
theorem Mine.sl (hE : Stays E) (h : Mine z E P N H v l) : IsSl z E (Old H) H v l := by
  rcases h with h | ⟨b, i, vs, cells, h1, h2, h3, h4, h5, h6⟩
  · exact .inl h
  · refine .inr ⟨b, i, cells, h1, h3, by unfold AH.read; rw [h4]; exact h5, h6.mono fun cs a h => hE _ _ _ _ _ _ (fun k hk => ⟨hk.1, rfl⟩) h⟩
theorem Mine.slF (hE : Stays E) (h : Mine z E P N H v l) : IsSl z E (fun k => k < H.next ∧ (P k ∨ N ≤ k)) H v l := by
  rcases h with h | ⟨b, i, vs, cells, h1, h2, h3, h4, h5, h6⟩
  · exact .inl h
  · refine .inr ⟨b, i, cells, h1, ⟨h3, .inr h2⟩, by unfold AH.read; rw [h4]; exact h5, h6.mono fun cs a h => hE _ _ _ _ _ _ (fun k hk => ⟨⟨hk.1, hk.2.2⟩, rfl⟩) h⟩
theorem Mine.append {bytes : Nat} {x : AV} {new : List AV} {l2 : List α} (hE : Stays E) (h : Mine z E P N H v l) (hN : N ≤ H.next) (hx : AM.lenA x = some l2.length) (hs : srcCells H z l2.length x = some new)
    (hr : Rows z (E (fun k => k < H.next ∧ (∀ i n y, v ≠ .slice k i n y) ∧ (P k ∨ N ≤ k)) H) new l2) (hc : new.all AV.isCell = true) (hroom : l.length + l2.length ≤ roomA ∧ (l.length + l2.length) * bytes ≤ roomA) :
    ∃ v' H', appendA H z bytes v x = some (v', H') ∧ Mine z E P N H' v' (l ++ l2) ∧ H.next ≤ H'.next ∧ (∀ k, k < H.next → (∀ i n z, v ≠ .slice k i n z) → H'.get k = H.get k) := by
  unfold appendA
  simp only [hx, hs]
  rcases h with ⟨rfl, rfl⟩ | ⟨b, i, vs, cells, rfl, h2, h3, h4, h5, h6⟩
  · by_cases h0 : l2.length = 0
    · simp only [h0, if_true]
      have : l2 = [] := List.length_eq_zero_iff.1 h0
      subst this
      exact ⟨_, _, rfl, .inl ⟨rfl, rfl⟩, Nat.le_refl _, fun _ _ _ => rfl⟩
    · simp only [List.length_nil, Nat.zero_add] at hroom
      simp only [h0, if_false, hroom, and_self, if_true]
      refine ⟨_, _, rfl, .inr ⟨H.next, 0, new, new, rfl, hN, by simp, get_alloc_new _ _, ?_, hr.mono fun cs a h => hE _ _ _ _ _ _ (fun b hb => ⟨⟨by simp; omega, by omega, hb.2.2⟩, get_alloc_old hb.1⟩) h⟩, by simp, fun k hk _ => get_alloc_old hk⟩
      have := hr.length
      simp only [List.nil_append, readN, Nat.zero_add, this, Nat.le_refl, if_true, List.drop_zero]
      rw [← this, List.take_length]
  · by_cases h0 : l2.length = 0
    · simp only [h0, if_true]
      have : l2 = [] := List.length_eq_zero_iff.1 h0
      subst this
      rw [List.append_nil]
      exact ⟨_, _, rfl, .inr ⟨b, i, vs, cells, rfl, h2, h3, h4, h5, h6⟩, Nat.le_refl _, fun _ _ _ => rfl⟩
    · simp only [h0, if_false, h4, h5, hroom, hc, and_self, if_true]
      have hset : ∀ k, k ≠ b → k < H.next → ((H.set b .dead).alloc (.cells false (cells ++ new))).get k = H.get k := fun k hk hlt => by
        rw [AH.get_alloc, if_neg (by simp; omega), AH.get_set, if_neg hk]
      have hl1 := h6.length
      have hl2 := hr.length
      have r1 := h6.mono (E' := E (fun k => k < ((H.set b .dead).alloc (.cells false (cells ++ new))).next ∧ k ≠ H.next ∧ (P k ∨ N ≤ k)) ((H.set b .dead).alloc (.cells false (cells ++ new)))) fun cs a h => hE _ _ _ _ _ _ (fun k hk => ⟨⟨by simp; omega, by omega, hk.2.2⟩, hset k hk.2.1 hk.1⟩) h
      have r2 := hr.mono (E' := E (fun k => k < ((H.set b .dead).alloc (.cells false (cells ++ new))).next ∧ k ≠ H.next ∧ (P k ∨ N ≤ k)) ((H.set b .dead).alloc (.cells false (cells ++ new)))) fun cs a h => hE _ _ _ _ _ _ (fun k hk => ⟨⟨by simp; omega, by omega, hk.2.2⟩, hset k (fun e => hk.2.1 i l.length z (by rw [e])) hk.1⟩) h
      refine ⟨_, _, rfl, .inr ⟨H.next, 0, cells ++ new, cells ++ new, by simp, hN, by simp, ?_, ?_, r1.append r2⟩, by simp, fun k hk hne => hset k (fun e => hne i l.length z (by rw [e])) hk⟩
      · rw [AH.get_alloc, if_pos (by simp)]
      · simp only [readN, List.length_append, Nat.zero_add, hl1, hl2, Nat.add_mul, Nat.le_refl, if_true, List.drop_zero]
        rw [List.take_of_length_le (by rw [List.length_append, hl1, hl2]; omega)]
theorem Mine.push {bytes : Nat} {cs : List AV} {a : α} (hE : Stays E) (h : Mine z E P N H v l) (hN : N ≤ H.next) (hcs : cs.length = z) (hF : ∀ k, F k → k < H.next ∧ (∀ i n y, v ≠ .slice k i n y) ∧ (P k ∨ N ≤ k)) (ha : E F H cs a) (hc : cs.all AV.isCell = true)
    (hroom : l.length < 1000000000000 ∧ bytes ≤ 100) :
    ∃ v' H', appendA (H.alloc (.cells false cs)) z bytes v (.slice H.next 0 1 z) = some (v', H') ∧ Mine z E P N H' v' (l ++ [a]) ∧ H.next < H'.next ∧ (∀ k, k < N → H'.get k = H.get k) := by
  have hv : ∀ i n y, v ≠ .slice H.next i n y := fun i n y e => by have := (h.spine e).2; omega
  have h' := h.move (H' := H.alloc (.cells false cs)) hE (fun k hk _ => get_alloc_old hk) (Nat.le_succ _)
  have hsrc : srcCells (H.alloc (.cells false cs)) z [a].length (.slice H.next 0 1 z) = some cs := by
    simp [srcCells, AH.read, get_alloc_new, readN, ← hcs]
  have hmul : (l.length + 1) * bytes ≤ 1000000000000 * 100 := Nat.mul_le_mul (by omega) hroom.2
  obtain ⟨v', H', q1, q2, q3, q4⟩ := h'.append (bytes := bytes) (x := .slice H.next 0 1 z) (l2 := [a]) hE (by simp; omega) rfl hsrc
    (Rows.single hcs (hE _ _ _ _ _ _ (fun k hk => ⟨⟨by have := (hF k hk).1; simp; omega, (hF k hk).2⟩, get_alloc_old (hF k hk).1⟩) ha)) hc (by simp only [List.length_singleton, roomA]; omega)
  simp only [AH.next_alloc] at q3 q4
  exact ⟨v', H', q1, q2, by omega, fun k hk => by rw [q4 k (by omega) (fun i n y e => by have := (h.spine e).1; omega), get_alloc_old (by omega)]⟩
theorem copy_mine {bytes : Nat} {x : AV} (hE : Stays E) (hx : IsSl z E F H x l) (hF : ∀ k, F k → k < H.next) (hEF : ∀ cs a, E F H cs a → E (fun k => k < H.next ∧ (P k ∨ N ≤ k)) H cs a) (hN : N ≤ H.next) (hc : ∀ F H cs a, E F H cs a → cs.all AV.isCell = true) (hroom : l.length < 1000000000000 ∧ bytes ≤ 100) :
    ∃ v' H', appendA (H.alloc (.cells false [])) z bytes (.slice H.next 0 0 z) x = some (v', H') ∧ Mine z E P N H' v' l ∧ H.next < H'.next ∧ (∀ k, k < H.next → H'.get k = H.get k) := by
  have h0 : Mine z E P N (H.alloc (.cells false [])) (.slice H.next 0 0 z) ([] : List α) :=
    .inr ⟨H.next, 0, [], [], rfl, hN, by simp, get_alloc_new _ _, by simp [readN], .nil⟩
  have hx' := hx.move (F' := F) (H' := H.alloc (.cells false [])) hE (fun k hk => ⟨hk, get_alloc_old (hF k hk)⟩)
  obtain ⟨cells, hs, hr0⟩ := hx'.src
  have hr := hr0.mono (E' := E (fun k => k < H.next ∧ (P k ∨ N ≤ k)) (H.alloc (.cells false []))) fun cs a h => hE _ _ _ _ _ _ (fun k hk => ⟨hk, get_alloc_old hk.1⟩) (hEF cs a (hE _ _ _ _ _ _ (fun k hk => ⟨hk, (get_alloc_old (hF k hk)).symm⟩) h))
  have hcell : cells.all AV.isCell = true := by
    obtain ⟨cells', hs', hr'⟩ := hx.src
    have : ∀ {c : List AV} {l : List α}, Rows z (E F H) c l → c.all AV.isCell = true := fun {c l} h => by
      induction h with
      | nil => rfl
      | cons hz h _ ih => rw [List.all_append, hc _ _ _ _ h, ih]; rfl
    have e : cells = cells' := by
      rcases hx with ⟨rfl, rfl⟩ | ⟨b, i, c, rfl, h2, h3, h4⟩
      · simp only [srcCells, List.length_nil] at hs hs'
        rw [hs] at hs'; simpa using hs'
      · simp only [srcCells] at hs hs'
        have : (H.alloc (.cells false [])).read b i (l.length * z) = H.read b i (l.length * z) := by
          unfold AH.read; rw [get_alloc_old (hF _ h2)]
        simp only [this] at hs
        rw [hs] at hs'; simpa using hs'
    rw [e]; exact this hr'
  have hmul : l.length * bytes ≤ 1000000000000 * 100 := Nat.mul_le_mul (by omega) hroom.2
  obtain ⟨v', H', q1, q2, q3, q4⟩ := h0.append (bytes := bytes) (x := x) (l2 := l) hE (by simp; omega) hx.lenA hs
    (hr.mono fun cs a h => hE _ _ _ _ _ _ (fun k hk => ⟨⟨by have := hk.1; simp; omega, fun i n y e => by
      simp only [AV.slice.injEq] at e
      have := hk.1; omega, hk.2⟩, rfl⟩) h) hcell (by simp only [List.length_nil, Nat.zero_add, roomA]; omega)
  simp only [AH.next_alloc, List.nil_append] at q2 q3 q4
  exact ⟨v', H', q1, q2, by omega, fun k hk => by
    rw [q4 k (by omega) (fun i n y e => by simp only [AV.slice.injEq] at e; omega), get_alloc_old hk]⟩
end
theorem IsSl.front {α : Type} {z : Nat} {E : Elem α} {F : Nat → Prop} {H : AH} {v : AV} {l : List α} (h : IsSl z E F H v l) {n : Int} {k : Nat} (hn : n = k) (hk : k ≤ l.length) : ∃ v', (∀ S, opSliceSl z v none (some (.int .i64 n)) S = some (v', S)) ∧ IsSl z E F H v' (l.take k) := by
  subst hn
  rcases h with ⟨rfl, rfl⟩ | ⟨b, i, cells, rfl, h2, h3, h4⟩
  · have : k = 0 := by simpa using hk
    subst this
    exact ⟨.nilslice, fun S => rfl, .inl ⟨rfl, by simp⟩⟩
  · refine ⟨.slice b i k z, fun S => by simp [opSliceSl, optNat, natOf, hk], .inr ⟨b, i, cells.take (k * z), by rw [List.length_take, Nat.min_eq_left hk], h2, ?_, h4.take k hk⟩⟩
    rw [List.length_take, Nat.min_eq_left hk]
    have hm : k * z ≤ l.length * z := Nat.mul_le_mul_right _ hk
    unfold AH.read at h3 ⊢
    split at h3
    · unfold readN at h3 ⊢
      split at h3
      · rename_i hle
        rw [if_pos (by omega)]
        simp only [Option.some.injEq] at h3 ⊢
        rw [← h3, List.take_take, Nat.min_eq_left hm]
      · cases h3
    · cases h3
theorem Mine.front {α : Type} {z : Nat} {E : Elem α} {P : Nat → Prop} {N : Nat} {H : AH} {v : AV} {l : List α} (h : Mine z E P N H v l) {n : Int} {k : Nat} (hn : n = k) (hk : k ≤ l.length) : ∃ v', (∀ S, opSliceSl z v none (some (.int .i64 n)) S = some (v', S)) ∧ Mine z E P N H v' (l.take k) := by
  subst hn
  rcases h with ⟨rfl, rfl⟩ | ⟨b, i, vs, cells, rfl, h2, h3, h4, h5, h6⟩
  · have : k = 0 := by simpa using hk
    subst this
    exact ⟨.nilslice, fun S => rfl, .inl ⟨rfl, by simp⟩⟩
  · refine ⟨.slice b i k z, fun S => by simp [opSliceSl, optNat, natOf, hk], .inr ⟨b, i, vs, cells.take (k * z), by rw [List.length_take, Nat.min_eq_left hk], h2, h3, h4, ?_, h6.take k hk⟩⟩
    rw [List.length_take, Nat.min_eq_left hk]
    have hm : k * z ≤ l.length * z := Nat.mul_le_mul_right _ hk
    unfold readN at h5 ⊢
    split at h5
    · rename_i hle
      rw [if_pos (by omega)]
      simp only [Option.some.injEq] at h5 ⊢
      rw [← h5, List.take_take, Nat.min_eq_left hm]
    · cases h5
theorem Rows.allCell {α : Type} {z : Nat} {E : List AV → α → Prop} (hc : ∀ cs a, E cs a → cs.all AV.isCell = true) : ∀ {c : List AV} {l : List α}, Rows z E c l → c.all AV.isCell = true
  | _, _, .nil => rfl
  | _, _, .cons hz h t => by rw [List.all_append, hc _ _ h, Rows.allCell hc t]; rfl
theorem EInt.isCell : ∀ (F : Nat → Prop) (H : AH) (cs : List AV) (a : Int), EInt F H cs a → cs.all AV.isCell = true := by rintro F H cs a rfl; rfl
theorem ESl.isCell {β : Type} {y : Nat} {E : Elem β} : ∀ (F : Nat → Prop) (H : AH) (cs : List AV) (a : List β), ESl y E F H cs a → cs.all AV.isCell = true := by
  rintro F H cs a ⟨v, rfl, h⟩
  simp [h.isCell]
end Go.AM
namespace Go.AM
def Kept (K : Nat → Prop) (l : Nat) (H1 H2 : AH) : Prop := H1.next ≤ H2.next ∧ ∀ b, b < H1.next → (K b ∨ l < b) → H2.get b = H1.get b
theorem Kept.refl {K : Nat → Prop} {l : Nat} {H : AH} : Kept K l H H := ⟨Nat.le_refl _, fun _ _ _ => rfl⟩
theorem Kept.trans {K : Nat → Prop} {l : Nat} {H1 H2 H3 : AH} (h : Kept K l H1 H2) (h' : Kept K l H2 H3) : Kept K l H1 H3 := ⟨Nat.le_trans h.1 h'.1, fun b hb hc => (h'.2 b (Nat.lt_of_lt_of_le hb h.1) hc).trans (h.2 b hb hc)⟩
def On (K : Nat → Prop) (M : Nat) (P : AH → Prop) : Prop := ∀ H1 H2 : AH, H1.next ≤ H2.next → (∀ b, ¬ K b → b < M → H2.get b = H1.get b) → P H1 → P H2
def AsgQ (prog : Nat → Option AFunc) (l : Nat) (bd : ACode) (Q : AExit → Env → AH → Prop) : AExit → Env → AH → Prop
  | .normal, e, H => ∃ L, H.get l = some (.loop L) ∧ L.state = .ready ∧ WpK prog bd e (H.set l (.loop { L with state := .busy })) [] Q
  | _, _, _ => False
def BodQ (P : AExit → AH → Prop) : AExit → Env → AH → Prop := fun x _ H => P x H
def BodE (x : Option AObj) (prog : Nat → Option AFunc) (l : Nat) (bd : ACode) (e : Env) (H : AH) (Q : AExit → Env → AH → Prop) : Prop := match x with
  | some (.loop L) => L.state = .ready ∧ WpK prog bd e (H.set l (.loop { L with state := .busy })) [] Q
  | _ => False
theorem K7 :
    (∀ {prog : Nat → Option AFunc} {l : Nat} {bd : ACode} {Q : AExit → Env → AH → Prop} {e : Env} {H : AH}, EndK prog .normal e H [] (AsgQ prog l bd Q) ↔ BodE (H.get l) prog l bd e H Q) ∧
    (∀ {prog : Nat → Option AFunc} {l : Nat} {bd : ACode} {Q : AExit → Env → AH → Prop} {e : Env} {H : AH} {L : ALoop}, BodE (some (.loop L)) prog l bd e H Q ↔ L.state = .ready ∧ WpK prog bd e (H.set l (.loop { L with state := .busy })) [] Q) ∧
    (∀ {prog : Nat → Option AFunc} {P : AExit → AH → Prop} {x : AExit} {e : Env} {H : AH}, EndK prog x e H [] (BodQ P) ↔ P x H) ∧
    (∀ {e : Env} {ts : List Nat} {vs : List AV} {t : Nat} {v : AV}, bindAll e (t :: ts) (v :: vs) = bindAll (e.put t v) ts vs) ∧
    (∀ {e : Env} {vs : List AV}, bindAll e [] vs = e) := by
  refine ⟨?_, Iff.rfl, Iff.rfl, rfl, ?_⟩
  · intro prog l bd Q e H
    constructor
    · rintro ⟨L, h1, h2, h3⟩
      unfold BodE; rw [h1]; exact ⟨h2, h3⟩
    · intro h
      unfold BodE at h
      split at h
      · rename_i L hL; exact ⟨L, hL, h⟩
      · exact h.elim
  · intro e vs; unfold bindAll; rfl
theorem K8 :
    (∀ {prog : Nat → Option AFunc} {l : Nat} {bd : ACode} {Q : AExit → Env → AH → Prop} {e : Env} {H : AH}, EndK prog .normal e H [] (AsgQ prog l bd Q) ↔ BodE (H.get l) prog l bd e H Q) ∧
    (∀ {prog : Nat → Option AFunc} {l : Nat} {bd : ACode} {Q : AExit → Env → AH → Prop} {e : Env} {H : AH} {L : ALoop}, BodE (some (.loop L)) prog l bd e H Q ↔ L.state = .ready ∧ WpK prog bd e (H.set l (.loop { L with state := .busy })) [] Q) ∧
    (∀ {e : Env} {ts : List Nat} {vs : List AV} {t : Nat} {v : AV}, bindAll e (t :: ts) (v :: vs) = bindAll (e.put t v) ts vs) ∧
    (∀ {e : Env} {vs : List AV}, bindAll e [] vs = e) := ⟨K7.1, K7.2.1, K7.2.2.2.1, K7.2.2.2.2⟩
theorem K_bod {prog : Nat → Option AFunc} {P : AExit → AH → Prop} {x : AExit} {e : Env} {H : AH} (h : P x H) : EndK prog x e H [] (BodQ P) := h
section
variable {prog : Nat → Option AFunc} {e : Env} {H : AH} {ks : List Kont} {Q : AExit → Env → AH → Prop}
theorem K_range {f : AOpd} {ps : List Nat} {as bd : ACode} {g : Nat} {fs cs : List AV} (hf : f.val e = some (.func g fs cs))
    (h : CallQ prog (.func g fs cs) [.yield H.next] (H.alloc (.loop { state := .ready, pending := .normal, env := e, params := ps, assign := as, body := bd })) fun _ H2 =>
      ∃ L, H2.get H.next = some (.loop L) ∧ L.state ≠ .busy ∧ EndK prog L.pending e (H2.set H.next (.loop { L with state := .over })) ks Q) : WpK prog (.range f ps as bd) e H ks Q := Wp_range hf h
end
end Go.AM
namespace Go.AM
def JoinQ (P : Env → AH → Prop) : AExit → Env → AH → Prop := fun x e H => x = .normal ∧ P e H
theorem C_join {prog : Nat → Option AFunc} {x : Option AV} {a b : ACode} {e : Env} {H : AH} {ks : List Kont} {Q : AExit → Env → AH → Prop} (P : Env → AH → Prop) (h1 : CondK prog x a b e H [] (JoinQ P)) (h2 : ∀ e' H', P e' H' → EndK prog .normal e' H' ks Q) : CondK prog x a b e H ks Q := by
  have key : ∀ {c : ACode}, WpK prog c e H [] (JoinQ P) → WpK prog c e H ks Q := fun {c} h => Wp.mono h fun x e' H' hx => by
    obtain ⟨rfl, hp⟩ := hx
    exact h2 e' H' hp
  unfold CondK at h1 ⊢
  split at h1
  · exact key h1
  · exact key h1
  · exact h1.elim
theorem K_joined {prog : Nat → Option AFunc} {P : Env → AH → Prop} {e : Env} {H : AH} (h : P e H) : EndK prog .normal e H [] (JoinQ P) := ⟨rfl, h⟩
end Go.AM
namespace Go.PL
open Go.AM Go.IntWalk
variable {H : AH} {R : AV → AH → Prop}
abbrev I (n : Int) : AV := .int .i64 n
def firstErr {α : Type} (f : Nat → α → Int) : Nat → List α → Option (Nat × Int)
  | _, [] => none
  | i, x :: xs => if f i x ≠ 0 then some (i, f i x) else firstErr f (i + 1) xs
theorem firstErr_some {α : Type} {f : Nat → α → Int} : ∀ {l : List α} {i k : Nat} (hk : k < l.length), (∀ j (hj : j < l.length), j < k → f (i + j) l[j] = 0) → f (i + k) l[k] ≠ 0 → firstErr f i l = some (i + k, f (i + k) l[k])
  | [], _, k, hk, _, _ => by simp at hk
  | x :: xs, i, 0, _, _, h => by
    simp only [firstErr]
    rw [if_pos (by simpa using h)]
    rfl
  | x :: xs, i, k + 1, hk, h0, h => by
    have h1 := h0 0 (by simp) (by omega)
    simp only [Nat.add_zero, List.getElem_cons_zero] at h1
    simp only [firstErr, h1]
    have h2 := firstErr_some (f := f) (l := xs) (i := i + 1) (k := k) (by simpa using hk) (fun j hj hjk => by
      have := h0 (j + 1) (by simp; omega) (by omega)
      rw [show i + 1 + j = i + (j + 1) from by omega]
      simpa using this) (by rw [show i + 1 + k = i + (k + 1) from by omega]; simpa using h)
    rw [show i + 1 + k = i + (k + 1) from by omega] at h2
    simpa using h2
theorem firstErr_none {α : Type} {f : Nat → α → Int} : ∀ {l : List α} {i : Nat}, (∀ j (hj : j < l.length), f (i + j) l[j] = 0) → firstErr f i l = none
  | [], _, _ => rfl
  | x :: xs, i, h => by
    have h1 := h 0 (by simp)
    simp only [Nat.add_zero, List.getElem_cons_zero] at h1
    simp only [firstErr, h1]
    have h2 := firstErr_none (f := f) (l := xs) (i := i + 1) (fun j hj => by
      have := h (j + 1) (by simp; omega)
      rw [show i + 1 + j = i + (j + 1) from by omega]
      simpa using this)
    simpa using h2
theorem firstErr_none' {α : Type} {f : Nat → α → Int} : ∀ {l : List α} {i : Nat}, firstErr f i l = none → ∀ j (hj : j < l.length), f (i + j) l[j] = 0
  | [], _, _, j, hj => by simp at hj
  | x :: xs, i, h, 0, _ => by
    simp only [firstErr] at h
    split at h
    · cases h
    · rename_i h0
      simpa using h0
  | x :: xs, i, h, j + 1, hj => by
    simp only [firstErr] at h
    split at h
    · cases h
    · have := firstErr_none' h j (by simpa using hj)
      rw [show i + (j + 1) = i + 1 + j from by omega]
      simpa using this
theorem firstErr_ne {α : Type} {f : Nat → α → Int} : ∀ {l : List α} {i n : Nat} {e : Int}, firstErr f i l = some (n, e) → e ≠ 0
  | [], _, _, _, h => by simp [firstErr] at h
  | x :: xs, i, n, e, h => by
    simp only [firstErr] at h
    split at h
    · rename_i h0
      simp only [Option.some.injEq, Prod.mk.injEq] at h
      rw [← h.2]; exact h0
    · exact firstErr_ne h
def join (s x : Int × Int) : Int × Int := (min x.1 s.1, max x.2 s.2)
def hullFrom (s : Int × Int) (l : List (Int × Int)) : Int × Int := l.foldl join s
def hull : List (Int × Int) → Int × Int
  | [] => (9223372036854775807, -1)
  | x :: xs => hullFrom x xs
def getI (l : List Int) (k : Nat) : Int := l.getD k 0
theorem getI_eq {l : List Int} {k : Nat} (h : k < l.length) : getI l k = l[k] := by
  simp [getI, h]
theorem map_take_succ {α β : Type} {f : α → β} {l : List α} {k : Nat} (hk : k < l.length) : (l.take (k + 1)).map f = (l.take k).map f ++ [f l[k]] := by
  rw [List.take_succ_eq_append_getElem hk, List.map_append]; rfl
def upTo (lo hi : Int) : List Int := (List.range (hi + 1 - lo).toNat).map fun (i : Nat) => lo + (i : Int)
theorem mem_upTo {lo hi n : Int} : n ∈ upTo lo hi ↔ lo ≤ n ∧ n ≤ hi := by
  simp only [upTo, List.mem_map, List.mem_range]
  constructor
  · rintro ⟨i, h, rfl⟩; omega
  · intro h; exact ⟨(n - lo).toNat, by omega, by omega⟩
theorem all_range_succ {p : Nat → Bool} {n : Nat} : (List.range (n + 1)).all p = ((List.range n).all p && p n) := by
  rw [List.range_succ, List.all_append]; simp
theorem all_range_le {p : Nat → Bool} {n m : Nat} (h : n ≤ m) (hp : (List.range n).all p = false) : (List.range m).all p = false := by
  rw [Bool.eq_false_iff] at hp ⊢
  intro hm
  apply hp
  rw [List.all_eq_true] at hm ⊢
  intro x hx
  exact hm x (by simp at hx ⊢; omega)
theorem any_take_succ {α : Type} {p : α → Bool} {l : List α} {k : Nat} (hk : k < l.length) : (l.take (k + 1)).any p = ((l.take k).any p || p l[k]) := by
  rw [List.take_succ_eq_append_getElem hk, List.any_append]; simp
def firstOf (o : List Int) (i : Nat) : Int := if 0 < i then getI o (i - 1) + 1 else 0
def choRow (o : List Int) (i : Nat) (hi : Int) : List (List Int) := (upTo (firstOf o i) hi).map fun f => o ++ [f]
def choStep (below : Nat) (out : List (List Int)) (i : Nat) : List (List Int) := out.flatMap fun o => choRow o i ((below : Int) - 1)
def choicesE (below many : Nat) : List (List Int) := (List.range many).foldl (choStep below) [[]]
theorem choicesE_succ {n m : Nat} : choicesE n (m + 1) = choStep n (choicesE n m) m := by
  simp only [choicesE, List.range_succ, List.foldl_append, List.foldl_cons, List.foldl_nil]
theorem mem_choStep {n m : Nat} {out : List (List Int)} {x : List Int} : x ∈ choStep n out m ↔ ∃ o ∈ out, ∃ f, firstOf o m ≤ f ∧ f ≤ (n : Int) - 1 ∧ x = o ++ [f] := by
  simp only [choStep, choRow, List.mem_flatMap, List.mem_map, mem_upTo]
  constructor
  · rintro ⟨o, ho, f, hf, rfl⟩; exact ⟨o, ho, f, hf.1, hf.2, rfl⟩
  · rintro ⟨o, ho, f, h1, h2, rfl⟩; exact ⟨o, ho, f, ⟨h1, h2⟩, rfl⟩
theorem choicesE_mem {n : Nat} : ∀ {m : Nat} {o : List Int}, o ∈ choicesE n m → o.length = m ∧ ∀ f ∈ o, 0 ≤ f ∧ f < n
  | 0, o, h => by
    have : o = [] := by simpa [choicesE] using h
    subst this; simp
  | m + 1, x, h => by
    rw [choicesE_succ] at h
    obtain ⟨o, ho, f, h1, h2, rfl⟩ := mem_choStep.1 h
    obtain ⟨h3, h4⟩ := choicesE_mem ho
    have h5 : 0 ≤ firstOf o m := by
      unfold firstOf
      split
      · rename_i hm
        rw [getI_eq (by omega)]
        have := h4 _ (List.getElem_mem (l := o) (n := m - 1) (by omega))
        omega
      · omega
    refine ⟨by simp [h3], fun f' hf' => ?_⟩
    rcases List.mem_append.1 hf' with h | h
    · exact h4 _ h
    · simp only [List.mem_singleton] at h; omega
theorem shl_one (v : Int) (h : 0 ≤ v ∧ v < 62) : binA .shl (I 1) (I v) = some (I (2 ^ v.toNat : Nat)) := by
  have h1 : ¬ v < 0 := by omega
  have h2 : min (v.toNat) IntKind.i64.bits = v.toNat := by simp only [IntKind.bits]; omega
  show (if v < 0 then none else some (I (IntKind.i64.wrap (1 * 2 ^ (min v.toNat IntKind.i64.bits))))) = _
  rw [if_neg h1, h2]
  have h3 : (1 : Int) * 2 ^ v.toNat = ((2 ^ v.toNat : Nat) : Int) := by simp
  have h4 : 2 ^ v.toNat < 2 ^ 62 := Nat.pow_lt_pow_right (by omega) (by omega)
  rw [h3]
  generalize 2 ^ v.toNat = y at h4 ⊢
  rw [i64_in _ (by omega)]
theorem repeatL_length (n : Nat) : (repeatL [I 0] n).length = n := by
  induction n with
  | zero => rfl
  | succ n ih => simp [repeatL, ih]
theorem write_all : ∀ (vs xs : List AV), vs.length = xs.length → writeN vs 0 xs = some xs
  | [], [], _ => rfl
  | v :: vs, x :: xs, h => by
    simp only [writeN, write_all vs xs (by simpa using h), Option.map_some]
  | [], _ :: _, h => by simp at h
  | _ :: _, [], h => by simp at h
theorem ints_rows {F : Nat → Prop} {H : AH} : ∀ (l : List Int), Go.AM.Rows 1 (EInt F H) (l.map I) l
  | [] => .nil
  | x :: l => .cons (cs := [I x]) rfl rfl (ints_rows l)
theorem eqs2 (a b : Int) : eqFlatA true [.i, .i] (.agg [I a, I b]) (.agg [I a, I b]) = some true := by simp [eqFlatA, eqCells]
theorem hull_fold : ∀ {l : List (Int × Int)} {s : Int × Int}, (∀ x ∈ l, (hullFrom s l).1 ≤ x.1 ∧ x.2 ≤ (hullFrom s l).2) ∧ (hullFrom s l).1 ≤ s.1 ∧ s.2 ≤ (hullFrom s l).2 ∧
    ((hullFrom s l).1 = s.1 ∨ ∃ x ∈ l, (hullFrom s l).1 = x.1) ∧ ((hullFrom s l).2 = s.2 ∨ ∃ x ∈ l, (hullFrom s l).2 = x.2)
  | [], s => ⟨fun _ h => (List.not_mem_nil h).elim, Int.le_refl _, Int.le_refl _, .inl rfl, .inl rfl⟩
  | y :: l, s => by
    obtain ⟨h1, h2, h3, h4, h5⟩ := hull_fold (l := l) (s := join s y)
    have e : hullFrom s (y :: l) = hullFrom (join s y) l := rfl
    rw [e]
    generalize hullFrom (join s y) l = q at *
    have j1 : (join s y).1 = min y.1 s.1 := rfl
    have j2 : (join s y).2 = max y.2 s.2 := rfl
    rw [j1] at h2 h4
    rw [j2] at h3 h5
    have k1 : q.1 ≤ y.1 ∧ q.1 ≤ s.1 ∧ y.2 ≤ q.2 ∧ s.2 ≤ q.2 := by clear h4 h5; omega
    refine ⟨fun x hx => ?_, k1.2.1, k1.2.2.2, ?_, ?_⟩
    · rcases List.mem_cons.1 hx with rfl | hx
      · exact ⟨k1.1, k1.2.2.1⟩
      · exact h1 x hx
    · clear h5
      rcases h4 with h4 | ⟨x, hx, h4⟩
      · by_cases hm : y.1 ≤ s.1
        · exact .inr ⟨y, by simp, by omega⟩
        · exact .inl (by omega)
      · exact .inr ⟨x, by simp [hx], h4⟩
    · clear h4
      rcases h5 with h5 | ⟨x, hx, h5⟩
      · by_cases hm : s.2 ≤ y.2
        · exact .inr ⟨y, by simp, by omega⟩
        · exact .inl (by omega)
      · exact .inr ⟨x, by simp [hx], h5⟩
theorem hull_spec {l : List (Int × Int)} (h0 : l ≠ []) : (∀ x ∈ l, (hull l).1 ≤ x.1 ∧ x.2 ≤ (hull l).2) ∧ (∃ x ∈ l, (hull l).1 = x.1) ∧ (∃ x ∈ l, (hull l).2 = x.2) := by
  cases l with
  | nil => exact absurd rfl h0
  | cons y l =>
    obtain ⟨h1, h2, h3, h4, h5⟩ := hull_fold (l := l) (s := y)
    have e : hull (y :: l) = hullFrom y l := rfl
    rw [e]
    refine ⟨fun x hx => ?_, ?_, ?_⟩
    · rcases List.mem_cons.1 hx with rfl | hx
      · exact ⟨h2, h3⟩
      · exact h1 x hx
    · rcases h4 with h4 | ⟨x, hx, h4⟩
      · exact ⟨y, by simp, h4⟩
      · exact ⟨x, by simp [hx], h4⟩
    · rcases h5 with h5 | ⟨x, hx, h5⟩
      · exact ⟨y, by simp, h5⟩
      · exact ⟨x, by simp [hx], h5⟩
theorem eqs_ne {p q : Int × Int} (hn : p ≠ q) : eqFlatA true [.i, .i] (.agg [I p.1, I p.2]) (.agg [I q.1, I q.2]) = some false := by
  have : ¬ (p.1 = q.1 ∧ p.2 = q.2) := fun h => hn (Prod.ext h.1 h.2)
  simp only [eqFlatA, eqCells, if_true, Option.map_some, Option.some.injEq, Bool.and_true]
  by_cases h1 : p.1 = q.1
  · by_cases h2 : p.2 = q.2
    · exact absurd ⟨h1, h2⟩ this
    · simp [h2]
  · simp [h1]
def EK (kd : IntKind) : Elem Int := fun _ _ cs n => cs = [.int kd n]
theorem EK.stays {kd : IntKind} : Stays (EK kd) := fun _ _ _ _ _ _ _ h => h
theorem eqb (a b : Bool) : eqFlatA false [.b] (.bool a) (.bool b) = some (a == b) := by simp [eqFlatA, eqCells]
end Go.PL
namespace Go.Proofs.Ytihahmggfjjkjaa
open Go.AM Go.IntWalk Go.PL
set_option maxRecDepth 100000
set_option maxHeartbeats 4000000
set_option linter.unusedSimpArgs false
variable {H : AH} {R : AV → AH → Prop}
theorem In_run (n lo hi : Int) (h : R (.bool (decide (lo ≤ n) && decide (n ≤ hi))) H) : CallQ prog (.func 49 [] []) [I n, I lo, I hi] H R := by
  by_cases hc : lo ≤ n
  · refine CallQ_enter (fn:=c49) rfl (Nat.le_of_ble_eq_true rfl) ?_;simp(maxSteps:=9999999)(disch:=first|omega|(simp only[AN];omega))only[c49,envFrom,hc,↓KP,EN,↓reduceIte,reduceCtorEq,Nat.reduceEqDiff,Nat.reduceAdd,Nat.reduceLeDiff,Nat.reduceMul]
    simpa [hc] using h
  · refine CallQ_enter (fn:=c49) rfl (Nat.le_of_ble_eq_true rfl) ?_;simp(maxSteps:=9999999)(disch:=first|omega|(simp only[AN];omega))only[c49,envFrom,hc,↓KP,EN,↓reduceIte,reduceCtorEq,Nat.reduceEqDiff,Nat.reduceAdd,Nat.reduceLeDiff,Nat.reduceMul]
    simpa [hc] using h
def endsE (a b lo hi : Int) : Int :=
  if lo ≤ a ∧ a ≤ hi ∧ lo ≤ b ∧ b ≤ hi then (if b < a then 2 else 0) else 7
theorem Ends_run (a b lo hi : Int) (h : ∀ H', Grew H H' → R (I (endsE a b lo hi)) H') : CallQ prog (.func 58 [] []) [.agg [I a, I b], I lo, I hi] H R := by
  refine CallQ_enter (fn:=c58) rfl (Nat.le_of_ble_eq_true rfl) ?_;simp(maxSteps:=9999999)(disch:=first|omega|(simp only[AN];omega))only[c58,envFrom,↓KP,EN,↓reduceIte,reduceCtorEq,Nat.reduceEqDiff,Nat.reduceAdd,Nat.reduceLeDiff,Nat.reduceMul]
  refine C_call (In_run _ _ _ ?_)
  cases h1 : (decide (lo ≤ a) && decide (a ≤ hi)) with
  | false =>
    simp(maxSteps:=9999999)(disch:=first|omega|(simp only[AN];omega))only[↓KP,EN,↓reduceIte,reduceCtorEq,Nat.reduceEqDiff,Nat.reduceAdd,Nat.reduceLeDiff,Nat.reduceMul]
    have : endsE a b lo hi = 7 := by
      simp only [Bool.and_eq_false_iff, decide_eq_false_iff_not] at h1
      rw [endsE, if_neg (by omega)]
    rw [this] at h
    refine h _ ?_
    exact GW
  | true =>
    simp(maxSteps:=9999999)(disch:=first|omega|(simp only[AN];omega))only[↓KP,EN,↓reduceIte,reduceCtorEq,Nat.reduceEqDiff,Nat.reduceAdd,Nat.reduceLeDiff,Nat.reduceMul]
    refine C_call (In_run _ _ _ ?_)
    simp only [Bool.and_eq_true, decide_eq_true_eq] at h1
    cases h2 : (decide (lo ≤ b) && decide (b ≤ hi)) with
    | false =>
      simp(maxSteps:=9999999)(disch:=first|omega|(simp only[AN];omega))only[↓KP,EN,↓reduceIte,reduceCtorEq,Nat.reduceEqDiff,Nat.reduceAdd,Nat.reduceLeDiff,Nat.reduceMul]
      have : endsE a b lo hi = 7 := by
        simp only [Bool.and_eq_false_iff, decide_eq_false_iff_not] at h2
        rw [endsE, if_neg (by omega)]
      rw [this] at h
      refine h _ ?_
      exact GW
    | true =>
      simp(maxSteps:=9999999)(disch:=first|omega|(simp only[AN];omega))only[↓KP,EN,↓reduceIte,reduceCtorEq,Nat.reduceEqDiff,Nat.reduceAdd,Nat.reduceLeDiff,Nat.reduceMul]
      simp only [Bool.and_eq_true, decide_eq_true_eq] at h2
      have h3 : lo ≤ a ∧ a ≤ hi ∧ lo ≤ b ∧ b ≤ hi := by omega
      refine C_decide (fun hc => ?_) (fun hc => ?_)
      · simp(maxSteps:=9999999)(disch:=first|omega|(simp only[AN];omega))only[↓KP,EN,↓reduceIte,reduceCtorEq,Nat.reduceEqDiff,Nat.reduceAdd,Nat.reduceLeDiff,Nat.reduceMul]
        rw [endsE, if_pos h3, if_pos hc] at h
        refine h _ ?_
        exact GW
      · simp(maxSteps:=9999999)(disch:=first|omega|(simp only[AN];omega))only[↓KP,EN,↓reduceIte,reduceCtorEq,Nat.reduceEqDiff,Nat.reduceAdd,Nat.reduceLeDiff,Nat.reduceMul]
        rw [endsE, if_pos h3, if_neg hc] at h
        refine h _ ?_
        exact GW
theorem Ints_run (v w : AV) (l m : List Int) (hv : IsInts (Old H) H v l) (hw : IsInts (Old H) H w m) (hl : l.length < 9000000000000000000) (k : R (.bool (decide (l = m))) H) : CallQ prog (.func 34 [] []) [v, w] H R := by
  by_cases hlen : l.length = m.length
  · have hlen' : (l.length : Int) = m.length := by omega
    refine CallQ_enter (fn:=c34) rfl (Nat.le_of_ble_eq_true rfl) ?_;simp(maxSteps:=9999999)(disch:=first|omega|(simp only[AN];omega))only[c34,envFrom,hv.len,hw.len,hlen',↓KP,EN,↓reduceIte,reduceCtorEq,Nat.reduceEqDiff,Nat.reduceAdd,Nat.reduceLeDiff,Nat.reduceMul]
    refine K_loop (fun mz ez H1 => ∃ (i : Nat) (b : Bool) (tail : Env), ez = (0, v) :: (1, w) :: (4, .bool false) :: (5, .bool b) :: (6, I i) :: tail ∧ (H1 = H) ∧ (i ≤ m.length) ∧ (b = decide (l.take i = m.take i)) ∧ (b = false → l ≠ m) ∧ mz = m.length - i) _ ⟨0, true, _, rfl, ?_, ?_, ?_, (by intro h; cases h), rfl⟩ ?_
    iterate 3 (focus (first|(with_reducible rfl)|omega|(with_reducible(repeat first|exact Grew.refl _|assumption|apply Grew.alloc|refine Grew.set ?_ _ (by first|omega|(simp only[AN];omega)));done)|(simp(maxSteps:=9999999)(disch:=first|omega|(simp only[AN];omega))only[↓KP,EN,↓reduceIte,reduceCtorEq,Nat.reduceEqDiff,Nat.reduceAdd,Nat.reduceLeDiff,Nat.reduceMul]<;>first|omega|rfl)|(simp;done)|rfl))
    rintro mz ez H1 ⟨i, b, tail, rfl, hH, hi, hb, hb2, hmz⟩; subst mz
    subst H1
    have done : ∀ {b : Bool}, b = decide (l = m) → R (.bool b) H := fun h => by rw [h]; exact k
    cases b with
    | false =>
      simp(maxSteps:=9999999)(disch:=first|omega|(simp only[AN];omega))only[↓KP,EN,↓reduceIte,reduceCtorEq,Nat.reduceEqDiff,Nat.reduceAdd,Nat.reduceLeDiff,Nat.reduceMul]
      exact done (decide_eq_false (hb2 rfl)).symm
    | true =>
      simp(maxSteps:=9999999)(disch:=first|omega|(simp only[AN];omega))only[hv.len,hlen',↓KP,EN,↓reduceIte,reduceCtorEq,Nat.reduceEqDiff,Nat.reduceAdd,Nat.reduceLeDiff,Nat.reduceMul]
      refine C_decide (fun hc => ?_) (fun hc => ?_)
      · have hi' : i < m.length := by omega
        have hi'' : i < l.length := by omega
        obtain ⟨p_b, p_i, p_ro, p_vs, p_lt, p⟩ := hv.rdInt (k := i) rfl hi''
        obtain ⟨q_b, q_i, q_ro, q_vs, q_lt, q⟩ := hw.rdInt (k := i) rfl hi'
        have e1 : IntKind.i64.wrap ((i : Int) + 1) = ((i + 1 : Nat) : Int) := i64_in _ (by omega)
        simp(maxSteps:=9999999)(disch:=first|omega|(simp only[AN];omega))only[↓KP,EN,↓reduceIte,reduceCtorEq,Nat.reduceEqDiff,Nat.reduceAdd,Nat.reduceLeDiff,Nat.reduceMul]
        refine K_draw ?_;simp(maxSteps:=9999999)(disch:=first|omega|(simp only[AN];omega))only[p,q,e1,↓KP,EN,↓reduceIte,reduceCtorEq,Nat.reduceEqDiff,Nat.reduceAdd,Nat.reduceLeDiff,Nat.reduceMul]
        simp only [true_eq_decide_iff] at hb
        have hnew : decide (l[i] = m[i]) = decide (l.take (i + 1) = m.take (i + 1)) := by
          rw [List.take_succ_eq_append_getElem hi', List.take_succ_eq_append_getElem hi'', hb, decide_eq_decide]
          exact ⟨fun e => by rw [e], fun e => by have := List.append_cancel_left e; simpa using this⟩
        exact ⟨_, by omega, i + 1, _, _, rfl, (by first|omega|(with_reducible assumption)|(with_reducible(repeat first|exact Grew.refl _|assumption|apply Grew.alloc|refine Grew.set ?_ _ (by first|omega|(simp only[AN];omega)));done)|(simp(maxSteps:=9999999)(disch:=first|omega|(simp only[AN];omega))only[↓KP,EN,↓reduceIte,reduceCtorEq,Nat.reduceEqDiff,Nat.reduceAdd,Nat.reduceLeDiff,Nat.reduceMul]<;>first|omega|rfl)), (by first|omega|(with_reducible assumption)|(with_reducible(repeat first|exact Grew.refl _|assumption|apply Grew.alloc|refine Grew.set ?_ _ (by first|omega|(simp only[AN];omega)));done)|(simp(maxSteps:=9999999)(disch:=first|omega|(simp only[AN];omega))only[↓KP,EN,↓reduceIte,reduceCtorEq,Nat.reduceEqDiff,Nat.reduceAdd,Nat.reduceLeDiff,Nat.reduceMul]<;>first|omega|rfl)), (by exact hnew), (by intro h e; subst e; simp at h), rfl⟩
      · have hie : i = m.length := by omega
        subst hie
        rw [List.take_length, List.take_of_length_le (by omega)] at hb
        simp(maxSteps:=9999999)(disch:=first|omega|(simp only[AN];omega))only[↓KP,EN,↓reduceIte,reduceCtorEq,Nat.reduceEqDiff,Nat.reduceAdd,Nat.reduceLeDiff,Nat.reduceMul]
        exact done hb
  · have hlen' : ¬ (l.length : Int) = m.length := by omega
    refine CallQ_enter (fn:=c34) rfl (Nat.le_of_ble_eq_true rfl) ?_;simp(maxSteps:=9999999)(disch:=first|omega|(simp only[AN];omega))only[c34,envFrom,hv.len,hw.len,hlen',↓KP,EN,↓reduceIte,reduceCtorEq,Nat.reduceEqDiff,Nat.reduceAdd,Nat.reduceLeDiff,Nat.reduceMul]
    refine K_loop (fun m e H' => e = [(0, v), (1, w), (4, .bool false), (5, .bool false), (6, I 0)] ∧ H' = H) 0 ⟨rfl, rfl⟩ ?_
    rintro _ e H' ⟨rfl, rfl⟩
    simp(maxSteps:=9999999)(disch:=first|omega|(simp only[AN];omega))only[↓KP,EN,↓reduceIte,reduceCtorEq,Nat.reduceEqDiff,Nat.reduceAdd,Nat.reduceLeDiff,Nat.reduceMul]
    have : decide (l = m) = false := by rw [decide_eq_false_iff_not]; intro e; exact hlen (by rw [e])
    rw [this] at k
    exact k
theorem Bit_run (bits at_ : Nat) (h1 : bits < 1000000000) (h2 : at_ < 1000000000) (k : R (.bool (bits.testBit at_)) H) : CallQ prog (.func 43 [] []) [I bits, I at_] H R := by
  refine CallQ_enter (fn:=c43) rfl (Nat.le_of_ble_eq_true rfl) ?_;simp(maxSteps:=9999999)(disch:=first|omega|(simp only[AN];omega))only[c43,envFrom,↓KP,EN,↓reduceIte,reduceCtorEq,Nat.reduceEqDiff,Nat.reduceAdd,Nat.reduceLeDiff,Nat.reduceMul]
  refine K_loop (fun mz ez H1 => ∃ (b n : Nat) (tail : Env), ez = (0, I b) :: (1, I n) :: (4, .bool false) :: tail ∧ (H1 = H) ∧ (b ≤ bits) ∧ (n ≤ at_) ∧ (b.testBit n = bits.testBit at_) ∧ mz = n) _ ⟨bits, at_, _, rfl, ?_, ?_, ?_, ?_, rfl⟩ ?_
  iterate 4 (focus (first|(with_reducible rfl)|omega|(with_reducible(repeat first|exact Grew.refl _|assumption|apply Grew.alloc|refine Grew.set ?_ _ (by first|omega|(simp only[AN];omega)));done)|(simp(maxSteps:=9999999)(disch:=first|omega|(simp only[AN];omega))only[↓KP,EN,↓reduceIte,reduceCtorEq,Nat.reduceEqDiff,Nat.reduceAdd,Nat.reduceLeDiff,Nat.reduceMul]<;>first|omega|rfl)|(simp;done)|rfl))
  rintro mz ez H1 ⟨b, n, tail, rfl, hH, hb, hn, ht, hmz⟩; subst mz
  subst H1
  simp(maxSteps:=9999999)(disch:=first|omega|(simp only[AN];omega))only[↓KP,EN,↓reduceIte,reduceCtorEq,Nat.reduceEqDiff,Nat.reduceAdd,Nat.reduceLeDiff,Nat.reduceMul]
  refine C_decide (fun hc => ?_) (fun hc => ?_)
  · have e1 : IntKind.i64.wrap ((n : Int) - 1) = ((n - 1 : Nat) : Int) := by rw [i64_in _ (by omega)]; omega
    have e2 : IntKind.i64.wrap (Int.tdiv (b : Int) 2) = ((b / 2 : Nat) : Int) := by
      rw [Int.tdiv_eq_ediv_of_nonneg (by omega), i64_in _ (by omega)]; omega
    have e20 : ¬ (2 : Int) = 0 := by decide
    simp(maxSteps:=9999999)(disch:=first|omega|(simp only[AN];omega))only[e1,e2,e20,↓KP,EN,↓reduceIte,reduceCtorEq,Nat.reduceEqDiff,Nat.reduceAdd,Nat.reduceLeDiff,Nat.reduceMul]
    refine ⟨_, ?_, b / 2, n - 1, _, rfl, ?_, ?_, ?_, (by rw [← ht, Nat.testBit_div_two]; congr 1; omega), rfl⟩ <;> (first|omega|(with_reducible assumption)|(with_reducible(repeat first|exact Grew.refl _|assumption|apply Grew.alloc|refine Grew.set ?_ _ (by first|omega|(simp only[AN];omega)));done)|(simp(maxSteps:=9999999)(disch:=first|omega|(simp only[AN];omega))only[↓KP,EN,↓reduceIte,reduceCtorEq,Nat.reduceEqDiff,Nat.reduceAdd,Nat.reduceLeDiff,Nat.reduceMul]<;>first|omega|rfl))
  · obtain rfl : n = 0 := by omega
    have e3 : Int.tmod (b : Int) 2 = ((b % 2 : Nat) : Int) := by rw [Int.tmod_eq_emod_of_nonneg (by omega)]; omega
    have : decide (((b % 2 : Nat) : Int) = 1) = bits.testBit at_ := by
      rw [← ht, Nat.testBit_zero]
      exact decide_eq_decide.2 (by omega)
    rw [← this] at k
    have e20 : ¬ (2 : Int) = 0 := by decide
    simp(maxSteps:=9999999)(disch:=first|omega|(simp only[AN];omega))only[e3,e20,↓KP,EN,↓reduceIte,reduceCtorEq,Nat.reduceEqDiff,Nat.reduceAdd,Nat.reduceLeDiff,Nat.reduceMul]
    exact k
end Go.Proofs.Ytihahmggfjjkjaa
namespace Go.Proofs.Ytihahmggfjjkjaa
open Go.AM Go.IntWalk Go.PL
structure Series where
  looked : List Bool
  lo : Int
  hi : Int
  groups : List Int
  unseen : Bool
  filled : List (Int × Int)
  deriving DecidableEq
def Series.len (s : Series) : Nat := s.looked.length
def lk (s : Series) (d : Nat) : Bool := s.looked.getD d false
def bitI (b : Int) (d : Nat) : Bool := b.toNat.testBit d
def lastE (s : Series) : Int := if endsE s.lo s.hi 1 8 ≠ 0 then endsE s.lo s.hi 1 8 else if 2 < s.hi - s.lo then 2 else 0
def groupE (s : Series) (_ : Nat) (b : Int) : Int := if ¬ (1 ≤ b ∧ b ≤ ((2 ^ s.len : Nat) : Int) - 1) then 4 else if (List.range s.len).any (fun d => bitI b d && !lk s d) then 2 else 0
def filledE (s : Series) (i : Nat) (f : Int × Int) : Int :=
  if ¬ (0 ≤ f.1 ∧ f.1 ≤ (s.len : Int) - 1) then 4 else if lk s f.1.toNat then 2 else if (s.filled.take i).any (fun x => decide (x.1 = f.1)) then 5 else if 0 ≤ f.2 ∧ f.2 ≤ 4 then 0 else 7
def checkF (s : Series) : Int × Int × Int :=
  if 4 < s.filled.length then (4, 0, 3) else match firstErr (filledE s) 0 s.filled with
  | some (i, e) => (4, i, e)
  | none => (0, 0, 0)
def checkG (s : Series) : Int × Int × Int :=
  if 3 < s.groups.length then (3, 0, 3) else match firstErr (groupE s) 0 s.groups with
  | some (i, e) => (3, i, e)
  | none => checkF s
def checkE (s : Series) : Int × Int × Int :=
  if ¬ (1 ≤ s.len ∧ s.len ≤ 8) then (1, 0, 3) else if lastE s ≠ 0 then (2, 0, lastE s) else checkG s
def errE (s : Series) : Int := (checkE s).2.2
def fits (s : Series) (bits : Int) (lo hi : Nat) : Bool :=
  (decide (s.lo ≤ (hi : Int) - lo + 1) && decide ((hi : Int) - lo + 1 ≤ s.hi)) && (List.range s.len).all fun d => !lk s d || ((decide (lo ≤ d) && decide (d ≤ hi)) == bitI bits d)
def staysRow (s : Series) (bits : Int) (lo m : Nat) : List (Int × Int) := (List.range m).filterMap fun (hi : Nat) => if lo ≤ hi ∧ fits s bits lo hi = true then some ((lo : Int), (hi : Int)) else none
def staysTo (s : Series) (bits : Int) (n : Nat) : List (Int × Int) := (List.range n).flatMap fun lo => staysRow s bits lo s.len
def staysE (s : Series) (bits : Int) : List (Int × Int) := staysTo s bits s.len
abbrev Truth := List (Int × Int) × Option (Int × Int)
def gStep (s : Series) (out : List (List (Int × Int))) (b : Int) : List (List (Int × Int)) := out.flatMap fun o => (staysE s b).map fun x => o ++ [x]
def gAll (s : Series) : List (List (Int × Int)) := s.groups.foldl (gStep s) [[]]
def moreE (s : Series) : List (Option (Int × Int)) := none :: (if s.unseen then (staysE s 0).map some else [])
def allE (s : Series) : List Truth := (gAll s).flatMap fun g => (moreE s).map fun m => (g, m)
def inS (d : Int) (x : Int × Int) : Bool := decide (x.1 ≤ d) && decide (d ≤ x.2)
def onE (t : Truth) (d : Int) : Int := ((t.1 ++ t.2.toList).countP (inS d) : Nat)
def soE (s : Series) (but : List Int) (t : Truth) : Bool := (List.range s.filled.length).all fun k => decide ((k : Int) ∈ but) || decide (onE t (s.filled.getD k (0, 0)).1 = (s.filled.getD k (0, 0)).2)
def truthsE (s : Series) (but : List Int) : List Truth := (allE s).filter (soE s but)
def EB : Elem Bool := fun _ _ cs b => cs = [.bool b]
theorem EB.stays : Stays EB := fun _ _ _ _ _ _ _ h => h
def EP : Elem (Int × Int) := fun _ _ cs p => cs = [I p.1, I p.2]
theorem EP.stays : Stays EP := fun _ _ _ _ _ _ _ h => h
theorem EP.isCell (F : Nat → Prop) (H : AH) (cs : List AV) (p : Int × Int) (h : EP F H cs p) : cs.all AV.isCell = true := by
  obtain rfl : cs = _ := h; rfl
abbrev serArg (vl vg vf : AV) (s : Series) : AV := .agg [vl, I s.lo, I s.hi, vg, .bool s.unseen, vf]
structure IsSer (F : Nat → Prop) (H : AH) (vl vg vf : AV) (s : Series) : Prop where
  l : IsSl 1 EB F H vl s.looked
  g : IsSl 1 EInt F H vg s.groups
  f : IsSl 2 EP F H vf s.filled
theorem IsSer.move {F F' : Nat → Prop} {H H' : AH} {vl vg vf : AV} {s : Series} (hk : Keeps F F' H H') (h : IsSer F H vl vg vf s) : IsSer F' H' vl vg vf s := ⟨h.l.move EB.stays hk, h.g.move EInt.stays hk, h.f.move EP.stays hk⟩
theorem IsSer.grow {H H' : AH} {vl vg vf : AV} {s : Series} (hg : Grew H H') (h : IsSer (Old H) H vl vg vf s) : IsSer (Old H') H' vl vg vf s := h.move hg.keeps
theorem rdB {H : AH} {v : AV} {l : List Bool} (h : IsSl 1 EB (Old H) H v l) {n : Int} {k : Nat} (hn : n = k) (hk : k < l.length) : ∃ b i ro vs, b < H.next ∧
    ((∀ S, opIdxSl 1 v (.int .i64 n) S = some (.ptr b i, S)) ∧ H.get b = some (.cells ro vs) ∧ vs[i]? = some (.bool l[k])) := by
  obtain ⟨b, i, ro, vs, cs, h1, h2, rfl, ⟨h4, h5, _, _⟩, h6⟩ := h.rd hn hk
  exact ⟨b, i, ro, vs, h1, h4, h5, by simpa using h6 0 (by omega)⟩
theorem rdP {H : AH} {v : AV} {l : List (Int × Int)} (h : IsSl 2 EP (Old H) H v l) {n : Int} {k : Nat} (hn : n = k) (hk : k < l.length) : ∃ b i ro vs, b < H.next ∧
    ((∀ S, opIdxSl 2 v (.int .i64 n) S = some (.ptr b i, S)) ∧ H.get b = some (.cells ro vs) ∧ (i + 2 ≤ vs.length) ∧ (vs.drop i).take 2 = [I l[k].1, I l[k].2] ∧ vs[i]? = some (I l[k].1) ∧ vs[i + 1]? = some (I l[k].2)) := by
  obtain ⟨b, i, ro, vs, cs, h1, h2, rfl, ⟨h4, h5, h6, h7⟩, h8⟩ := h.rd hn hk
  exact ⟨b, i, ro, vs, h1, h4, h5, h6, h7, by simpa using h8 0 (by omega), by simpa using h8 1 (by omega)⟩
structure Fine (s : Series) : Prop where
  len : 1 ≤ s.len ∧ s.len ≤ 8
  last : 1 ≤ s.lo ∧ s.lo ≤ s.hi ∧ s.hi ≤ 8 ∧ s.hi - s.lo ≤ 2
  gl : s.groups.length ≤ 3
  g : ∀ b ∈ s.groups, 1 ≤ b ∧ b ≤ ((2 ^ s.len : Nat) : Int) - 1
  fl : s.filled.length ≤ 4
  f : ∀ x ∈ s.filled, (0 ≤ x.1 ∧ x.1 < s.len) ∧ 0 ≤ x.2 ∧ x.2 ≤ 4
structure Sized (s : Series) : Prop where
  l : s.looked.length ≤ 9223372036854775807
  g : s.groups.length ≤ 9223372036854775807
  f : s.filled.length ≤ 9223372036854775807
  lo : IntKind.i64.min ≤ s.lo ∧ s.lo ≤ IntKind.i64.max
  hi : IntKind.i64.min ≤ s.hi ∧ s.hi ≤ IntKind.i64.max
end Go.Proofs.Ytihahmggfjjkjaa
namespace Go.Proofs.Ytihahmggfjjkjaa
open Go.AM Go.IntWalk Go.PL
set_option maxRecDepth 100000
set_option maxHeartbeats 4000000
set_option linter.unusedSimpArgs false
variable {H : AH} {R : AV → AH → Prop}
theorem all_run (n : Nat) (hn : n ≤ 8) (k : R (I (((2 ^ n : Nat) : Int) - 1)) H) : CallQ prog (.func 85 [] []) [I n] H R := by
  refine CallQ_enter (fn:=c85) rfl (Nat.le_of_ble_eq_true rfl) ?_;simp(maxSteps:=9999999)(disch:=first|omega|(simp only[AN];omega))only[c85,envFrom,↓KP,EN,↓reduceIte,reduceCtorEq,Nat.reduceEqDiff,Nat.reduceAdd,Nat.reduceLeDiff,Nat.reduceMul]
  refine K_loop (fun mz ez H1 => ∃ (i : Nat) (tail : Env), ez = (0, I n) :: (2, I 0) :: (3, I (((2 ^ i : Nat) : Int) - 1)) :: (4, I i) :: tail ∧ (H1 = H) ∧ (i ≤ n) ∧ mz = n - i) _ ⟨0, _, rfl, ?_, ?_, rfl⟩ ?_
  iterate 2 (focus (first|(with_reducible rfl)|omega|(with_reducible(repeat first|exact Grew.refl _|assumption|apply Grew.alloc|refine Grew.set ?_ _ (by first|omega|(simp only[AN];omega)));done)|(simp(maxSteps:=9999999)(disch:=first|omega|(simp only[AN];omega))only[↓KP,EN,↓reduceIte,reduceCtorEq,Nat.reduceEqDiff,Nat.reduceAdd,Nat.reduceLeDiff,Nat.reduceMul]<;>first|omega|rfl)|(simp;done)|rfl))
  rintro mz ez H1 ⟨i, tail, rfl, hH, hi, hmz⟩; subst mz
  subst H1
  simp(maxSteps:=9999999)(disch:=first|omega|(simp only[AN];omega))only[↓KP,EN,↓reduceIte,reduceCtorEq,Nat.reduceEqDiff,Nat.reduceAdd,Nat.reduceLeDiff,Nat.reduceMul]
  refine C_decide (fun hc => ?_) (fun hc => ?_)
  · have hp : 2 ^ i ≤ 2 ^ 7 := Nat.pow_le_pow_right (by omega) (by omega)
    have hp1 : 1 ≤ 2 ^ i := Nat.one_le_two_pow
    have hp2 : 2 ^ (i + 1) = 2 * 2 ^ i := by rw [Nat.pow_succ]; omega
    have e1 : IntKind.i64.wrap ((i : Int) + 1) = ((i + 1 : Nat) : Int) := i64_in _ (by omega)
    have e23 : IntKind.i64.wrap (2 * (((2 ^ i : Nat) : Int) - 1)) = 2 * (((2 ^ i : Nat) : Int) - 1) ∧ IntKind.i64.wrap (2 * (((2 ^ i : Nat) : Int) - 1) + 1) = ((2 ^ (i + 1) : Nat) : Int) - 1 := by
      rw [hp2]
      generalize 2 ^ i = q at *
      exact ⟨i64_in _ (by omega), by rw [i64_in _ (by omega)]; omega⟩
    have e2 := e23.1
    have e3 := e23.2
    simp(maxSteps:=9999999)(disch:=first|omega|(simp only[AN];omega))only[e1,e2,e3,↓KP,EN,↓reduceIte,reduceCtorEq,Nat.reduceEqDiff,Nat.reduceAdd,Nat.reduceLeDiff,Nat.reduceMul]
    refine ⟨_, ?_, i + 1, _, rfl, ?_, ?_, rfl⟩ <;> (first|omega|(with_reducible assumption)|(with_reducible(repeat first|exact Grew.refl _|assumption|apply Grew.alloc|refine Grew.set ?_ _ (by first|omega|(simp only[AN];omega)));done)|(simp(maxSteps:=9999999)(disch:=first|omega|(simp only[AN];omega))only[↓KP,EN,↓reduceIte,reduceCtorEq,Nat.reduceEqDiff,Nat.reduceAdd,Nat.reduceLeDiff,Nat.reduceMul]<;>first|omega|rfl))
  · obtain rfl : i = n := by omega
    simp(maxSteps:=9999999)(disch:=first|omega|(simp only[AN];omega))only[↓KP,EN,↓reduceIte,reduceCtorEq,Nat.reduceEqDiff,Nat.reduceAdd,Nat.reduceLeDiff,Nat.reduceMul]
    exact k
theorem lk_eq {s : Series} {d : Nat} (hd : d < s.looked.length) : s.looked[d] = lk s d := by simp [lk, hd]
theorem group_run (vl vg vf : AV) (s : Series) (j : Nat) (b : Int) (hh : IsSer (Old H) H vl vg vf s) (hl : s.len ≤ 8) (k : ∀ H', Grew H H' → R (I (groupE s j b)) H') : CallQ prog (.func 59 [] []) [serArg vl vg vf s, I b] H R := by
  have hlen : (s.looked.length : Int) = s.len := rfl
  have hp : 2 ^ s.len ≤ 2 ^ 8 := Nat.pow_le_pow_right (by omega) (by omega)
  refine CallQ_enter (fn:=c59) rfl (Nat.le_of_ble_eq_true rfl) ?_;simp(maxSteps:=9999999)(disch:=first|omega|(simp only[AN];omega))only[c59,envFrom,hh.l.isCell,hh.g.isCell,hh.f.isCell,hh.l.len,↓KP,EN,↓reduceIte,reduceCtorEq,Nat.reduceEqDiff,Nat.reduceAdd,Nat.reduceLeDiff,Nat.reduceMul]
  first|refine C_call ?_|refine C_calld ?_
  refine all_run s.len hl ?_
  simp(maxSteps:=9999999)(disch:=first|omega|(simp only[AN];omega))only[↓KP,EN,↓reduceIte,reduceCtorEq,Nat.reduceEqDiff,Nat.reduceAdd,Nat.reduceLeDiff,Nat.reduceMul]
  first|refine C_call ?_|refine C_calld ?_
  refine In_run b 1 (((2 ^ s.len : Nat) : Int) - 1) ?_
  cases hin : (decide (1 ≤ b) && decide (b ≤ ((2 ^ s.len : Nat) : Int) - 1)) with
  | false =>
    have : groupE s j b = 4 := by
      rw [groupE, if_pos]
      intro h
      rw [decide_eq_true h.1, decide_eq_true h.2] at hin; cases hin
    rw [this] at k
    simp(maxSteps:=9999999)(disch:=first|omega|(simp only[AN];omega))only[↓KP,EN,↓reduceIte,reduceCtorEq,Nat.reduceEqDiff,Nat.reduceAdd,Nat.reduceLeDiff,Nat.reduceMul]
    exact k _ GW
  | true =>
    have hb : 1 ≤ b ∧ b ≤ ((2 ^ s.len : Nat) : Int) - 1 := by simpa using hin
    have hE : groupE s j b = if (List.range s.len).any (fun d => bitI b d && !lk s d) then 2 else 0 := by rw [groupE, if_neg (fun h => h hb)]
    obtain ⟨n, rfl⟩ : ∃ n : Nat, b = n := ⟨b.toNat, by omega⟩
    simp(maxSteps:=9999999)(disch:=first|omega|(simp only[AN];omega))only[↓KP,EN,↓reduceIte,reduceCtorEq,Nat.reduceEqDiff,Nat.reduceAdd,Nat.reduceLeDiff,Nat.reduceMul]
    refine K_loop (fun mz ez H1 => ∃ (d : Nat) (tail : Env), ez = (0, serArg vl vg vf s) :: (1, I n) :: (2, .ptr H.next 0) :: (4, I 0) :: tail ∧ (tail.get 5 = some (I d)) ∧ (Grew H H1) ∧ (H1.get H.next = some (.cells false [vl, I s.lo, I s.hi, vg, .bool s.unseen, vf])) ∧ (d ≤ s.len) ∧ ((List.range d).any (fun d => bitI (n : Int) d && !lk s d) = false) ∧ mz = s.len - d) _ ⟨0, _, rfl, ?_, ?_, ?_, ?_, ?_, rfl⟩ ?_
    iterate 5 (focus (first|(with_reducible rfl)|omega|(with_reducible(repeat first|exact Grew.refl _|assumption|apply Grew.alloc|refine Grew.set ?_ _ (by first|omega|(simp only[AN];omega)));done)|(simp(maxSteps:=9999999)(disch:=first|omega|(simp only[AN];omega))only[↓KP,EN,↓reduceIte,reduceCtorEq,Nat.reduceEqDiff,Nat.reduceAdd,Nat.reduceLeDiff,Nat.reduceMul]<;>first|omega|rfl)|(simp;done)|rfl))
    rintro mz ez H1 ⟨d, tail, rfl, h5, hG, hbox, hd, hno, hmz⟩; subst mz; have hGn := hG.next
    simp(maxSteps:=9999999)(disch:=first|omega|(simp only[AN];omega))only[h5,hbox,hh.l.len,↓KP,EN,↓reduceIte,reduceCtorEq,Nat.reduceEqDiff,Nat.reduceAdd,Nat.reduceLeDiff,Nat.reduceMul]
    refine C_decide (fun hc => ?_) (fun hc => ?_)
    · have hd' : d < s.looked.length := by omega
      obtain ⟨pb, pi, pro, pvs, plt, p⟩ := rdB hh.l (k := d) rfl hd'
      rw [lk_eq hd'] at p
      have e1 : IntKind.i64.wrap ((d : Int) + 1) = ((d + 1 : Nat) : Int) := i64_in _ (by omega)
      simp(maxSteps:=9999999)(disch:=first|omega|(simp only[AN];omega))only[h5,hbox,↓KP,EN,↓reduceIte,reduceCtorEq,Nat.reduceEqDiff,Nat.reduceAdd,Nat.reduceLeDiff,Nat.reduceMul]
      first|refine C_call ?_|refine C_calld ?_
      refine Bit_run n d (by omega) (by omega) ?_
      have hbt : n.testBit d = bitI (n : Int) d := by simp [bitI]
      rw [hbt]
      cases h1 : bitI (n : Int) d with
      | false =>
        simp(maxSteps:=9999999)(disch:=first|omega|(simp only[AN];omega))only[h5,e1,↓KP,EN,↓reduceIte,reduceCtorEq,Nat.reduceEqDiff,Nat.reduceAdd,Nat.reduceLeDiff,Nat.reduceMul]
        refine ⟨_, ?_, d + 1, _, rfl, ?_, ?_, ?_, ?_, (by rw [List.range_succ, List.any_append, hno]; simp [h1]), rfl⟩ <;> (first|omega|(with_reducible assumption)|(with_reducible(repeat first|exact Grew.refl _|assumption|apply Grew.alloc|refine Grew.set ?_ _ (by first|omega|(simp only[AN];omega)));done)|(simp(maxSteps:=9999999)(disch:=first|omega|(simp only[AN];omega))only[h5,↓KP,EN,↓reduceIte,reduceCtorEq,Nat.reduceEqDiff,Nat.reduceAdd,Nat.reduceLeDiff,Nat.reduceMul]<;>first|omega|rfl))
      | true =>
        cases h2 : lk s d with
        | true =>
          rw [h2] at p
          simp(maxSteps:=9999999)(disch:=first|omega|(simp only[AN];omega))only[h5,hbox,hG.get,p,e1,↓KP,EN,↓reduceIte,reduceCtorEq,Nat.reduceEqDiff,Nat.reduceAdd,Nat.reduceLeDiff,Nat.reduceMul]
          refine ⟨_, ?_, d + 1, _, rfl, ?_, ?_, ?_, ?_, (by rw [List.range_succ, List.any_append, hno]; simp [h2]), rfl⟩ <;> (first|omega|(with_reducible assumption)|(with_reducible(repeat first|exact Grew.refl _|assumption|apply Grew.alloc|refine Grew.set ?_ _ (by first|omega|(simp only[AN];omega)));done)|(simp(maxSteps:=9999999)(disch:=first|omega|(simp only[AN];omega))only[h5,↓KP,EN,↓reduceIte,reduceCtorEq,Nat.reduceEqDiff,Nat.reduceAdd,Nat.reduceLeDiff,Nat.reduceMul]<;>first|omega|rfl))
        | false =>
          rw [h2] at p
          have : groupE s j n = 2 := by
            rw [hE, if_pos]
            rw [List.any_eq_true]
            exact ⟨d, List.mem_range.2 (by omega), by simp [h1, h2]⟩
          rw [this] at k
          simp(maxSteps:=9999999)(disch:=first|omega|(simp only[AN];omega))only[h5,hbox,hG.get,p,↓KP,EN,↓reduceIte,reduceCtorEq,Nat.reduceEqDiff,Nat.reduceAdd,Nat.reduceLeDiff,Nat.reduceMul]
          exact k _ hG
    · have hde : d = s.len := by omega
      subst hde
      rw [hno] at hE
      rw [hE] at k
      simp(maxSteps:=9999999)(disch:=first|omega|(simp only[AN];omega))only[↓KP,EN,↓reduceIte,reduceCtorEq,Nat.reduceEqDiff,Nat.reduceAdd,Nat.reduceLeDiff,Nat.reduceMul]
      exact k _ hG
end Go.Proofs.Ytihahmggfjjkjaa
namespace Go.Proofs.Ytihahmggfjjkjaa
open Go.AM Go.IntWalk Go.PL
set_option maxRecDepth 100000
set_option maxHeartbeats 4000000
set_option linter.unusedSimpArgs false
variable {H : AH} {R : AV → AH → Prop}
theorem filled_run (vl vg vf : AV) (s : Series) (i : Nat) (hh : IsSer (Old H) H vl vg vf s) (hl : s.len ≤ 8) (hi : i < s.filled.length) (hf : s.filled.length ≤ 4) (k : ∀ H', Grew H H' → R (I (filledE s i s.filled[i])) H') : CallQ prog (.func 60 [] []) [serArg vl vg vf s, I i] H R := by
  obtain ⟨pb, pi, pro, pvs, plt, p⟩ := rdP hh.f (k := i) rfl hi
  have hlen : (s.looked.length : Int) = s.len := rfl
  have w1 : IntKind.i64.wrap ((s.looked.length : Int) - 1) = (s.len : Int) - 1 := i64_in _ (by omega)
  refine CallQ_enter (fn:=c60) rfl (Nat.le_of_ble_eq_true rfl) ?_;simp(maxSteps:=9999999)(disch:=first|omega|(simp only[AN];omega))only[c60,envFrom,hh.l.isCell,hh.g.isCell,hh.f.isCell,hh.l.len,p,w1,↓KP,EN,↓reduceIte,reduceCtorEq,Nat.reduceEqDiff,Nat.reduceAdd,Nat.reduceLeDiff,Nat.reduceMul]
  generalize hF : s.filled[i] = F at *
  first|refine C_call ?_|refine C_calld ?_
  refine In_run F.1 0 ((s.len : Int) - 1) ?_
  cases hin : (decide (0 ≤ F.1) && decide (F.1 ≤ (s.len : Int) - 1)) with
  | false =>
    have : filledE s i F = 4 := by
      rw [filledE, if_pos]
      intro h
      rw [decide_eq_true h.1, decide_eq_true h.2] at hin; cases hin
    rw [this] at k
    simp(maxSteps:=9999999)(disch:=first|omega|(simp only[AN];omega))only[↓KP,EN,↓reduceIte,reduceCtorEq,Nat.reduceEqDiff,Nat.reduceAdd,Nat.reduceLeDiff,Nat.reduceMul]
    exact k _ GW
  | true =>
    have hd : 0 ≤ F.1 ∧ F.1 ≤ (s.len : Int) - 1 := by simpa using hin
    have hE : filledE s i F = if lk s F.1.toNat then 2 else if (s.filled.take i).any (fun x => decide (x.1 = F.1)) then 5 else if 0 ≤ F.2 ∧ F.2 ≤ 4 then 0 else 7 := by rw [filledE, if_neg (fun h => h hd)]
    obtain ⟨qb, qi, qro, qvs, qlt, q⟩ := rdB hh.l (n := F.1) (k := F.1.toNat) (by omega) (by omega)
    rw [lk_eq (by omega)] at q
    cases hlk : lk s F.1.toNat with
    | true =>
      rw [hlk] at q hE
      simp only [if_true] at hE
      rw [hE] at k
      simp(maxSteps:=9999999)(disch:=first|omega|(simp only[AN];omega))only[q,↓KP,EN,↓reduceIte,reduceCtorEq,Nat.reduceEqDiff,Nat.reduceAdd,Nat.reduceLeDiff,Nat.reduceMul]
      exact k _ GW
    | false =>
      rw [hlk] at q hE
      simp only [Bool.false_eq_true, if_false] at hE
      simp(maxSteps:=9999999)(disch:=first|omega|(simp only[AN];omega))only[q,↓KP,EN,↓reduceIte,reduceCtorEq,Nat.reduceEqDiff,Nat.reduceAdd,Nat.reduceLeDiff,Nat.reduceMul]
      refine K_loop (fun mz ez H1 => ∃ (j : Nat) (tail : Env), ez = (0, serArg vl vg vf s) :: (1, I i) :: (2, .ptr H.next 0) :: (4, I 0) :: tail ∧ (tail.get 5 = some (.ptr (H.next + 1) 0)) ∧ (tail.get 6 = some (I j)) ∧ (Grew H H1) ∧ (H1.get H.next = some (.cells false [vl, I s.lo, I s.hi, vg, .bool s.unseen, vf])) ∧ (H1.get (H.next + 1) = some (.cells false [I F.1, I F.2])) ∧ (j ≤ i) ∧ ((s.filled.take j).any (fun x => decide (x.1 = F.1)) = false) ∧ mz = i - j) _ ⟨0, _, rfl, ?_, ?_, ?_, ?_, ?_, ?_, ?_, rfl⟩ ?_
      iterate 7 (focus (first|(with_reducible rfl)|omega|(with_reducible(repeat first|exact Grew.refl _|assumption|apply Grew.alloc|refine Grew.set ?_ _ (by first|omega|(simp only[AN];omega)));done)|(simp(maxSteps:=9999999)(disch:=first|omega|(simp only[AN];omega))only[↓KP,EN,↓reduceIte,reduceCtorEq,Nat.reduceEqDiff,Nat.reduceAdd,Nat.reduceLeDiff,Nat.reduceMul]<;>first|omega|rfl)|(simp;done)|rfl))
      rintro mz ez H1 ⟨j, tail, rfl, h5, h6, hG, hbox, hbox2, hj, hno, hmz⟩; subst mz; have hGn := hG.next
      simp(maxSteps:=9999999)(disch:=first|omega|(simp only[AN];omega))only[h6,↓KP,EN,↓reduceIte,reduceCtorEq,Nat.reduceEqDiff,Nat.reduceAdd,Nat.reduceLeDiff,Nat.reduceMul]
      refine C_decide (fun hc => ?_) (fun hc => ?_)
      · have hj' : j < s.filled.length := by omega
        obtain ⟨rb, ri, rro, rvs, rlt, r⟩ := rdP hh.f (k := j) rfl hj'
        have e1 : IntKind.i64.wrap ((j : Int) + 1) = ((j + 1 : Nat) : Int) := i64_in _ (by omega)
        simp(maxSteps:=9999999)(disch:=first|omega|(simp only[AN];omega))only[↓KP,EN,↓reduceIte,reduceCtorEq,Nat.reduceEqDiff,Nat.reduceAdd,Nat.reduceLeDiff,Nat.reduceMul]
        refine K_draw ?_
        by_cases he : s.filled[j].1 = F.1
        · have : (s.filled.take i).any (fun x => decide (x.1 = F.1)) = true := by
            rw [List.any_eq_true]
            refine ⟨s.filled[j], ?_, by simp [he]⟩
            rw [List.mem_take_iff_getElem]
            exact ⟨j, by omega, rfl⟩
          rw [this] at hE
          simp only [if_true] at hE
          rw [hE] at k
          simp(maxSteps:=9999999)(disch:=first|omega|(simp only[AN];omega))only[h5,h6,hbox,hbox2,hG.get,r,eq_true he,↓KP,EN,↓reduceIte,reduceCtorEq,Nat.reduceEqDiff,Nat.reduceAdd,Nat.reduceLeDiff,Nat.reduceMul]
          exact k _ hG
        · simp(maxSteps:=9999999)(disch:=first|omega|(simp only[AN];omega))only[h5,h6,hbox,hbox2,hG.get,r,he,e1,↓KP,EN,↓reduceIte,reduceCtorEq,Nat.reduceEqDiff,Nat.reduceAdd,Nat.reduceLeDiff,Nat.reduceMul]
          refine ⟨_, ?_, j + 1, _, rfl, ?_, ?_, ?_, ?_, ?_, ?_, (by rw [any_take_succ hj', hno]; simp [he]), rfl⟩ <;> (first|omega|(with_reducible assumption)|(with_reducible(repeat first|exact Grew.refl _|assumption|apply Grew.alloc|refine Grew.set ?_ _ (by first|omega|(simp only[AN];omega)));done)|(simp(maxSteps:=9999999)(disch:=first|omega|(simp only[AN];omega))only[h5,h6,↓KP,EN,↓reduceIte,reduceCtorEq,Nat.reduceEqDiff,Nat.reduceAdd,Nat.reduceLeDiff,Nat.reduceMul]<;>first|omega|rfl))
      · have hje : j = i := by omega
        subst hje
        rw [hno] at hE
        simp only [Bool.false_eq_true, if_false] at hE
        simp(maxSteps:=9999999)(disch:=first|omega|(simp only[AN];omega))only[h5,hbox2,↓KP,EN,↓reduceIte,reduceCtorEq,Nat.reduceEqDiff,Nat.reduceAdd,Nat.reduceLeDiff,Nat.reduceMul]
        first|refine C_call ?_|refine C_calld ?_
        refine In_run F.2 0 4 ?_
        cases hin2 : (decide (0 ≤ F.2) && decide (F.2 ≤ 4)) with
        | true =>
          have h2 : 0 ≤ F.2 ∧ F.2 ≤ 4 := by simpa using hin2
          rw [if_pos h2] at hE
          rw [hE] at k
          simp(maxSteps:=9999999)(disch:=first|omega|(simp only[AN];omega))only[↓KP,EN,↓reduceIte,reduceCtorEq,Nat.reduceEqDiff,Nat.reduceAdd,Nat.reduceLeDiff,Nat.reduceMul]
          exact k _ hG
        | false =>
          rw [if_neg (fun h => by rw [decide_eq_true h.1, decide_eq_true h.2] at hin2; cases hin2)] at hE
          rw [hE] at k
          simp(maxSteps:=9999999)(disch:=first|omega|(simp only[AN];omega))only[↓KP,EN,↓reduceIte,reduceCtorEq,Nat.reduceEqDiff,Nat.reduceAdd,Nat.reduceLeDiff,Nat.reduceMul]
          exact k _ hG
theorem endsE_in {a b lo hi : Int} (h : endsE a b lo hi = 0) : lo ≤ a ∧ a ≤ b ∧ b ≤ hi := by
  unfold endsE at h
  split at h
  · split at h
    · cases h
    · omega
  · cases h
theorem rCheck_run (vl vg vf : AV) (s : Series) (hh : IsSer (Old H) H vl vg vf s) (hs : Sized s) (k : ∀ H', Grew H H' → R (.tuple [I (checkE s).1, I (checkE s).2.1, I (checkE s).2.2]) H') : CallQ prog (.func 17 [] []) [serArg vl vg vf s] H R := by
  have hlen : (s.looked.length : Int) = s.len := rfl
  refine CallQ_enter (fn:=c17) rfl (Nat.le_of_ble_eq_true rfl) ?_;simp(maxSteps:=9999999)(disch:=first|omega|(simp only[AN];omega))only[c17,envFrom,hh.l.isCell,hh.g.isCell,hh.f.isCell,hh.l.len,↓KP,EN,↓reduceIte,reduceCtorEq,Nat.reduceEqDiff,Nat.reduceAdd,Nat.reduceLeDiff,Nat.reduceMul]
  first|refine C_call ?_|refine C_calld ?_
  refine In_run (s.looked.length : Int) 1 8 ?_
  cases hin : (decide (1 ≤ (s.looked.length : Int)) && decide ((s.looked.length : Int) ≤ 8)) with
  | false =>
    have : checkE s = (1, 0, 3) := by
      rw [checkE, if_pos]
      intro h
      rw [decide_eq_true (by omega), decide_eq_true (by omega)] at hin; cases hin
    rw [this] at k
    simp(maxSteps:=9999999)(disch:=first|omega|(simp only[AN];omega))only[↓KP,EN,↓reduceIte,reduceCtorEq,Nat.reduceEqDiff,Nat.reduceAdd,Nat.reduceLeDiff,Nat.reduceMul]
    exact k _ GW
  | true =>
    have hl : 1 ≤ s.len ∧ s.len ≤ 8 := by
      have : 1 ≤ (s.looked.length : Int) ∧ (s.looked.length : Int) ≤ 8 := by simpa using hin
      omega
    have hE1 : checkE s = if lastE s ≠ 0 then (2, 0, lastE s) else checkG s := by rw [checkE, if_neg (fun h => h hl)]
    simp(maxSteps:=9999999)(disch:=first|omega|(simp only[AN];omega))only[↓KP,EN,↓reduceIte,reduceCtorEq,Nat.reduceEqDiff,Nat.reduceAdd,Nat.reduceLeDiff,Nat.reduceMul]
    first|refine C_call ?_|refine C_calld ?_
    refine Ends_run s.lo s.hi 1 8 fun H1 hg1 => ?_
    have hg1n:=hg1.next;try simp only[AN]at hg1n
    by_cases he : endsE s.lo s.hi 1 8 = 0
    · have hb := endsE_in he
      have w1 : IntKind.i64.wrap (s.hi - s.lo) = s.hi - s.lo := i64_in _ (by omega)
      rw [he]
      by_cases h2 : 2 < s.hi - s.lo
      · have hlE : lastE s = 2 := by rw [lastE, he]; simp [h2]
        rw [hE1, hlE, if_pos (by decide)] at k
        have n2 : ¬ (2 : Int) = 0 := by decide
        simp(maxSteps:=9999999)(disch:=first|omega|(simp only[AN];omega))only[hg1.get,w1,h2,n2,↓KP,EN,↓reduceIte,reduceCtorEq,Nat.reduceEqDiff,Nat.reduceAdd,Nat.reduceLeDiff,Nat.reduceMul]
        exact k _ GW
      · have hlE : lastE s = 0 := by rw [lastE, he]; simp [h2]
        rw [hE1, hlE, if_neg (by decide)] at k
        simp(maxSteps:=9999999)(disch:=first|omega|(simp only[AN];omega))only[hg1.get,w1,h2,hh.g.len,↓KP,EN,↓reduceIte,reduceCtorEq,Nat.reduceEqDiff,Nat.reduceAdd,Nat.reduceLeDiff,Nat.reduceMul]
        by_cases h3 : (3 : Int) < s.groups.length
        · have : checkG s = (3, 0, 3) := by rw [checkG, if_pos (by omega)]
          rw [this] at k
          simp(maxSteps:=9999999)(disch:=first|omega|(simp only[AN];omega))only[h3,↓KP,EN,↓reduceIte,reduceCtorEq,Nat.reduceEqDiff,Nat.reduceAdd,Nat.reduceLeDiff,Nat.reduceMul]
          exact k _ GW
        · rw [checkG, if_neg (by omega)] at k
          simp(maxSteps:=9999999)(disch:=first|omega|(simp only[AN];omega))only[h3,↓KP,EN,↓reduceIte,reduceCtorEq,Nat.reduceEqDiff,Nat.reduceAdd,Nat.reduceLeDiff,Nat.reduceMul]
          refine K_loop (fun mz ez H2 => ∃ (i : Nat) (tail : Env), ez = (0, serArg vl vg vf s) :: (1, .ptr H.next 0) :: (2, I 0) :: (3, I 0) :: (4, I 0) :: tail ∧ (tail.get 6 = some (I i)) ∧ (Grew H H2) ∧ (H.next < H2.next) ∧ (H2.get H.next = some (.cells false [vl, I s.lo, I s.hi, vg, .bool s.unseen, vf])) ∧ (i ≤ s.groups.length) ∧ (∀ j (hj : j < s.groups.length), j < i → groupE s j s.groups[j] = 0) ∧ mz = s.groups.length - i) _ ⟨0, _, rfl, ?_, (by exact GW), ?_, (by simp(maxSteps:=9999999)(disch:=first|omega|(simp only[AN];omega))only[hg1.get,↓KP,EN,↓reduceIte,reduceCtorEq,Nat.reduceEqDiff,Nat.reduceAdd,Nat.reduceLeDiff,Nat.reduceMul]), ?_, (by exact fun j _ hj => absurd hj (by omega)), rfl⟩ ?_
          iterate 3 (focus (first|(with_reducible rfl)|omega|(with_reducible(repeat first|exact Grew.refl _|assumption|apply Grew.alloc|refine Grew.set ?_ _ (by first|omega|(simp only[AN];omega)));done)|(simp(maxSteps:=9999999)(disch:=first|omega|(simp only[AN];omega))only[↓KP,EN,↓reduceIte,reduceCtorEq,Nat.reduceEqDiff,Nat.reduceAdd,Nat.reduceLeDiff,Nat.reduceMul]<;>first|omega|rfl)|(simp;done)|rfl))
          rintro mz ez H2 ⟨i, tail, rfl, f6, hG, hlt, hbox, hi, hno, hmz⟩; subst mz; have hGn := hG.next
          simp(maxSteps:=9999999)(disch:=first|omega|(simp only[AN];omega))only[f6,hbox,hh.g.len,↓KP,EN,↓reduceIte,reduceCtorEq,Nat.reduceEqDiff,Nat.reduceAdd,Nat.reduceLeDiff,Nat.reduceMul]
          refine C_decide (fun hc => ?_) (fun hc => ?_)
          · have hi' : i < s.groups.length := by omega
            obtain ⟨p_b, p_i, p_ro, p_vs, p_lt, p⟩ := hh.g.rdInt (k := i) rfl hi'
            have e1 : IntKind.i64.wrap ((i : Int) + 1) = ((i + 1 : Nat) : Int) := i64_in _ (by omega)
            simp(maxSteps:=9999999)(disch:=first|omega|(simp only[AN];omega))only[↓KP,EN,↓reduceIte,reduceCtorEq,Nat.reduceEqDiff,Nat.reduceAdd,Nat.reduceLeDiff,Nat.reduceMul]
            refine K_draw ?_
            simp(maxSteps:=9999999)(disch:=first|omega|(simp only[AN];omega))only[f6,hbox,hG.get,p,↓KP,EN,↓reduceIte,reduceCtorEq,Nat.reduceEqDiff,Nat.reduceAdd,Nat.reduceLeDiff,Nat.reduceMul]
            refine C_calld ?_
            refine group_run vl vg vf s i s.groups[i] (hh.grow GW) hl.2 fun H3 hg3 => ?_
            have hg3n:=hg3.next;try simp only[AN]at hg3n
            by_cases hge : groupE s i s.groups[i] = 0
            · rw [hge]
              simp(maxSteps:=9999999)(disch:=first|omega|(simp only[AN];omega))only[f6,hbox,hG.get,hg3.get,p,e1,↓KP,EN,↓reduceIte,reduceCtorEq,Nat.reduceEqDiff,Nat.reduceAdd,Nat.reduceLeDiff,Nat.reduceMul]
              have hno2 : ∀ j (hj : j < s.groups.length), j < i + 1 → groupE s j s.groups[j] = 0 := fun j hj hj1 => by
                by_cases e : j < i
                · exact hno j hj e
                · have e2 : j = i := by omega
                  subst e2; exact hge
              refine ⟨_, ?_, i + 1, _, rfl, ?_, ?_, ?_, ?_, ?_, (by exact hno2), rfl⟩ <;> (first|omega|(with_reducible assumption)|(with_reducible(repeat first|exact Grew.refl _|assumption|apply Grew.alloc|refine Grew.set ?_ _ (by first|omega|(simp only[AN];omega))|refine Grew.trans ?_ hg3|refine Grew.trans ?_ hG);done)|(simp(maxSteps:=9999999)(disch:=first|omega|(simp only[AN];omega))only[f6,hg3.get,hbox,hg3.get,hG.get,↓KP,EN,↓reduceIte,reduceCtorEq,Nat.reduceEqDiff,Nat.reduceAdd,Nat.reduceLeDiff,Nat.reduceMul]<;>first|omega|rfl))
            · have hfe := firstErr_some (f := groupE s) (l := s.groups) (i := 0) (k := i) hi' (fun j hj hji => by rw [Nat.zero_add]; exact hno j hj hji) (by rw [Nat.zero_add]; exact hge)
              rw [hfe, Nat.zero_add] at k
              simp(maxSteps:=9999999)(disch:=first|omega|(simp only[AN];omega))only[f6,hge,hbox,hG.get,hg3.get,p,↓KP,EN,↓reduceIte,reduceCtorEq,Nat.reduceEqDiff,Nat.reduceAdd,Nat.reduceLeDiff,Nat.reduceMul]
              exact k _ GW
          · have hie : i = s.groups.length := by omega
            have hfe : firstErr (groupE s) 0 s.groups = none := firstErr_none fun j hj => by rw [Nat.zero_add]; exact hno j hj (by omega)
            rw [hfe] at k
            simp only at k
            by_cases h4 : (4 : Int) < s.filled.length
            · have : checkF s = (4, 0, 3) := by rw [checkF, if_pos (by omega)]
              rw [this] at k
              simp(maxSteps:=9999999)(disch:=first|omega|(simp only[AN];omega))only[hbox,hh.f.len,h4,↓KP,EN,↓reduceIte,reduceCtorEq,Nat.reduceEqDiff,Nat.reduceAdd,Nat.reduceLeDiff,Nat.reduceMul]
              exact k _ hG
            · rw [checkF, if_neg (by omega)] at k
              simp(maxSteps:=9999999)(disch:=first|omega|(simp only[AN];omega))only[hbox,hh.f.len,h4,↓KP,EN,↓reduceIte,reduceCtorEq,Nat.reduceEqDiff,Nat.reduceAdd,Nat.reduceLeDiff,Nat.reduceMul]
              refine K_loop (fun mz ez H3 => ∃ (m : Nat) (tail : Env), ez = (0, serArg vl vg vf s) :: (1, .ptr H.next 0) :: (2, I 0) :: (3, I 0) :: (4, I 0) :: tail ∧ (tail.get 7 = some (I m)) ∧ (Grew H H3) ∧ (H.next < H3.next) ∧ (H3.get H.next = some (.cells false [vl, I s.lo, I s.hi, vg, .bool s.unseen, vf])) ∧ (m ≤ s.filled.length) ∧ (∀ j (hj : j < s.filled.length), j < m → filledE s j s.filled[j] = 0) ∧ mz = s.filled.length - m) _ ⟨0, _, rfl, ?_, ?_, ?_, ?_, ?_, (by exact fun j _ hj => absurd hj (by omega)), rfl⟩ ?_
              iterate 5 (focus (first|(with_reducible rfl)|omega|(with_reducible(repeat first|exact Grew.refl _|assumption|apply Grew.alloc|refine Grew.set ?_ _ (by first|omega|(simp only[AN];omega)));done)|(simp(maxSteps:=9999999)(disch:=first|omega|(simp only[AN];omega))only[↓KP,EN,↓reduceIte,reduceCtorEq,Nat.reduceEqDiff,Nat.reduceAdd,Nat.reduceLeDiff,Nat.reduceMul]<;>first|omega|rfl)|(simp;done)|rfl))
              rintro mz ez H3 ⟨m, tail, rfl, f7, hG2, hlt2, hbox2, hm, hno3, hmz⟩; subst mz; have hG2n := hG2.next
              simp(maxSteps:=9999999)(disch:=first|omega|(simp only[AN];omega))only[f7,hbox2,hh.f.len,↓KP,EN,↓reduceIte,reduceCtorEq,Nat.reduceEqDiff,Nat.reduceAdd,Nat.reduceLeDiff,Nat.reduceMul]
              refine C_decide (fun hc2 => ?_) (fun hc2 => ?_)
              · have hm' : m < s.filled.length := by omega
                have e1 : IntKind.i64.wrap ((m : Int) + 1) = ((m + 1 : Nat) : Int) := i64_in _ (by omega)
                simp(maxSteps:=9999999)(disch:=first|omega|(simp only[AN];omega))only[f7,hbox2,↓KP,EN,↓reduceIte,reduceCtorEq,Nat.reduceEqDiff,Nat.reduceAdd,Nat.reduceLeDiff,Nat.reduceMul]
                first|refine C_call ?_|refine C_calld ?_
                refine filled_run vl vg vf s m (hh.grow GW) hl.2 hm' (by omega) fun H4 hg4 => ?_
                have hg4n:=hg4.next;try simp only[AN]at hg4n
                by_cases hge : filledE s m s.filled[m] = 0
                · rw [hge]
                  simp(maxSteps:=9999999)(disch:=first|omega|(simp only[AN];omega))only[f7,hbox2,hg4.get,e1,↓KP,EN,↓reduceIte,reduceCtorEq,Nat.reduceEqDiff,Nat.reduceAdd,Nat.reduceLeDiff,Nat.reduceMul]
                  have hno4 : ∀ j (hj : j < s.filled.length), j < m + 1 → filledE s j s.filled[j] = 0 := fun j hj hj1 => by
                    by_cases e : j < m
                    · exact hno3 j hj e
                    · have e2 : j = m := by omega
                      subst e2; exact hge
                  refine ⟨_, ?_, m + 1, _, rfl, ?_, ?_, ?_, ?_, ?_, (by exact hno4), rfl⟩ <;> (first|omega|(with_reducible assumption)|(with_reducible(repeat first|exact Grew.refl _|assumption|apply Grew.alloc|refine Grew.set ?_ _ (by first|omega|(simp only[AN];omega))|refine Grew.trans ?_ hg4|refine Grew.trans ?_ hG2);done)|(simp(maxSteps:=9999999)(disch:=first|omega|(simp only[AN];omega))only[f7,hg4.get,hbox2,hg4.get,hG2.get,↓KP,EN,↓reduceIte,reduceCtorEq,Nat.reduceEqDiff,Nat.reduceAdd,Nat.reduceLeDiff,Nat.reduceMul]<;>first|omega|rfl))
                · have hfe2 := firstErr_some (f := filledE s) (l := s.filled) (i := 0) (k := m) hm' (fun j hj hji => by rw [Nat.zero_add]; exact hno3 j hj hji) (by rw [Nat.zero_add]; exact hge)
                  rw [hfe2, Nat.zero_add] at k
                  simp(maxSteps:=9999999)(disch:=first|omega|(simp only[AN];omega))only[f7,hge,↓KP,EN,↓reduceIte,reduceCtorEq,Nat.reduceEqDiff,Nat.reduceAdd,Nat.reduceLeDiff,Nat.reduceMul]
                  exact k _ GW
              · have hfe2 : firstErr (filledE s) 0 s.filled = none := firstErr_none fun j hj => by rw [Nat.zero_add]; exact hno3 j hj (by omega)
                rw [hfe2] at k
                simp(maxSteps:=9999999)(disch:=first|omega|(simp only[AN];omega))only[↓KP,EN,↓reduceIte,reduceCtorEq,Nat.reduceEqDiff,Nat.reduceAdd,Nat.reduceLeDiff,Nat.reduceMul]
                exact k _ hG2
    · have hlE : lastE s = endsE s.lo s.hi 1 8 := by rw [lastE, if_pos he]
      rw [hE1, hlE, if_pos he] at k
      simp(maxSteps:=9999999)(disch:=first|omega|(simp only[AN];omega))only[he,↓KP,EN,↓reduceIte,reduceCtorEq,Nat.reduceEqDiff,Nat.reduceAdd,Nat.reduceLeDiff,Nat.reduceMul]
      exact k _ GW
end Go.Proofs.Ytihahmggfjjkjaa
namespace Go.Proofs.Ytihahmggfjjkjaa
open Go.AM Go.IntWalk Go.PL
set_option maxRecDepth 100000
set_option maxHeartbeats 4000000
set_option linter.unusedSimpArgs false
variable {H : AH} {R : AV → AH → Prop}
theorem staysRow_succ {s : Series} {bits : Int} {lo m : Nat} : staysRow s bits lo (m + 1) = staysRow s bits lo m ++ (if lo ≤ m ∧ fits s bits lo m = true then [((lo : Int), (m : Int))] else []) := by
  rw [staysRow, List.range_succ, List.filterMap_append, staysRow]
  congr 1
  by_cases hc : lo ≤ m ∧ fits s bits lo m = true
  · simp only [List.filterMap_cons, List.filterMap_nil, hc, if_true, and_self]
  · rw [if_neg hc, List.filterMap_cons, if_neg hc]; rfl
theorem staysTo_succ {s : Series} {bits : Int} {n : Nat} : staysTo s bits (n + 1) = staysTo s bits n ++ staysRow s bits n s.len := by
  rw [staysTo, List.range_succ, List.flatMap_append, staysTo]; simp
theorem staysRow_length {s : Series} {bits : Int} {lo m : Nat} : (staysRow s bits lo m).length ≤ m := by
  have := List.length_filterMap_le (fun (hi : Nat) => if lo ≤ hi ∧ fits s bits lo hi = true then some ((lo : Int), (hi : Int)) else none) (List.range m)
  simpa [staysRow] using this
theorem staysTo_length {s : Series} {bits : Int} : ∀ n, (staysTo s bits n).length ≤ n * s.len
  | 0 => by simp [staysTo]
  | n + 1 => by
    rw [staysTo_succ, List.length_append, Nat.add_mul]
    have h1 := staysTo_length (s := s) (bits := bits) n
    have h2 := staysRow_length (s := s) (bits := bits) (lo := n) (m := s.len)
    omega
theorem staysE_length {s : Series} {bits : Int} (hl : s.len ≤ 8) : (staysE s bits).length ≤ 64 := by
  have h1 := staysTo_length (s := s) (bits := bits) s.len
  have h2 : s.len * s.len ≤ 8 * 8 := Nat.mul_le_mul hl hl
  unfold staysE; omega
def fitDay (s : Series) (bits : Int) (lo hi d : Nat) : Bool := !lk s d || ((decide (lo ≤ d) && decide (d ≤ hi)) == bitI bits d)
end Go.Proofs.Ytihahmggfjjkjaa
namespace Go.Proofs.Ytihahmggfjjkjaa
open Go.AM Go.IntWalk Go.PL
set_option maxRecDepth 100000
set_option maxHeartbeats 4000000
set_option linter.unusedSimpArgs false
variable {H : AH} {R : AV → AH → Prop}
def ETr : Elem Truth := fun F H cs t => ∃ vg vm, cs = [vg, vm] ∧ IsSl 2 EP F H vg t.1 ∧ IsSl 2 EP F H vm t.2.toList
theorem ETr.stays : Stays ETr := fun _ _ _ _ _ _ hk ⟨vg, vm, e, h1, h2⟩ => ⟨vg, vm, e, h1.move EP.stays hk, h2.move EP.stays hk⟩
theorem ETr.isCell (F : Nat → Prop) (H : AH) (cs : List AV) (t : Truth) (h : ETr F H cs t) : cs.all AV.isCell = true := by
  obtain ⟨vg, vm, rfl, h1, h2⟩ := h
  simp [h1.isCell, h2.isCell]
theorem countP_take_succ {α : Type} {p : α → Bool} {l : List α} {k : Nat} (hk : k < l.length) : (l.take (k + 1)).countP p = (l.take k).countP p + if p l[k] then 1 else 0 := by
  rw [List.take_succ_eq_append_getElem hk, List.countP_append]
  cases hp : p l[k] <;> simp [hp]
theorem toList_length {α : Type} (o : Option α) : o.toList.length ≤ 1 := by cases o <;> simp
theorem IsSl.one {α : Type} {z : Nat} {E : Elem α} {F : Nat → Prop} {H : AH} {v : AV} {l : List α} (h : IsSl z E F H v l) {n m : Int} {k : Nat} (hn : n = k) (hm : m = (k + 1 : Nat)) (hk : k < l.length) : ∃ v', (∀ S, opSliceSl z v (some (.int .i64 n)) (some (.int .i64 m)) S = some (v', S)) ∧ IsSl z E F H v' [l[k]] := by
  subst hn
  subst hm
  rcases h with ⟨rfl, rfl⟩ | ⟨b, i, cells, rfl, h2, h3, h4⟩
  · simp at hk
  · obtain ⟨cs, q1, q2, q3, _⟩ := h4.at_ k hk
    refine ⟨.slice b (i + k * z) 1 z, fun S => ?_, .inr ⟨b, i + k * z, cs, rfl, h2, ?_, Rows.single q1 q2⟩⟩
    · have e : ((k : Int) ≤ ((k + 1 : Nat) : Int)) := by omega
      have e2 : ((k + 1 : Nat) : Int) ≤ l.length := by omega
      simp only [opSliceSl, optNat, natOf]
      have n1 : (0 : Int) ≤ k := by omega
      have n2 : (0 : Int) ≤ ((k + 1 : Nat) : Int) := by omega
      simp only [n1, n2, if_true, Int.toNat_natCast]
      rw [if_pos ⟨trivial, by omega, by omega⟩, show k + 1 - k = 1 from by omega]
    · unfold AH.read at h3 ⊢
      split at h3
      · unfold readN at h3 q3 ⊢
        split at h3
        · rename_i hle
          split at q3
          · rename_i hle2
            simp only [Option.some.injEq] at h3 q3
            have hm : (k + 1) * z ≤ l.length * z := Nat.mul_le_mul_right _ hk
            rw [Nat.add_mul] at hm
            rw [if_pos (by simp; omega)]
            simp only [Option.some.injEq, List.length_singleton, Nat.one_mul]
            rw [← q3, ← h3, List.drop_take, List.drop_drop, List.take_take]
            congr 1; omega
          · cases q3
        · cases h3
      · cases h3
end Go.Proofs.Ytihahmggfjjkjaa
namespace Go.Proofs.Ytihahmggfjjkjaa
open Go.AM Go.IntWalk Go.PL
set_option maxRecDepth 100000
set_option maxHeartbeats 4000000
set_option linter.unusedSimpArgs false
variable {H : AH} {R : AV → AH → Prop}
theorem pow64 {n : Nat} (h : n ≤ 3) : 64 ^ n ≤ 262144 := Nat.le_trans (Nat.pow_le_pow_right (by omega) h) (Nat.le_refl _)
theorem gStep_length {s : Series} {out : List (List (Int × Int))} {b : Int} (hl : s.len ≤ 8) : (gStep s out b).length ≤ out.length * 64 := by
  have h := staysE_length (s := s) (bits := b) hl
  have : ∀ l : List (List (Int × Int)), (l.flatMap fun o => (staysE s b).map fun x => o ++ [x]).length ≤ l.length * 64 := fun l => by
    induction l with
    | nil => simp
    | cons a l ih => simp only [List.flatMap_cons, List.length_append, List.length_map, List.length_cons]; omega
  exact this out
theorem gFold_length {s : Series} (hl : s.len ≤ 8) : ∀ n, n ≤ s.groups.length → ((s.groups.take n).foldl (gStep s) [[]]).length ≤ 64 ^ n
  | 0, _ => by simp
  | n + 1, h => by
    rw [List.take_succ_eq_append_getElem (by omega), List.foldl_append, List.foldl_cons, List.foldl_nil, Nat.pow_succ]
    exact Nat.le_trans (gStep_length hl) (Nat.mul_le_mul_right _ (gFold_length hl n (by omega)))
theorem gFold_mem {s : Series} : ∀ (l : List Int) (o : List (Int × Int)), o ∈ l.foldl (gStep s) [[]] → o.length = l.length := fun l => by
  have : ∀ (l : List Int) (out : List (List (Int × Int))) (n : Nat), (∀ o ∈ out, o.length = n) → ∀ o ∈ l.foldl (gStep s) out, o.length = n + l.length := fun l => by
    induction l with
    | nil => intro out n h o ho; simpa using h o ho
    | cons b l ih =>
      intro out n h o ho
      have := ih (gStep s out b) (n + 1) (fun o ho => by
        simp only [gStep, List.mem_flatMap, List.mem_map] at ho
        obtain ⟨o', h1, x, _, rfl⟩ := ho
        simp [h o' h1]) o ho
      simp only [List.length_cons]; omega
  intro o ho
  have := this l [[]] 0 (by simp) o ho
  omega
theorem gAll_mem {s : Series} {o : List (Int × Int)} (h : o ∈ gAll s) : o.length = s.groups.length := gFold_mem _ o h
theorem gAll_length {s : Series} (hl : s.len ≤ 8) (hg : s.groups.length ≤ 3) : (gAll s).length ≤ 262144 := by
  have := gFold_length hl s.groups.length (Nat.le_refl _)
  rw [List.take_length] at this
  exact Nat.le_trans this (pow64 hg)
def moreS (s : Series) : List (Int × Int) := if s.unseen then staysE s 0 else []
theorem moreE_eq {s : Series} : moreE s = none :: (moreS s).map some := by
  unfold moreE moreS; split <;> rfl
theorem moreS_length {s : Series} (hl : s.len ≤ 8) : (moreS s).length ≤ 64 := by
  unfold moreS; split
  · exact staysE_length hl
  · simp
theorem allE_len {s : Series} (hl : s.len ≤ 8) : ∀ l : List (List (Int × Int)), (l.flatMap fun g => (moreE s).map fun m => (g, m)).length ≤ l.length * 65
  | [] => by simp
  | a :: l => by
    have := allE_len hl l
    have h2 := moreS_length hl
    have h3 : (moreE s).length ≤ 65 := by rw [moreE_eq, List.length_cons, List.length_map]; omega
    simp only [List.flatMap_cons, List.length_append, List.length_map, List.length_cons]; omega
theorem flatMap_take_succ {α β : Type} {f : α → List β} {l : List α} {k : Nat} (hk : k < l.length) : (l.take (k + 1)).flatMap f = (l.take k).flatMap f ++ f l[k] := by
  rw [List.take_succ_eq_append_getElem hk, List.flatMap_append]; simp
end Go.Proofs.Ytihahmggfjjkjaa
namespace Go.Proofs.Ytihahmggfjjkjaa
open Go.AM Go.IntWalk Go.PL
set_option maxRecDepth 100000
set_option maxHeartbeats 4000000
set_option linter.unusedSimpArgs false
variable {H : AH} {R : AV → AH → Prop}
theorem allE_mem {s : Series} {t : Truth} (h : t ∈ allE s) : t.1.length = s.groups.length := by
  simp only [allE, List.mem_flatMap, List.mem_map] at h
  obtain ⟨g, hg, m, _, rfl⟩ := h
  exact gAll_mem hg
theorem truthsE_mem {s : Series} {but : List Int} {t : Truth} (h : t ∈ truthsE s but) : t.1.length = s.groups.length := allE_mem (List.mem_filter.1 h).1
theorem allE_length {s : Series} (hf : Fine s) : (allE s).length ≤ 17039360 := by
  have h1 := gAll_length hf.len.2 hf.gl
  have h2 := allE_len hf.len.2 (gAll s)
  have : (allE s).length ≤ (gAll s).length * 65 := h2
  omega
theorem truthsE_length {s : Series} {but : List Int} (hf : Fine s) : (truthsE s but).length ≤ 17039360 := Nat.le_trans (List.length_filter_le _ _) (allE_length hf)
def soK (s : Series) (but : List Int) (t : Truth) (k : Nat) : Bool := decide ((k : Int) ∈ but) || decide (onE t (s.filled.getD k (0, 0)).1 = (s.filled.getD k (0, 0)).2)
theorem soE_eq {s : Series} {but : List Int} {t : Truth} : soE s but t = (List.range s.filled.length).all (soK s but t) := rfl
def indexE (s : Series) (n below : Int) : Int := if errE s = 0 then (if 0 ≤ n ∧ n ≤ below - 1 then 0 else 4) else errE s
end Go.Proofs.Ytihahmggfjjkjaa
namespace Go.Proofs.Ytihahmggfjjkjaa
open Go.AM Go.IntWalk Go.PL
set_option maxRecDepth 100000
set_option maxHeartbeats 4000000
set_option linter.unusedSimpArgs false
variable {H : AH} {R : AV → AH → Prop}
theorem fine_of {s : Series} (he : errE s = 0) : Fine s := by
  unfold errE checkE at he
  split at he
  · cases he
  · rename_i h1
    split at he
    · rename_i h2; exact absurd he h2
    · rename_i h2
      unfold checkG at he
      split at he
      · cases he
      · rename_i h3
        split at he
        · rename_i n e hf
          exact absurd he (firstErr_ne hf)
        · rename_i hg
          unfold checkF at he
          split at he
          · cases he
          · rename_i h4
            split at he
            · rename_i n e hf
              exact absurd he (firstErr_ne hf)
            · rename_i hf
              have g0 := firstErr_none' hg
              have f0 := firstErr_none' hf
              have h1' : 1 ≤ s.len ∧ s.len ≤ 8 := Classical.not_not.1 h1
              have h2' : lastE s = 0 := Classical.not_not.1 h2
              have hlast : endsE s.lo s.hi 1 8 = 0 ∧ s.hi - s.lo ≤ 2 := by
                unfold lastE at h2'
                split at h2'
                · rename_i h; exact absurd h2' h
                · rename_i h
                  split at h2'
                  · cases h2'
                  · exact ⟨Classical.not_not.1 h, by omega⟩
              have he := endsE_in hlast.1
              refine ⟨h1', by omega, by omega, fun b hb => ?_, by omega, fun x hx => ?_⟩
              · obtain ⟨j, hj, rfl⟩ := List.getElem_of_mem hb
                have := g0 j hj
                unfold groupE at this
                split at this
                · cases this
                · rename_i h; exact Classical.not_not.1 h
              · obtain ⟨j, hj, rfl⟩ := List.getElem_of_mem hx
                have := f0 j hj
                unfold filledE at this
                split at this
                · cases this
                · rename_i h
                  split at this
                  · cases this
                  · split at this
                    · cases this
                    · split at this
                      · rename_i h5
                        have := Classical.not_not.1 h
                        omega
                      · cases this
theorem indexE_zero {s : Series} {n below : Int} (hi : indexE s n below = 0) : Fine s ∧ 0 ≤ n ∧ n < below := by
  unfold indexE at hi
  split at hi
  · rename_i he
    split at hi
    · rename_i hn
      exact ⟨fine_of he, by omega⟩
    · cases hi
  · rename_i he; exact absurd hi he
def numE (ts : List Truth) (d : Int) : Int × Int := hull (ts.map fun t => (onE t d, onE t d))
def numberE (s : Series) (d : Int) : (Int × Int) × Int :=
  if indexE s d s.len ≠ 0 then ((0, 0), indexE s d s.len) else if truthsE s [] = [] then ((0, 0), 8) else (numE (truthsE s []) d, 0)
theorem onE_bound {t : Truth} {d : Int} : 0 ≤ onE t d ∧ onE t d ≤ t.1.length + 1 := by
  unfold onE
  have h := List.countP_le_length (p := inS d) (l := t.1 ++ t.2.toList)
  have h2 := toList_length t.2
  rw [List.length_append] at h
  omega
end Go.Proofs.Ytihahmggfjjkjaa
namespace Go.Proofs.Ytihahmggfjjkjaa
open Go.AM Go.IntWalk Go.PL
set_option maxRecDepth 100000
set_option maxHeartbeats 4000000
set_option linter.unusedSimpArgs false
variable {H : AH} {R : AV → AH → Prop}
theorem mem_staysRow {s : Series} {bits : Int} {lo m : Nat} {x : Int × Int} : x ∈ staysRow s bits lo m ↔ ∃ hi : Nat, hi < m ∧ lo ≤ hi ∧ fits s bits lo hi = true ∧ x = ((lo : Int), (hi : Int)) := by
  simp only [staysRow, List.mem_filterMap, List.mem_range]
  constructor
  · rintro ⟨hi, h1, h2⟩
    split at h2
    · rename_i hc
      simp only [Option.some.injEq] at h2
      exact ⟨hi, h1, hc.1, hc.2, h2.symm⟩
    · cases h2
  · rintro ⟨hi, h1, h2, h3, rfl⟩
    exact ⟨hi, h1, by rw [if_pos ⟨h2, h3⟩]⟩
theorem mem_stays {s : Series} {bits : Int} {x : Int × Int} : x ∈ staysE s bits ↔ ∃ lo hi : Nat, lo ≤ hi ∧ hi < s.len ∧ fits s bits lo hi = true ∧ x = ((lo : Int), (hi : Int)) := by
  simp only [staysE, staysTo, List.mem_flatMap, List.mem_range, mem_staysRow]
  constructor
  · rintro ⟨lo, h1, hi, h2, h3, h4, h5⟩
    exact ⟨lo, hi, h3, h2, h4, h5⟩
  · rintro ⟨lo, hi, h1, h2, h3, h4⟩
    exact ⟨lo, by omega, hi, h2, h1, h3, h4⟩
def getP (l : List (Int × Int)) (k : Nat) : Int × Int := l.getD k (0, 0)
theorem getP_eq {l : List (Int × Int)} {k : Nat} (h : k < l.length) : getP l k = l[k] := by simp [getP, h]
theorem getP_snoc {l : List (Int × Int)} {x : Int × Int} {k : Nat} : getP (l ++ [x]) k = if k = l.length then x else getP l k := by
  unfold getP
  split
  · rename_i h; subst h; simp
  · rename_i h
    rw [List.getD_eq_getElem?_getD, List.getD_eq_getElem?_getD]
    by_cases h1 : k < l.length
    · rw [List.getElem?_append_left h1]
    · rw [List.getElem?_append_right (by omega), List.getElem?_eq_none (by simp; omega), List.getElem?_eq_none (by omega)]
def getG (s : Series) (k : Nat) : Int := s.groups.getD k 0
theorem mem_gFold {s : Series} (l : List Int) (o : List (Int × Int)) : o ∈ l.foldl (gStep s) [[]] ↔ o.length = l.length ∧ ∀ i, i < l.length → getP o i ∈ staysE s (l.getD i 0) := by
  have : ∀ (m : List Int) (l : List Int) (out : List (List (Int × Int))), (∀ o, o ∈ out ↔ o.length = l.length ∧ ∀ i, i < l.length → getP o i ∈ staysE s (l.getD i 0)) →
      ∀ o, o ∈ m.foldl (gStep s) out ↔ o.length = (l ++ m).length ∧ ∀ i, i < (l ++ m).length → getP o i ∈ staysE s ((l ++ m).getD i 0) := fun m => by
    induction m with
    | nil => intro l out h o; simpa using h o
    | cons b m ih =>
      intro l out h o
      have := ih (l ++ [b]) (gStep s out b) (fun o => by
        simp only [gStep, List.mem_flatMap, List.mem_map]
        constructor
        · rintro ⟨o', h1, x, h2, rfl⟩
          obtain ⟨h3, h4⟩ := (h o').1 h1
          refine ⟨by simp [h3], fun i hi => ?_⟩
          rw [getP_snoc, h3]
          simp only [List.length_append, List.length_singleton] at hi
          by_cases e : i = l.length
          · subst e; simpa using h2
          · rw [if_neg e]
            have := h4 i (by omega)
            rw [List.getD_eq_getElem?_getD, List.getElem?_append_left (by omega), ← List.getD_eq_getElem?_getD]
            exact this
        · rintro ⟨h1, h2⟩
          have hne : o ≠ [] := fun e => by rw [e] at h1; simp at h1
          have hd := List.dropLast_concat_getLast hne
          have hdl : o.dropLast.length = l.length := by rw [List.length_dropLast, h1]; simp
          refine ⟨o.dropLast, (h _).2 ⟨hdl, fun i hi => ?_⟩, o.getLast hne, ?_, hd⟩
          · have := h2 i (by simp; omega)
            rw [← hd, getP_snoc, if_neg (by omega), List.getD_eq_getElem?_getD, List.getElem?_append_left (by omega), ← List.getD_eq_getElem?_getD] at this
            exact this
          · have := h2 l.length (by simp)
            rw [← hd, getP_snoc, if_pos hdl.symm] at this
            simpa using this) o
      simpa using this
  have := this l [] [[]] (fun o => by simp) o
  simpa using this
theorem mem_gAll {s : Series} {o : List (Int × Int)} : o ∈ gAll s ↔ o.length = s.groups.length ∧ ∀ i, i < s.groups.length → getP o i ∈ staysE s (getG s i) := mem_gFold _ _
theorem mem_moreE {s : Series} {m : Option (Int × Int)} : m ∈ moreE s ↔ m = none ∨ (s.unseen = true ∧ ∃ x ∈ staysE s 0, m = some x) := by
  unfold moreE
  split
  · rename_i h
    simp only [List.mem_cons, List.mem_map, h, true_and]
    constructor
    · rintro (h | ⟨x, h1, h2⟩)
      · exact .inl h
      · exact .inr ⟨x, h1, h2.symm⟩
    · rintro (h | ⟨x, h1, h2⟩)
      · exact .inl h
      · exact .inr ⟨x, h1, h2.symm⟩
  · rename_i h; simp [h]
theorem mem_allE {s : Series} {t : Truth} : t ∈ allE s ↔ (t.1.length = s.groups.length ∧ ∀ i, i < s.groups.length → getP t.1 i ∈ staysE s (getG s i)) ∧ (t.2 = none ∨ (s.unseen = true ∧ ∃ x ∈ staysE s 0, t.2 = some x)) := by
  rw [← mem_gAll, ← mem_moreE]
  simp only [allE, List.mem_flatMap, List.mem_map]
  constructor
  · rintro ⟨g, hg, m, hm, rfl⟩; exact ⟨hg, hm⟩
  · rintro ⟨h1, h2⟩; exact ⟨t.1, h1, t.2, h2, rfl⟩
theorem mem_truthsE {s : Series} {but : List Int} {t : Truth} : t ∈ truthsE s but ↔ t ∈ allE s ∧ soE s but t = true := List.mem_filter
theorem truth_get {s : Series} {but : List Int} {t : Truth} (h : t ∈ truthsE s but) {i : Nat} (hi : i < s.groups.length) : ∃ lo hi : Nat, lo ≤ hi ∧ hi < s.len ∧ fits s (getG s i) lo hi = true ∧ getP t.1 i = ((lo : Int), (hi : Int)) := mem_stays.1 ((mem_allE.1 (mem_truthsE.1 h).1).1.2 i hi)
def daysE (x : Int × Int) : Int := x.2 - x.1 + 1
def lastsE (ts : List Truth) (g : Nat) : Int × Int := hull (ts.map fun t => (daysE (getP t.1 g), daysE (getP t.1 g)))
def lastedE (s : Series) (g : Int) : (Int × Int) × Int :=
  if indexE s g s.groups.length ≠ 0 then ((0, 0), indexE s g s.groups.length) else if truthsE s [] = [] then ((0, 0), 8) else (lastsE (truthsE s []) g.toNat, 0)
def settledE (a b : Int) : Int := if a = b then 1 else if a = 0 then 2 else 0
def thereErr (s : Series) (g d : Int) : Int := if indexE s g s.groups.length = 0 then indexE s d s.len else indexE s g s.groups.length
def thereE (s : Series) (g d : Int) : Int × Int :=
  if thereErr s g d ≠ 0 then (0, thereErr s g d) else if truthsE s [] = [] then (0, 8) else (settledE (((truthsE s []).countP fun t => inS d (getP t.1 g.toNat) : Nat) : Int) (truthsE s []).length, 0)
end Go.Proofs.Ytihahmggfjjkjaa
namespace Go.Proofs.Ytihahmggfjjkjaa
open Go.AM Go.IntWalk Go.PL
set_option maxRecDepth 100000
set_option maxHeartbeats 4000000
set_option linter.unusedSimpArgs false
variable {H : AH} {R : AV → AH → Prop}
def unseenE (s : Series) : Int × Int :=
  if errE s ≠ 0 then (0, errE s) else if truthsE s [] = [] then (0, 8) else (settledE (((truthsE s []).countP fun t => t.2.isSome : Nat) : Int) (truthsE s []).length, 0)
end Go.Proofs.Ytihahmggfjjkjaa
namespace Go.Proofs.Ytihahmggfjjkjaa
open Go.AM Go.IntWalk Go.PL
set_option maxRecDepth 100000
set_option maxHeartbeats 4000000
set_option linter.unusedSimpArgs false
variable {H : AH} {R : AV → AH → Prop}
theorem eqsP (p q : Int × Int) : eqFlatA true [.i, .i] (.agg [I p.1, I p.2]) (.agg [I q.1, I q.2]) = some (decide (p = q)) := by
  by_cases h : p = q
  · subst h; rw [decide_eq_true rfl]; exact eqs2 _ _
  · rw [decide_eq_false h]; exact eqs_ne h
theorem Spans_run (v w : AV) (l m : List (Int × Int)) (hv : IsSl 2 EP (Old H) H v l) (hw : IsSl 2 EP (Old H) H w m) (hl : l.length < 9000000000000000000) (k : R (.bool (decide (l = m))) H) : CallQ prog (.func 29 [] []) [v, w] H R := by
  by_cases hlen : l.length = m.length
  · have hlen' : (l.length : Int) = m.length := by omega
    refine CallQ_enter (fn:=c29) rfl (Nat.le_of_ble_eq_true rfl) ?_;simp(maxSteps:=9999999)(disch:=first|omega|(simp only[AN];omega))only[c29,envFrom,hv.len,hw.len,hlen',↓KP,EN,↓reduceIte,reduceCtorEq,Nat.reduceEqDiff,Nat.reduceAdd,Nat.reduceLeDiff,Nat.reduceMul]
    refine K_loop (fun mz ez H1 => ∃ (i : Nat) (b : Bool) (tail : Env), ez = (0, v) :: (1, w) :: (4, .bool false) :: (5, .bool b) :: (6, I i) :: tail ∧ (H1 = H) ∧ (i ≤ m.length) ∧ (b = decide (l.take i = m.take i)) ∧ (b = false → l ≠ m) ∧ mz = m.length - i) _ ⟨0, true, _, rfl, ?_, ?_, ?_, (by intro h; cases h), rfl⟩ ?_
    iterate 3 (focus (first|(with_reducible rfl)|omega|(with_reducible(repeat first|exact Grew.refl _|assumption|apply Grew.alloc|refine Grew.set ?_ _ (by first|omega|(simp only[AN];omega)));done)|(simp(maxSteps:=9999999)(disch:=first|omega|(simp only[AN];omega))only[↓KP,EN,↓reduceIte,reduceCtorEq,Nat.reduceEqDiff,Nat.reduceAdd,Nat.reduceLeDiff,Nat.reduceMul]<;>first|omega|rfl)|(simp;done)|rfl))
    rintro mz ez H1 ⟨i, b, tail, rfl, hH, hi, hb, hb2, hmz⟩; subst mz
    subst H1
    have done : ∀ {b : Bool}, b = decide (l = m) → R (.bool b) H := fun h => by rw [h]; exact k
    cases b with
    | false =>
      simp(maxSteps:=9999999)(disch:=first|omega|(simp only[AN];omega))only[↓KP,EN,↓reduceIte,reduceCtorEq,Nat.reduceEqDiff,Nat.reduceAdd,Nat.reduceLeDiff,Nat.reduceMul]
      exact done (decide_eq_false (hb2 rfl)).symm
    | true =>
      simp(maxSteps:=9999999)(disch:=first|omega|(simp only[AN];omega))only[hv.len,hlen',↓KP,EN,↓reduceIte,reduceCtorEq,Nat.reduceEqDiff,Nat.reduceAdd,Nat.reduceLeDiff,Nat.reduceMul]
      refine C_decide (fun hc => ?_) (fun hc => ?_)
      · have hi' : i < m.length := by omega
        have hi'' : i < l.length := by omega
        obtain ⟨pb, pi, pro, pvs, plt, p⟩ := rdP hv (k := i) rfl hi''
        obtain ⟨qb, qi, qro, qvs, qlt, q⟩ := rdP hw (k := i) rfl hi'
        have e1 : IntKind.i64.wrap ((i : Int) + 1) = ((i + 1 : Nat) : Int) := i64_in _ (by omega)
        simp(maxSteps:=9999999)(disch:=first|omega|(simp only[AN];omega))only[↓KP,EN,↓reduceIte,reduceCtorEq,Nat.reduceEqDiff,Nat.reduceAdd,Nat.reduceLeDiff,Nat.reduceMul]
        refine K_draw ?_;simp(maxSteps:=9999999)(disch:=first|omega|(simp only[AN];omega))only[p,q,e1,eqsP,↓KP,EN,↓reduceIte,reduceCtorEq,Nat.reduceEqDiff,Nat.reduceAdd,Nat.reduceLeDiff,Nat.reduceMul]
        simp only [true_eq_decide_iff] at hb
        have hnew : decide (l[i] = m[i]) = decide (l.take (i + 1) = m.take (i + 1)) := by
          rw [List.take_succ_eq_append_getElem hi', List.take_succ_eq_append_getElem hi'', hb, decide_eq_decide]
          exact ⟨fun e => by rw [e], fun e => by have := List.append_cancel_left e; simpa using this⟩
        exact ⟨_, by omega, i + 1, _, _, rfl, (by first|omega|(with_reducible assumption)|(with_reducible(repeat first|exact Grew.refl _|assumption|apply Grew.alloc|refine Grew.set ?_ _ (by first|omega|(simp only[AN];omega)));done)|(simp(maxSteps:=9999999)(disch:=first|omega|(simp only[AN];omega))only[↓KP,EN,↓reduceIte,reduceCtorEq,Nat.reduceEqDiff,Nat.reduceAdd,Nat.reduceLeDiff,Nat.reduceMul]<;>first|omega|rfl)), (by first|omega|(with_reducible assumption)|(with_reducible(repeat first|exact Grew.refl _|assumption|apply Grew.alloc|refine Grew.set ?_ _ (by first|omega|(simp only[AN];omega)));done)|(simp(maxSteps:=9999999)(disch:=first|omega|(simp only[AN];omega))only[↓KP,EN,↓reduceIte,reduceCtorEq,Nat.reduceEqDiff,Nat.reduceAdd,Nat.reduceLeDiff,Nat.reduceMul]<;>first|omega|rfl)), (by exact hnew), (by intro h e; subst e; simp at h), rfl⟩
      · have hie : i = m.length := by omega
        subst hie
        rw [List.take_length, List.take_of_length_le (by omega)] at hb
        simp(maxSteps:=9999999)(disch:=first|omega|(simp only[AN];omega))only[↓KP,EN,↓reduceIte,reduceCtorEq,Nat.reduceEqDiff,Nat.reduceAdd,Nat.reduceLeDiff,Nat.reduceMul]
        exact done hb
  · have hlen' : ¬ (l.length : Int) = m.length := by omega
    refine CallQ_enter (fn:=c29) rfl (Nat.le_of_ble_eq_true rfl) ?_;simp(maxSteps:=9999999)(disch:=first|omega|(simp only[AN];omega))only[c29,envFrom,hv.len,hw.len,hlen',↓KP,EN,↓reduceIte,reduceCtorEq,Nat.reduceEqDiff,Nat.reduceAdd,Nat.reduceLeDiff,Nat.reduceMul]
    refine K_loop (fun m e H' => e = [(0, v), (1, w), (4, .bool false), (5, .bool false), (6, I 0)] ∧ H' = H) 0 ⟨rfl, rfl⟩ ?_
    rintro _ e H' ⟨rfl, rfl⟩
    simp(maxSteps:=9999999)(disch:=first|omega|(simp only[AN];omega))only[↓KP,EN,↓reduceIte,reduceCtorEq,Nat.reduceEqDiff,Nat.reduceAdd,Nat.reduceLeDiff,Nat.reduceMul]
    have : decide (l = m) = false := by rw [decide_eq_false_iff_not]; intro e; exact hlen (by rw [e])
    rw [this] at k
    exact k
def firstE (s : Series) : List (Int × Int) × Int :=
  if errE s ≠ 0 then ([], errE s) else match truthsE s [] with | [] => ([], 8) | t :: _ => (t.1, 0)
def openStep (s : Series) (ts : List Truth) (a : Int × Int) (d : Nat) : Int × Int := if lk s d = false ∧ a.2 < (numE ts d).2 - (numE ts d).1 then ((d : Int), (numE ts d).2 - (numE ts d).1) else a
def openTo (s : Series) (ts : List Truth) (n : Nat) : Int × Int := (List.range n).foldl (openStep s ts) (0, 0)
def openE (s : Series) : Int × Int × Int :=
  if errE s ≠ 0 then (0, 0, errE s) else if truthsE s [] = [] then (0, 0, 8) else
    if (openTo s (truthsE s []) s.len).2 = 0 then (0, 0, 9) else ((openTo s (truthsE s []) s.len).1, (openTo s (truthsE s []) s.len).2, 0)
theorem numE_bound {ts : List Truth} {d : Int} (h0 : ts ≠ []) (h : ∀ t ∈ ts, t.1.length ≤ 1000) : 0 ≤ (numE ts d).1 ∧ (numE ts d).1 ≤ (numE ts d).2 ∧ (numE ts d).2 ≤ 1001 := by
  have hne : (ts.map fun t => (onE t d, onE t d)) ≠ [] := by simpa using h0
  obtain ⟨h1, ⟨x, hx, e1⟩, ⟨y, hy, e2⟩⟩ := hull_spec hne
  simp only [List.mem_map] at hx hy
  obtain ⟨t, ht, rfl⟩ := hx
  obtain ⟨u, hu, rfl⟩ := hy
  have b1 := onE_bound (t := t) (d := d)
  have b2 := onE_bound (t := u) (d := d)
  have l1 := h t ht
  have l2 := h u hu
  have := h1 (onE u d, onE u d) (List.mem_map.2 ⟨u, hu, rfl⟩)
  unfold numE
  simp only at e1 e2 this
  omega
end Go.Proofs.Ytihahmggfjjkjaa
namespace Go.Proofs.Ytihahmggfjjkjaa
open Go.AM Go.IntWalk Go.PL
set_option maxRecDepth 100000
set_option maxHeartbeats 4000000
set_option linter.unusedSimpArgs false
variable {H : AH} {R : AV → AH → Prop}
def candTo (n m : Nat) : List (List Int) := (List.range m).flatMap fun k => choicesE n k
def goodE (s : Series) (c : List Int) : Bool := decide (truthsE s c ≠ [])
def wrongE (s : Series) : List Int × Int :=
  if errE s ≠ 0 then ([], errE s) else match (candTo s.filled.length (s.filled.length + 1)).find? (goodE s) with | some c => (c, 0) | none => ([], 8)
end Go.Proofs.Ytihahmggfjjkjaa
