import PyProof.Rows.All
import Wide.All
import OpenK.AllK
import Wide.FinOn
import PySem.Challenge.RW_k8_0042
set_option Elab.async false
set_option maxRecDepth 100000
set_option linter.unusedVariables false
set_option maxHeartbeats 4000000
namespace Mine
section
open PySem
inductive AV where
  | int (i : Int) | bool (b : Bool) | none | str (x : Str) | ref (a : Nat) | typ (n : String)
inductive AO where
  | li (xs : List Int) | tup (vs : List AV) | ls (xs : List Str)
abbrev AH := List (Nat × AO)
abbrev AM := String → Option AV
abbrev QV := AV → AH → Prop
abbrev XV := String → AH → Prop
abbrev QN := AM → AH → Prop
abbrev XS := String → AM → AH → Prop

def Fresh (H : AH) (l : Nat) : Prop := ∀ p ∈ H, p.1 < l
def Has (S H : AH) (a : Nat) (o : AO) : Prop := (a, o) ∈ S ∨ (a, o) ∈ H
def hupd (H : AH) (a : Nat) (o : AO) : AH := H.map fun p => if p.1 = a then (a, o) else p
def mset (ρ : AM) (x : String) (v : AV) : AM := fun y => if y = x then some v else ρ y
/-- a sub-ledger on which P holds -/
def Weak (P : AH → Prop) (H : AH) : Prop := ∃ H', (∀ p ∈ H', p ∈ H) ∧ P H'

structure Cx where
  S : AH
  G : String → Option AV
  fn : String → List AV → AH → QV → XV → Prop

mutual
inductive PE where
  | int (i : Int) | str (x : Str) | bool (b : Bool) | none
  | typ (n : String)
  | loc (x : String) | glob (x : String)
  | bin (op : Operator) (l r : PE)
  | neg (e : PE)
  | not (e : PE)
  | cmp (op : CmpOp) (l r : PE)
  | and (l r : PE) | or (l r : PE)
  | ife (c t e : PE)
  | idx (e i : PE)
  | slAll (e : PE) | slTo (e hi : PE) | slFrom (e lo : PE)
  | tup (es : PEs)
  | lst0 | lst1 (e : PE)
  | call (f : String) (es : PEs)
  | len (e : PE) | max (a b : PE) | min (a b : PE) | abs (e : PE)
  | strOf (e : PE) | typeOf (e : PE) | boolOf (e : PE)
  | append (o x : PE)
  | zfill (o n : PE) | join (o x : PE)
  | allInt (e : PE)
inductive PEs where
  | nil | cons (e : PE) (es : PEs)
end

inductive PS where
  | skip
  | seq (a b : PS)
  | assign (x : String) (e : PE)
  | aug (x : String) (op : Operator) (e : PE)
  | setidx (o i e : PE)
  | unpack (x y : String) (e : PE)
  | swap (x y : String) (a b : PE)
  | expr (e : PE)
  | ite (c : PE) (t e : PS)
  | ret (e : PE)
  | whl (c : PE) (b : PS)
  | for1 (x : String) (n : PE) (b : PS)
  | for2 (x : String) (lo hi : PE) (b : PS)
  | forDown (x : String) (a : PE) (b : PS)
  | forList (x : String) (e : PE) (b : PS)
  | raise (cls : String) (msg : Str)
  | try1 (b : PS) (cls : String) (h : PS)

def MulOk (a b : Int) : Prop := (-(2 ^ 63) ≤ b ∧ b < 2 ^ 63) ∨ (-(2 ^ 63) ≤ a ∧ a < 2 ^ 63) ∨ (a.natAbs < 2 ^ 4000 ∧ b.natAbs < 2 ^ 4000)
def PowOk (a n : Int) : Prop := 0 ≤ n ∧ n ≤ 1000000 ∧ a.natAbs < 2 ^ 64
def BIG : Nat := 1000000

def opW (S : AH) : Operator → AV → AV → AH → QV → Prop
  | .Add, .int a, .int b, H, Q => Q (.int (a + b)) H
  | .Sub, .int a, .int b, H, Q => Q (.int (a - b)) H
  | .Mult, .int a, .int b, H, Q => MulOk a b ∧ Q (.int (a * b)) H
  | .FloorDiv, .int a, .int b, H, Q => 0 < b ∧ Q (.int (a / b)) H
  | .Mod, .int a, .int b, H, Q => 0 < b ∧ Q (.int (a % b)) H
  | .Pow, .int a, .int b, H, Q => PowOk a b ∧ Q (.int (a ^ b.toNat)) H
  | .Add, .ref a, .ref b, H, Q => ∃ xs ys, Has S H a (.li xs) ∧ Has S H b (.li ys) ∧ xs.length + ys.length ≤ BIG ∧ ∀ l, Fresh H l → Q (.ref l) ((l, .li (xs ++ ys)) :: H)
  | .Mult, .ref a, .int k, H, Q => ∃ x, (a, .li [x]) ∈ H ∧ 0 ≤ k ∧ k ≤ BIG ∧ ∀ l, Fresh H l → Q (.ref l) ((l, .li (List.replicate k.toNat x)) :: H)
  | _, _, _, _, _ => False

/-- x op= y on ints -/
def augW : Operator → AV → AV → AH → QV → Prop
  | .Add, .int a, .int b, H, Q => Q (.int (a + b)) H
  | .Sub, .int a, .int b, H, Q => Q (.int (a - b)) H
  | _, _, _, _, _ => False

/-- equal data: what == says of two values -/
inductive AEq (S H : AH) : Nat → AV → AV → Bool → Prop
  | int (a b : Int) {k : Nat} : AEq S H k (.int a) (.int b) (decide (a = b))
  | li {a b k : Nat} {xs ys : List Int} : Has S H a (.li xs) → Has S H b (.li ys) → AEq S H k (.ref a) (.ref b) (decide (xs = ys))
  | tup2 {a b k : Nat} {u₁ u₂ v₁ v₂ : AV} {b₁ b₂ : Bool} : Has S H a (.tup [u₁, u₂]) → Has S H b (.tup [v₁, v₂]) → AEq S H k u₁ v₁ b₁ → AEq S H k u₂ v₂ b₂ → AEq S H (k + 1) (.ref a) (.ref b) (b₁ && b₂)

def cmpW (S : AH) : CmpOp → AV → AV → AH → QV → Prop
  | .Lt, .int a, .int b, H, Q => Q (.bool (decide (a < b))) H
  | .LtE, .int a, .int b, H, Q => Q (.bool (decide (a ≤ b))) H
  | .Gt, .int a, .int b, H, Q => Q (.bool (decide (a > b))) H
  | .GtE, .int a, .int b, H, Q => Q (.bool (decide (a ≥ b))) H
  | .Eq, .int a, .int b, H, Q => Q (.bool (a == b)) H
  | .NotEq, .int a, .int b, H, Q => Q (.bool (a != b)) H
  | .Eq, .bool a, .bool b, H, Q => Q (.bool (a == b)) H
  | .NotEq, .bool a, .bool b, H, Q => Q (.bool (a != b)) H
  | .Eq, .str a, .str b, H, Q => Q (.bool (a == b)) H
  | .NotEq, .str a, .str b, H, Q => Q (.bool (a != b)) H
  | .Eq, .ref a, .ref b, H, Q => ∃ c, AEq S H 8 (.ref a) (.ref b) c ∧ Q (.bool c) H
  | .NotEq, .ref a, .ref b, H, Q => ∃ c, AEq S H 8 (.ref a) (.ref b) c ∧ Q (.bool (!c)) H
  | .Is, .bool a, .bool b, H, Q => Q (.bool (a == b)) H
  | .IsNot, .bool a, .bool b, H, Q => Q (.bool (a != b)) H
  | .Is, .none, .bool _, H, Q => Q (.bool false) H
  | .IsNot, .none, .bool _, H, Q => Q (.bool true) H
  | .Is, .typ a, .typ b, H, Q => Q (.bool (a == b)) H
  | .IsNot, .typ a, .typ b, H, Q => Q (.bool (a != b)) H
  | _, _, _, _, _ => False

def truW : AV → AH → (Bool → AH → Prop) → Prop
  | .bool b, H, Q => Q b H
  | _, _, _ => False

def lenW (S : AH) : AV → AH → QV → Prop
  | .ref a, H, Q => ∃ o, Has S H a o ∧ (match o with
      | .li xs => xs.length ≤ BIG ∧ Q (.int xs.length) H
      | .tup vs => vs.length ≤ BIG ∧ Q (.int vs.length) H
      | .ls _ => False)
  | _, _, _ => False

def idxW (S : AH) : AV → AV → AH → QV → Prop
  | .ref a, .int i, H, Q => ∃ o, Has S H a o ∧ (match o with
      | .li xs => 0 ≤ i ∧ i < xs.length ∧ i < 2 ^ 62 ∧ Q (.int (xs.getD i.toNat 0)) H
      | .tup vs => 0 ≤ i ∧ i < vs.length ∧ i < 2 ^ 62 ∧ ∃ v, vs[i.toNat]? = some v ∧ Q v H
      | .ls _ => False)
  | _, _, _, _ => False

def sliceW (S : AH) (pick : List Int → List Int) : AV → AH → QV → Prop
  | .ref a, H, Q => ∃ xs, Has S H a (.li xs) ∧ xs.length ≤ BIG ∧ ∀ l, Fresh H l → Q (.ref l) ((l, .li (pick xs)) :: H)
  | _, _, _ => False
/-- where a cut k falls in a list of n items -/
def cutAt (k : Int) (n : Nat) : Nat := if k < 0 then (k + n).toNat else min k.toNat n

def intW : AV → (Int → Prop) → Prop
  | .int i, P => P i
  | _, _ => False
def strW : AV → (Str → Prop) → Prop
  | .str i, P => P i
  | _, _ => False

def typW (S : AH) : AV → AH → QV → Prop
  | .int _, H, Q => Q (.typ "int") H
  | .bool _, H, Q => Q (.typ "bool") H
  | .str _, H, Q => Q (.typ "str") H
  | .ref a, H, Q => ∃ o, Has S H a o ∧ (match o with
      | .li _ => Q (.typ "list") H
      | .tup _ => Q (.typ "tuple") H
      | .ls _ => Q (.typ "list") H)
  | _, _, _ => False

/-- ahead of an append's argument the list must stand -/
def apW (u : AV) (H : AH) (K : Prop) : Prop := (∃ a o, u = .ref a ∧ (a, o) ∈ H ∧ ((∃ xs, o = .li xs) ∨ ∃ xs, o = .ls xs)) ∧ K
def appW : AV → AV → AH → QV → Prop
  | .ref a, .int i, H, Q => ∃ xs, (a, .li xs) ∈ H ∧ xs.length ≤ BIG ∧ Q .none (hupd H a (.li (xs ++ [i])))
  | .ref a, .str x, H, Q => ∃ xs, (a, .ls xs) ∈ H ∧ xs.length ≤ BIG ∧ Q .none (hupd H a (.ls (xs ++ [x])))
  | _, _, _, _ => False

/-- s.zfill(k) on a text of digits: zeros ahead up to k signs -/
def zfillW : AV → AV → AH → QV → Prop
  | .str x, .int k, H, Q => 0 ≤ k ∧ k ≤ 100 ∧ x.length ≤ 100 ∧ (∀ c ∈ x.cps.toList, 48 ≤ c ∧ c ≤ 57) ∧ Q (.str ⟨(List.replicate (k.toNat - x.length) 48 ++ x.cps.toList).toArray⟩) H
  | _, _, _, _ => False
/-- "".join(xs) -/
def joinW (S : AH) : AV → AV → AH → QV → Prop
  | .str x, .ref a, H, Q => x = ⟨#[]⟩ ∧ ∃ xs, Has S H a (.ls xs) ∧ xs.length ≤ 1000 ∧ (∀ y ∈ xs, y.length ≤ 1000) ∧ Q (.str ⟨(xs.flatMap fun y => y.cps.toList).toArray⟩) H
  | _, _, _, _ => False

def setW : AV → AV → AV → AH → (AH → Prop) → Prop
  | .ref a, .int k, .int v, H, Q => ∃ xs, (a, .li xs) ∈ H ∧ 0 ≤ k ∧ k < xs.length ∧ k < 2 ^ 62 ∧ Q (hupd H a (.li (xs.set k.toNat v)))
  | _, _, _, _, _ => False

mutual
def W (C : Cx) : PE → AM → AH → QV → XV → Prop
  | .int i, _, H, Q, _ => Q (.int i) H
  | .str x, _, H, Q, _ => Q (.str x) H
  | .bool b, _, H, Q, _ => Q (.bool b) H
  | .none, _, H, Q, _ => Q .none H
  | .typ n, _, H, Q, _ => Q (.typ n) H
  | .loc x, ρ, H, Q, _ => ∃ v, ρ x = some v ∧ Q v H
  | .glob x, _, H, Q, _ => ∃ v, C.G x = some v ∧ Q v H
  | .bin op l r, ρ, H, Q, X => W C l ρ H (fun u H₁ => W C r ρ H₁ (fun v H₂ => opW C.S op u v H₂ Q) X) X
  | .neg e, ρ, H, Q, X => W C e ρ H (fun v H₁ => intW v fun i => Q (.int (-i)) H₁) X
  | .not e, ρ, H, Q, X => W C e ρ H (fun v H₁ => truW v H₁ fun b H₂ => Q (.bool (!b)) H₂) X
  | .cmp op l r, ρ, H, Q, X => W C l ρ H (fun u H₁ => W C r ρ H₁ (fun v H₂ => cmpW C.S op u v H₂ Q) X) X
  | .and l r, ρ, H, Q, X => W C l ρ H (fun u H₁ => truW u H₁ fun b H₂ => if b = true then W C r ρ H₂ Q X else Q (.bool b) H₂) X
  | .or l r, ρ, H, Q, X => W C l ρ H (fun u H₁ => truW u H₁ fun b H₂ => if b = true then Q (.bool b) H₂ else W C r ρ H₂ Q X) X
  | .ife c t e, ρ, H, Q, X => W C c ρ H (fun u H₁ => truW u H₁ fun b H₂ => if b = true then W C t ρ H₂ Q X else W C e ρ H₂ Q X) X
  | .idx e i, ρ, H, Q, X => W C e ρ H (fun u H₁ => W C i ρ H₁ (fun v H₂ => idxW C.S u v H₂ Q) X) X
  | .slAll e, ρ, H, Q, X => W C e ρ H (fun u H₁ => sliceW C.S (fun xs => xs) u H₁ Q) X
  | .slTo e k, ρ, H, Q, X => W C e ρ H (fun u H₁ => W C k ρ H₁ (fun v H₂ => intW v fun i => sliceW C.S (fun xs => xs.take (cutAt i xs.length)) u H₂ Q) X) X
  | .slFrom e k, ρ, H, Q, X => W C e ρ H (fun u H₁ => W C k ρ H₁ (fun v H₂ => intW v fun i => sliceW C.S (fun xs => xs.drop (cutAt i xs.length)) u H₂ Q) X) X
  | .tup es, ρ, H, Q, X => WArgs C es ρ H (fun vs H₁ => ∀ l, Fresh H₁ l → Q (.ref l) ((l, .tup vs) :: H₁)) X
  | .lst0, _, H, Q, _ => ∀ l, Fresh H l → Q (.ref l) ((l, .li []) :: H)
  | .lst1 e, ρ, H, Q, X => W C e ρ H (fun v H₁ => ∀ l, Fresh H₁ l → match v with
      | .int i => Q (.ref l) ((l, .li [i]) :: H₁)
      | .str x => Q (.ref l) ((l, .ls [x]) :: H₁)
      | _ => False) X
  | .call f es, ρ, H, Q, X => WArgs C es ρ H (fun vs H₁ => C.fn f vs H₁ Q X) X
  | .len e, ρ, H, Q, X => W C e ρ H (fun v H₁ => lenW C.S v H₁ Q) X
  | .max a b, ρ, H, Q, X => W C a ρ H (fun u H₁ => W C b ρ H₁ (fun v H₂ => intW u fun i => intW v fun j => Q (.int (max i j)) H₂) X) X
  | .min a b, ρ, H, Q, X => W C a ρ H (fun u H₁ => W C b ρ H₁ (fun v H₂ => intW u fun i => intW v fun j => Q (.int (min i j)) H₂) X) X
  | .abs e, ρ, H, Q, X => W C e ρ H (fun v H₁ => intW v fun i => Q (.int i.natAbs) H₁) X
  | .strOf e, ρ, H, Q, X => W C e ρ H (fun v H₁ => intW v fun i => i.natAbs < 10 ^ 4000 ∧ Q (.str (Str.ofString (toString i))) H₁) X
  | .typeOf e, ρ, H, Q, X => W C e ρ H (fun v H₁ => typW C.S v H₁ Q) X
  | .boolOf e, ρ, H, Q, X => W C e ρ H (fun v H₁ => truW v H₁ fun b H₂ => Q (.bool b) H₂) X
  | .append o x, ρ, H, Q, X => W C o ρ H (fun u H₁ => apW u H₁ (W C x ρ H₁ (fun v H₂ => appW u v H₂ Q) X)) X
  | .zfill o n, ρ, H, Q, X => W C o ρ H (fun u H₁ => W C n ρ H₁ (fun v H₂ => zfillW u v H₂ Q) X) X
  | .join o e, ρ, H, Q, X => W C o ρ H (fun u H₁ => W C e ρ H₁ (fun v H₂ => joinW C.S u v H₂ Q) X) X
  | .allInt e, ρ, H, Q, X => W C e ρ H (fun v H₁ => ∃ a xs, v = .ref a ∧ Has C.S H₁ a (.li xs) ∧ xs.length ≤ BIG ∧ Q (.bool true) H₁) X
def WArgs (C : Cx) : PEs → AM → AH → (List AV → AH → Prop) → XV → Prop
  | .nil, _, H, Q, _ => Q [] H
  | .cons e es, ρ, H, Q, X => W C e ρ H (fun v H₁ => WArgs C es ρ H₁ (fun vs H₂ => Q (v :: vs) H₂) X) X
end


/-- the rest of a suite -/
def seqK (k : AM → AH → QN → QV → XS → Prop) (Qn : QN) (Qr : QV) (X : XS) : QN := fun ρ H => k ρ H Qn Qr X
/-- a loop of n turns, the name x bound to it k in turn k -/
def loopW (x : String) (n : Nat) (it : Nat → AV) (g : AH → Prop) (body : AM → AH → QN → QV → XS → Prop) (ρ : AM) (H : AH) (Qn : QN) (Qr : QV) : Prop :=
  ∃ I : Nat → AM → AH → Prop, I 0 ρ H ∧ (∀ k ρ₁ H₁, k ≤ n → I k ρ₁ H₁ → g H₁) ∧
    (∀ k ρ₁ H₁, k < n → I k ρ₁ H₁ → body (mset ρ₁ x (it k)) H₁ (fun ρ₂ H₂ => Weak (I (k + 1) ρ₂) H₂) Qr (fun _ _ _ => False)) ∧ ∀ ρ₁ H₁, I n ρ₁ H₁ → Qn ρ₁ H₁
def whlW (c : AM → AH → QV → XV → Prop) (body : AM → AH → QN → QV → XS → Prop) (ρ : AM) (H : AH) (Qn : QN) (Qr : QV) : Prop :=
  ∃ I : Nat → AM → AH → Prop, (∃ n, I n ρ H) ∧ ∀ n ρ₁ H₁, I n ρ₁ H₁ →
      c ρ₁ H₁ (fun u H₂ => truW u H₂ fun t H₃ => if t = true then body ρ₁ H₃ (fun ρ₂ H₄ => Weak (fun H₅ => ∃ k, k < n ∧ I k ρ₂ H₅) H₄) Qr (fun _ _ _ => False) else Qn ρ₁ H₃) (fun _ _ => False)

def WS (C : Cx) : PS → AM → AH → QN → QV → XS → Prop
  | .skip, ρ, H, Qn, _, _ => Qn ρ H
  | .seq a b, ρ, H, Qn, Qr, X => WS C a ρ H (seqK (WS C b) Qn Qr X) Qr X
  | .assign x e, ρ, H, Qn, _, X => W C e ρ H (fun v H₁ => Qn (mset ρ x v) H₁) (fun c H₁ => X c ρ H₁)
  | .aug x op e, ρ, H, Qn, _, X => ∃ u, ρ x = some u ∧ W C e ρ H (fun v H₁ => augW op u v H₁ fun r H₂ => Qn (mset ρ x r) H₂) (fun c H₁ => X c ρ H₁)
  | .setidx o i e, ρ, H, Qn, _, X => W C e ρ H (fun v H₁ => W C o ρ H₁ (fun u H₂ => W C i ρ H₂ (fun k H₃ => setW u k v H₃ fun H₄ => Qn ρ H₄) (fun c H₁ => X c ρ H₁)) (fun c H₁ => X c ρ H₁)) (fun c H₁ => X c ρ H₁)
  | .unpack x y e, ρ, H, Qn, _, X => W C e ρ H (fun v H₁ => ∃ a u w, v = .ref a ∧ Has C.S H₁ a (.tup [u, w]) ∧ Qn (mset (mset ρ x u) y w) H₁) (fun c H₁ => X c ρ H₁)
  | .swap x y a b, ρ, H, Qn, _, X => W C a ρ H (fun u H₁ => W C b ρ H₁ (fun w H₂ => Qn (mset (mset ρ y w) x u) H₂) (fun c H₁ => X c ρ H₁)) (fun c H₁ => X c ρ H₁)
  | .expr e, ρ, H, Qn, _, X => W C e ρ H (fun v H₁ => (∀ a, v ≠ .ref a) ∧ Qn ρ H₁) (fun c H₁ => X c ρ H₁)
  | .ite c t e, ρ, H, Qn, Qr, X => W C c ρ H (fun u H₁ => truW u H₁ fun b H₂ => if b = true then WS C t ρ H₂ Qn Qr X else WS C e ρ H₂ Qn Qr X) (fun c H₁ => X c ρ H₁)
  | .ret e, ρ, H, _, Qr, X => W C e ρ H Qr (fun c H₁ => X c ρ H₁)
  | .whl c b, ρ, H, Qn, Qr, _ => whlW (W C c) (WS C b) ρ H Qn Qr
  | .for1 x e b, ρ, H, Qn, Qr, X => W C e ρ H (fun v H₁ => intW v fun n => -BIG ≤ n ∧ n ≤ BIG ∧ loopW x n.toNat (fun k => .int k) (fun _ => True) (WS C b) ρ H₁ Qn Qr) (fun c H₁ => X c ρ H₁)
  | .for2 x lo hi b, ρ, H, Qn, Qr, X => W C lo ρ H (fun u H₁ => W C hi ρ H₁ (fun v H₂ => intW u fun i => intW v fun j => -BIG ≤ i ∧ i ≤ BIG ∧ -BIG ≤ j ∧ j ≤ BIG ∧
      loopW x (j - i).toNat (fun k => .int (i + k)) (fun _ => True) (WS C b) ρ H₂ Qn Qr) (fun c H₁ => X c ρ H₁)) (fun c H₁ => X c ρ H₁)
  | .forDown x e b, ρ, H, Qn, Qr, X => W C e ρ H (fun v H₁ => intW v fun n => -BIG ≤ n ∧ n ≤ BIG ∧ loopW x (n + 1).toNat (fun k => .int (n - k)) (fun _ => True) (WS C b) ρ H₁ Qn Qr) (fun c H₁ => X c ρ H₁)
  | .forList x e b, ρ, H, Qn, Qr, X => W C e ρ H (fun v H₁ => ∃ a xs, v = .ref a ∧ xs.length ≤ BIG ∧
      loopW x xs.length (fun k => .int (xs.getD k 0)) (fun H₂ => Has C.S H₂ a (.li xs)) (WS C b) ρ H₁ Qn Qr) (fun c H₁ => X c ρ H₁)
  | .raise c _, ρ, H, _, _, X => X c ρ H
  | .try1 b c h, ρ, H, Qn, Qr, X => WS C b ρ H Qn Qr (fun k ρ₁ H₁ => k = c ∧ WS C h ρ₁ H₁ Qn Qr X)
end
section
open PySem
/-! digits in base 10000 -/
def dig (n : Nat) : List Int := if h : n = 0 then [] else ((n % 10000 : Nat) : Int) :: dig (n / 10000)
termination_by n
decreasing_by omega
def val : List Int → Int
  | [] => 0
  | x :: xs => x + 10000 * val xs
def Lim (xs : List Int) : Prop := ∀ x ∈ xs, 0 ≤ x ∧ x < 10000

theorem dig_zero : dig 0 = [] := by rw [dig]; simp
theorem dig_pos {n : Nat} (h : 0 < n) : dig n = ((n % 10000 : Nat) : Int) :: dig (n / 10000) := by
  rw [dig]; rw [dif_neg (by omega)]
theorem val_nil : val [] = 0 := rfl
theorem val_cons (x : Int) (xs : List Int) : val (x :: xs) = x + 10000 * val xs := rfl
theorem lim_nil : Lim [] := fun _ h => nomatch h
theorem lim_cons {x : Int} {xs : List Int} : Lim (x :: xs) ↔ (0 ≤ x ∧ x < 10000) ∧ Lim xs := by
  unfold Lim; simp
theorem lim_append {xs ys : List Int} : Lim (xs ++ ys) ↔ Lim xs ∧ Lim ys := by
  unfold Lim
  constructor
  · intro h; exact ⟨fun x hx => h x (List.mem_append.mpr (.inl hx)), fun x hx => h x (List.mem_append.mpr (.inr hx))⟩
  · rintro ⟨h1, h2⟩ x hx; exact (List.mem_append.mp hx).elim (h1 x) (h2 x)
theorem Lim.take {xs : List Int} (h : Lim xs) (k : Nat) : Lim (xs.take k) := fun x hx => h x (List.mem_of_mem_take hx)
theorem Lim.drop {xs : List Int} (h : Lim xs) (k : Nat) : Lim (xs.drop k) := fun x hx => h x (List.mem_of_mem_drop hx)
theorem Lim.getD {xs : List Int} (h : Lim xs) (k : Nat) : 0 ≤ xs.getD k 0 ∧ xs.getD k 0 < 10000 := by
  rw [List.getD_eq_getElem?_getD]
  by_cases hk : k < xs.length
  · rw [List.getElem?_eq_getElem hk]; exact h _ (List.getElem_mem _)
  · rw [List.getElem?_eq_none (by omega)]; simp
theorem Lim.set {xs : List Int} (h : Lim xs) (k : Nat) {v : Int} (h0 : 0 ≤ v) (h1 : v < 10000) : Lim (xs.set k v) := by
  intro x hx
  rcases List.mem_or_eq_of_mem_set hx with hx | rfl
  · exact h x hx
  · exact ⟨h0, h1⟩
theorem val_dig (n : Nat) : val (dig n) = n := by
  induction n using Nat.strongRecOn with
  | ind n ih =>
    by_cases h : n = 0
    · subst h; rw [dig_zero]; rfl
    · rw [dig_pos (by omega), val_cons, ih (n / 10000) (by omega)]; omega
theorem lim_dig (n : Nat) : Lim (dig n) := by
  induction n using Nat.strongRecOn with
  | ind n ih =>
    by_cases h : n = 0
    · subst h; rw [dig_zero]; exact lim_nil
    · rw [dig_pos (by omega), lim_cons]; exact ⟨by omega, ih _ (by omega)⟩
theorem val_nonneg {xs : List Int} (h : Lim xs) : 0 ≤ val xs := by
  induction xs with
  | nil => exact Int.le_refl _
  | cons x xs ih =>
    rw [lim_cons] at h
    rw [val_cons]
    have := ih h.2
    omega
theorem val_lt {xs : List Int} (h : Lim xs) : val xs < 10000 ^ xs.length := by
  induction xs with
  | nil => exact Int.zero_lt_one
  | cons x xs ih =>
    rw [lim_cons] at h
    rw [val_cons, List.length_cons, Int.pow_succ]
    have := ih h.2
    omega
theorem val_append (xs ys : List Int) : val (xs ++ ys) = val xs + 10000 ^ xs.length * val ys := by
  induction xs with
  | nil => simp [val]
  | cons x xs ih =>
    rw [List.cons_append, val_cons, val_cons, ih, List.length_cons, Int.pow_succ]
    grind
theorem val_snoc (xs : List Int) (x : Int) : val (xs ++ [x]) = val xs + 10000 ^ xs.length * x := by
  rw [val_append]; simp [val]
theorem val_take_drop (xs : List Int) (k : Nat) (hk : k ≤ xs.length) : val xs = val (xs.take k) + 10000 ^ k * val (xs.drop k) := by
  have h := val_append (xs.take k) (xs.drop k)
  rw [List.take_append_drop, List.length_take, Nat.min_eq_left hk] at h
  exact h
theorem drop_cons_getD (xs : List Int) (k : Nat) (hk : k < xs.length) : xs.drop k = xs.getD k 0 :: xs.drop (k + 1) := by
  rw [List.drop_eq_getElem_cons hk, List.getD_eq_getElem?_getD, List.getElem?_eq_getElem hk]; rfl
theorem take_succ_getD (xs : List Int) (k : Nat) (hk : k < xs.length) : xs.take (k + 1) = xs.take k ++ [xs.getD k 0] := by
  rw [List.take_add_one, List.getD_eq_getElem?_getD, List.getElem?_eq_getElem hk]; rfl
theorem val_take_succ (xs : List Int) (k : Nat) (hk : k < xs.length) : val (xs.take (k + 1)) = val (xs.take k) + 10000 ^ k * xs.getD k 0 := by
  rw [take_succ_getD xs k hk, val_snoc, List.length_take, Nat.min_eq_left (by omega)]
theorem val_drop (xs : List Int) (k : Nat) (hk : k < xs.length) : val (xs.drop k) = xs.getD k 0 + 10000 * val (xs.drop (k + 1)) := by
  rw [drop_cons_getD xs k hk, val_cons]

/-- no zero at the high end -/
def Top0 (xs : List Int) : Prop := xs = [] ∨ xs.getD (xs.length - 1) 0 ≠ 0
theorem top0_cons {x : Int} {xs : List Int} (h : Top0 (x :: xs)) (hx : xs ≠ []) : Top0 xs := by
  refine h.elim (fun e => nomatch e) fun e => .inr ?_
  rw [List.length_cons] at e
  cases xs with
  | nil => exact absurd rfl hx
  | cons y ys => simpa using e
theorem dig_of {xs : List Int} (h : Lim xs) (ht : Top0 xs) : xs = dig (val xs).toNat := by
  induction xs with
  | nil => exact dig_zero.symm
  | cons x xs ih =>
    have hl := (lim_cons.mp h)
    have hv := val_nonneg hl.2
    rw [val_cons]
    by_cases hx : xs = []
    · subst hx
      have h0 : x ≠ 0 := by
        refine ht.elim (fun e => nomatch e) fun e => ?_
        simpa using e
      rw [val_nil, dig_pos (by omega)]
      rw [show (x + 10000 * 0).toNat / 10000 = 0 by omega, dig_zero]
      rw [show (((x + 10000 * 0).toNat % 10000 : Nat) : Int) = x by omega]
    · have ih' := ih hl.2 (top0_cons ht hx)
      have hp : 0 < val xs := by
        rcases Int.lt_or_eq_of_le hv with h1 | h1
        · exact h1
        · rw [← h1] at ih'; exact absurd (ih'.trans dig_zero) hx
      rw [dig_pos (by omega)]
      rw [show (x + 10000 * val xs).toNat / 10000 = (val xs).toNat by omega, ← ih']
      rw [show (((x + 10000 * val xs).toNat % 10000 : Nat) : Int) = x by omega]
theorem top0_dig (n : Nat) : Top0 (dig n) := by
  induction n using Nat.strongRecOn with
  | ind n ih =>
    by_cases h : n = 0
    · subst h; exact .inl dig_zero
    · refine .inr ?_
      rw [dig_pos (by omega)]
      by_cases h2 : n / 10000 = 0
      · rw [h2, dig_zero]; simp; omega
      · rcases ih (n / 10000) (by omega) with e | e
        · have := val_dig (n / 10000); rw [e, val_nil] at this; omega
        · have hne : dig (n / 10000) ≠ [] := fun q => by rw [q] at e; simp at e
          obtain ⟨y, ys, hy⟩ := List.exists_cons_of_ne_nil hne
          rw [hy] at e ⊢
          simpa using e
theorem dig_ext {xs : List Int} {n : Nat} (h : Lim xs) (ht : Top0 xs) (hv : val xs = n) : xs = dig n := by
  rw [dig_of h ht, hv]; rfl
theorem dig_len_pos {n : Nat} : (dig n).length = 0 ↔ n = 0 := by
  constructor
  · intro h
    have := val_dig n
    rw [List.eq_nil_of_length_eq_zero h, val_nil] at this
    omega
  · intro h; rw [h, dig_zero]; rfl
theorem dig_lt_pow (n : Nat) : n < 10000 ^ (dig n).length := by
  have h := val_lt (lim_dig n)
  rw [val_dig] at h
  have e : ((10000 ^ (dig n).length : Nat) : Int) = (10000 : Int) ^ (dig n).length := by simp
  omega
theorem dig_ge_pow {n : Nat} (h : 0 < n) : 10000 ^ ((dig n).length - 1) ≤ n := by
  induction n using Nat.strongRecOn with
  | ind n ih =>
    rw [dig_pos h, List.length_cons, Nat.add_sub_cancel]
    by_cases h2 : n / 10000 = 0
    · rw [h2, dig_zero]; simp; omega
    · have := ih (n / 10000) (by omega) (by omega)
      have h3 : (dig (n / 10000)).length ≠ 0 := fun q => h2 (dig_len_pos.mp q)
      have e : (dig (n / 10000)).length = ((dig (n / 10000)).length - 1) + 1 := by omega
      rw [e, Nat.pow_succ]
      omega
theorem dig_len_le {n k : Nat} (h : n < 10000 ^ k) : (dig n).length ≤ k := by
  by_cases h0 : n = 0
  · subst h0; rw [dig_zero]; exact Nat.zero_le _
  · have := dig_ge_pow (n := n) (by omega)
    have h1 : 10000 ^ ((dig n).length - 1) < 10000 ^ k := Nat.lt_of_le_of_lt this h
    have h2 := (Nat.pow_lt_pow_iff_right (by omega : 1 < 10000)).mp h1
    omega
theorem lt_of_len_lt {m n : Nat} (h : (dig m).length < (dig n).length) : m < n := by
  by_cases h0 : n = 0
  · subst h0; rw [dig_zero] at h; simp at h
  · have h1 := dig_lt_pow m
    have h2 := dig_ge_pow (n := n) (by omega)
    have h3 : 10000 ^ (dig m).length ≤ 10000 ^ ((dig n).length - 1) := Nat.pow_le_pow_right (by omega) (by omega)
    omega
theorem len_le_of_le {m n : Nat} (h : m ≤ n) : (dig m).length ≤ (dig n).length := by
  rcases Nat.lt_or_ge (dig n).length (dig m).length with h1 | h1
  · have := lt_of_len_lt h1; omega
  · exact h1
/-- cut off the zeros at the high end: what is left are the digits of the value -/
theorem trim_eq {xs : List Int} (h : Lim xs) {n : Nat} (hn : n ≤ xs.length) (hz : ∀ k, n ≤ k → k < xs.length → xs.getD k 0 = 0) (ht : n = 0 ∨ xs.getD (n - 1) 0 ≠ 0) :
    xs.take n = dig (val xs).toNat := by
  have hv : val (xs.drop n) = 0 := by
    have : ∀ j, n + j ≤ xs.length → val (xs.drop (n + j)) = 0 := by
      intro j hj
      induction hk : xs.length - (n + j) generalizing j with
      | zero => rw [List.drop_of_length_le (by omega)]; rfl
      | succ q ih =>
        rw [val_drop xs (n + j) (by omega), hz (n + j) (by omega) (by omega), Nat.add_assoc, ih (j + 1) (by omega) (by omega)]
        rfl
    exact this 0 (by omega)
  have e : val (xs.take n) = val xs := by rw [val_take_drop xs n hn, hv]; omega
  rw [← e]
  refine dig_of (h.take n) ?_
  rcases ht with ht | ht
  · subst ht; exact .inl (by simp)
  · by_cases h0 : n = 0
    · subst h0; exact .inl (by simp)
    · refine .inr ?_
      rw [List.length_take, Nat.min_eq_left hn]
      rw [List.getD_eq_getElem?_getD, List.getElem?_take_of_lt (by omega), ← List.getD_eq_getElem?_getD]
      exact ht
end
section
open PySem
def bindM : List String → List AV → AM
  | p :: ps, v :: vs => mset (bindM ps vs) p v
  | _, _ => fun _ => none

structure Wd where
  S : AH
  G : String → Option AV
  fn : Nat → String → List AV → AH → QV → XV → Prop
  mono : ∀ {n n' : Nat} {f : String} {vs : List AV} {H : AH} {Q : QV} {X : XV}, n ≤ n' → fn n f vs H Q X → fn n' f vs H Q X
/-- the def f of these parameters has this body -/
def Wd.Def (w : Wd) (f : String) (ps : List String) (b : PS) : Prop :=
  ∀ (n : Nat) (vs : List AV) (H : AH) (Q : QV) (X : XV), vs.length = ps.length →
    WS ⟨w.S, w.G, w.fn n⟩ b (bindM ps vs) H (fun _ H' => Weak (Q .none) H') (fun v H' => Weak (Q v) H') (fun c _ H' => Weak (X c) H') → w.fn (n + 1) f vs H Q X
theorem Wd.Def.step {w : Wd} {f : String} {ps : List String} {b : PS} (h : w.Def f ps b) {n : Nat} {vs : List AV} {H : AH} {Q : QV} {X : XV} (hl : vs.length = ps.length)
    (hw : WS ⟨w.S, w.G, w.fn n⟩ b (bindM ps vs) H (fun _ H' => Weak (Q .none) H') (fun v H' => Weak (Q v) H') (fun c _ H' => Weak (X c) H')) : w.fn (n + 1) f vs H Q X := h n vs H Q X hl hw

section
variable {S H : AH} {a b l : Nat} {o o' : AO}
theorem Has.cons (h : Has S H a o) {p : Nat × AO} : Has S (p :: H) a o := h.imp id fun h => .tail _ h
theorem Has.head : Has S ((a, o) :: H) a o := .inr (.head _)
theorem Has.sub {H' : AH} (h : Has S H a o) (hs : ∀ p ∈ H, p ∈ H') : Has S H' a o := h.imp id fun h => hs _ h
theorem Fresh.tail {p : Nat × AO} (h : Fresh (p :: H) l) : Fresh H l := fun q hq => h q (.tail _ hq)
theorem Fresh.head (h : Fresh ((a, o) :: H) l) : a < l := h _ (.head _)
theorem Fresh.mono {H' : AH} (h : Fresh H l) (hs : ∀ p ∈ H', p ∈ H) : Fresh H' l := fun p hp => h p (hs p hp)
theorem hupd_fresh (h : Fresh H l) : hupd H l o = H := by
  unfold hupd
  conv => rhs; rw [← List.map_id H]
  refine List.map_congr_left fun p hp => ?_
  rw [if_neg (Nat.ne_of_lt (h p hp))]; rfl
theorem hupd_head (h : Fresh H l) : hupd ((l, o) :: H) l o' = (l, o') :: H := by
  have := hupd_fresh (o := o') h
  unfold hupd at *
  rw [List.map_cons, this, if_pos rfl]
theorem weak_of {P : AH → Prop} (h : P H) : Weak P H := ⟨H, fun _ h => h, h⟩
theorem weak_sub {P : AH → Prop} {H' : AH} (hs : ∀ p ∈ H', p ∈ H) (h : P H') : Weak P H := ⟨H', hs, h⟩
end

section
variable {S H : AH} {a b l : Nat} {Q : QV}
theorem lenW_ints {xs : List Int} (h : Has S H a (.li xs)) (hl : xs.length ≤ BIG) (q : Q (.int xs.length) H) : lenW S (.ref a) H Q := ⟨_, h, hl, q⟩
theorem idxW_ints {xs : List Int} {i : Int} (h : Has S H a (.li xs)) (hl : xs.length ≤ BIG) (h0 : 0 ≤ i) (h1 : i < xs.length) (q : Q (.int (xs.getD i.toNat 0)) H) : idxW S (.ref a) (.int i) H Q :=
  ⟨_, h, h0, h1, by unfold BIG at hl; omega, q⟩
theorem appW_head {xs : List Int} {i : Int} (hf : Fresh H a) (hl : xs.length ≤ BIG) (q : Q .none ((a, .li (xs ++ [i])) :: H)) : appW (.ref a) (.int i) ((a, .li xs) :: H) Q :=
  ⟨xs, .head _, hl, by rw [hupd_head hf]; exact q⟩
end
/-- the word of a loop, behind a turn -/
def inv (I : Nat → AM → AH → Prop) (k : Nat) : QN := fun ρ H => Weak (I k ρ) H
def invW (I : Nat → AM → AH → Prop) (n : Nat) : QN := fun ρ H => Weak (fun H' => ∃ k, k < n ∧ I k ρ H') H
theorem inv_ {I : Nat → AM → AH → Prop} {k : Nat} {ρ : AM} {H : AH} (h : I k ρ H) : inv I k ρ H := weak_of h
theorem invW_ {I : Nat → AM → AH → Prop} {n : Nat} {ρ : AM} {H : AH} (k : Nat) (hk : k < n) (h : I k ρ H) : invW I n ρ H := weak_of ⟨k, hk, h⟩
theorem loopW_ {x : String} {n : Nat} {it : Nat → AV} {g : AH → Prop} {body : AM → AH → QN → QV → XS → Prop} {ρ : AM} {H : AH} {Qn : QN} {Qr : QV} (I : Nat → AM → AH → Prop) (h0 : I 0 ρ H) (hg : ∀ k ρ₁ H₁, k ≤ n → I k ρ₁ H₁ → g H₁)
    (hs : ∀ k ρ₁ H₁, k < n → I k ρ₁ H₁ → body (mset ρ₁ x (it k)) H₁ (inv I (k + 1)) Qr (fun _ _ _ => False)) (he : ∀ ρ₁ H₁, I n ρ₁ H₁ → Qn ρ₁ H₁) : loopW x n it g body ρ H Qn Qr := ⟨I, h0, hg, hs, he⟩
theorem loopW_t {x : String} {n : Nat} {it : Nat → AV} {body : AM → AH → QN → QV → XS → Prop} {ρ : AM} {H : AH} {Qn : QN} {Qr : QV} (I : Nat → AM → AH → Prop) (h0 : I 0 ρ H)
    (hs : ∀ k ρ₁ H₁, k < n → I k ρ₁ H₁ → body (mset ρ₁ x (it k)) H₁ (inv I (k + 1)) Qr (fun _ _ _ => False)) (he : ∀ ρ₁ H₁, I n ρ₁ H₁ → Qn ρ₁ H₁) : loopW x n it (fun _ => True) body ρ H Qn Qr := ⟨I, h0, fun _ _ _ _ _ => trivial, hs, he⟩
theorem whlW_ {c : AM → AH → QV → XV → Prop} {body : AM → AH → QN → QV → XS → Prop} {ρ : AM} {H : AH} {Qn : QN} {Qr : QV} (I : Nat → AM → AH → Prop) (n : Nat) (h0 : I n ρ H)
    (hs : ∀ n ρ₁ H₁, I n ρ₁ H₁ → c ρ₁ H₁ (fun u H₂ => truW u H₂ fun t H₃ => if t = true then body ρ₁ H₃ (invW I n) Qr (fun _ _ _ => False) else Qn ρ₁ H₃) (fun _ _ => False)) : whlW c body ρ H Qn Qr := ⟨I, ⟨n, h0⟩, hs⟩
theorem seqK_ {k : AM → AH → QN → QV → XS → Prop} {Qn : QN} {Qr : QV} {X : XS} {ρ : AM} {H : AH} (h : k ρ H Qn Qr X) : seqK k Qn Qr X ρ H := h

/-! the equations of W, WS at whole calls -/
section
variable {C : Cx} {ρ : AM} {H : AH} {Q : QV} {X : XV}
theorem W_int {i : _} : W C (.int i) ρ H Q X = (Q (.int i) H) := rfl
theorem W_str {x : _} : W C (.str x) ρ H Q X = (Q (.str x) H) := rfl
theorem W_bool {b : _} : W C (.bool b) ρ H Q X = (Q (.bool b) H) := rfl
theorem W_none : W C .none ρ H Q X = (Q .none H) := rfl
theorem W_typ {n : _} : W C (.typ n) ρ H Q X = (Q (.typ n) H) := rfl
theorem W_loc {x : _} : W C (.loc x) ρ H Q X = (∃ v, ρ x = some v ∧ Q v H) := rfl
theorem W_glob {x : _} : W C (.glob x) ρ H Q X = (∃ v, C.G x = some v ∧ Q v H) := rfl
theorem W_bin {op l r : _} : W C (.bin op l r) ρ H Q X = (W C l ρ H (fun u H₁ => W C r ρ H₁ (fun v H₂ => opW C.S op u v H₂ Q) X) X) := rfl
theorem W_neg {e : _} : W C (.neg e) ρ H Q X = (W C e ρ H (fun v H₁ => intW v fun i => Q (.int (-i)) H₁) X) := rfl
theorem W_not {e : _} : W C (.not e) ρ H Q X = (W C e ρ H (fun v H₁ => truW v H₁ fun b H₂ => Q (.bool (!b)) H₂) X) := rfl
theorem W_cmp {op l r : _} : W C (.cmp op l r) ρ H Q X = (W C l ρ H (fun u H₁ => W C r ρ H₁ (fun v H₂ => cmpW C.S op u v H₂ Q) X) X) := rfl
theorem W_and {l r : _} : W C (.and l r) ρ H Q X = (W C l ρ H (fun u H₁ => truW u H₁ fun b H₂ => if b = true then W C r ρ H₂ Q X else Q (.bool b) H₂) X) := rfl
theorem W_or {l r : _} : W C (.or l r) ρ H Q X = (W C l ρ H (fun u H₁ => truW u H₁ fun b H₂ => if b = true then Q (.bool b) H₂ else W C r ρ H₂ Q X) X) := rfl
theorem W_ife {c t e : _} : W C (.ife c t e) ρ H Q X = (W C c ρ H (fun u H₁ => truW u H₁ fun b H₂ => if b = true then W C t ρ H₂ Q X else W C e ρ H₂ Q X) X) := rfl
theorem W_idx {e i : _} : W C (.idx e i) ρ H Q X = (W C e ρ H (fun u H₁ => W C i ρ H₁ (fun v H₂ => idxW C.S u v H₂ Q) X) X) := rfl
theorem W_slAll {e : _} : W C (.slAll e) ρ H Q X = (W C e ρ H (fun u H₁ => sliceW C.S (fun xs => xs) u H₁ Q) X) := rfl
theorem W_slTo {e k : _} : W C (.slTo e k) ρ H Q X = (W C e ρ H (fun u H₁ => W C k ρ H₁ (fun v H₂ => intW v fun i => sliceW C.S (fun xs => xs.take (cutAt i xs.length)) u H₂ Q) X) X) := rfl
theorem W_slFrom {e k : _} : W C (.slFrom e k) ρ H Q X = (W C e ρ H (fun u H₁ => W C k ρ H₁ (fun v H₂ => intW v fun i => sliceW C.S (fun xs => xs.drop (cutAt i xs.length)) u H₂ Q) X) X) := rfl
theorem W_tup {es : _} : W C (.tup es) ρ H Q X = (WArgs C es ρ H (fun vs H₁ => ∀ l, Fresh H₁ l → Q (.ref l) ((l, .tup vs) :: H₁)) X) := rfl
theorem W_lst0 : W C .lst0 ρ H Q X = (∀ l, Fresh H l → Q (.ref l) ((l, .li []) :: H)) := rfl
theorem W_lst1 {e : _} : W C (.lst1 e) ρ H Q X = (W C e ρ H (fun v H₁ => ∀ l, Fresh H₁ l → match v with
      | .int i => Q (.ref l) ((l, .li [i]) :: H₁)
      | .str x => Q (.ref l) ((l, .ls [x]) :: H₁)
      | _ => False) X) := rfl
theorem W_call {f es : _} : W C (.call f es) ρ H Q X = (WArgs C es ρ H (fun vs H₁ => C.fn f vs H₁ Q X) X) := rfl
theorem W_len {e : _} : W C (.len e) ρ H Q X = (W C e ρ H (fun v H₁ => lenW C.S v H₁ Q) X) := rfl
theorem W_max {a b : _} : W C (.max a b) ρ H Q X = (W C a ρ H (fun u H₁ => W C b ρ H₁ (fun v H₂ => intW u fun i => intW v fun j => Q (.int (max i j)) H₂) X) X) := rfl
theorem W_min {a b : _} : W C (.min a b) ρ H Q X = (W C a ρ H (fun u H₁ => W C b ρ H₁ (fun v H₂ => intW u fun i => intW v fun j => Q (.int (min i j)) H₂) X) X) := rfl
theorem W_abs {e : _} : W C (.abs e) ρ H Q X = (W C e ρ H (fun v H₁ => intW v fun i => Q (.int i.natAbs) H₁) X) := rfl
theorem W_strOf {e : _} : W C (.strOf e) ρ H Q X = (W C e ρ H (fun v H₁ => intW v fun i => i.natAbs < 10 ^ 4000 ∧ Q (.str (Str.ofString (toString i))) H₁) X) := rfl
theorem W_typeOf {e : _} : W C (.typeOf e) ρ H Q X = (W C e ρ H (fun v H₁ => typW C.S v H₁ Q) X) := rfl
theorem W_boolOf {e : _} : W C (.boolOf e) ρ H Q X = (W C e ρ H (fun v H₁ => truW v H₁ fun b H₂ => Q (.bool b) H₂) X) := rfl
theorem W_append {o x : _} : W C (.append o x) ρ H Q X = (W C o ρ H (fun u H₁ => apW u H₁ (W C x ρ H₁ (fun v H₂ => appW u v H₂ Q) X)) X) := rfl
theorem W_zfill {o n : _} : W C (.zfill o n) ρ H Q X = (W C o ρ H (fun u H₁ => W C n ρ H₁ (fun v H₂ => zfillW u v H₂ Q) X) X) := rfl
theorem W_join {o e : _} : W C (.join o e) ρ H Q X = (W C o ρ H (fun u H₁ => W C e ρ H₁ (fun v H₂ => joinW C.S u v H₂ Q) X) X) := rfl
theorem W_allInt {e : _} : W C (.allInt e) ρ H Q X = (W C e ρ H (fun v H₁ => ∃ a xs, v = .ref a ∧ Has C.S H₁ a (.li xs) ∧ xs.length ≤ BIG ∧ Q (.bool true) H₁) X) := rfl
end
section
variable {C : Cx} {ρ : AM} {H : AH} {Q : List AV → AH → Prop} {X : XV}
theorem WArgs_nil : WArgs C .nil ρ H Q X = (Q [] H) := rfl
theorem WArgs_cons {e es : _} : WArgs C (.cons e es) ρ H Q X = (W C e ρ H (fun v H₁ => WArgs C es ρ H₁ (fun vs H₂ => Q (v :: vs) H₂) X) X) := rfl
end
section
variable {C : Cx} {ρ : AM} {H : AH} {Qn : QN} {Qr : QV} {X : XS}
theorem WS_skip : WS C .skip ρ H Qn Qr X = (Qn ρ H) := rfl
theorem WS_seq {a b : _} : WS C (.seq a b) ρ H Qn Qr X = (WS C a ρ H (seqK (WS C b) Qn Qr X) Qr X) := rfl
theorem WS_assign {x e : _} : WS C (.assign x e) ρ H Qn Qr X = (W C e ρ H (fun v H₁ => Qn (mset ρ x v) H₁) (fun c H₁ => X c ρ H₁)) := rfl
theorem WS_aug {x op e : _} : WS C (.aug x op e) ρ H Qn Qr X = (∃ u, ρ x = some u ∧ W C e ρ H (fun v H₁ => augW op u v H₁ fun r H₂ => Qn (mset ρ x r) H₂) (fun c H₁ => X c ρ H₁)) := rfl
theorem WS_setidx {o i e : _} : WS C (.setidx o i e) ρ H Qn Qr X = (W C e ρ H (fun v H₁ => W C o ρ H₁ (fun u H₂ => W C i ρ H₂ (fun k H₃ => setW u k v H₃ fun H₄ => Qn ρ H₄) (fun c H₁ => X c ρ H₁)) (fun c H₁ => X c ρ H₁)) (fun c H₁ => X c ρ H₁)) := rfl
theorem WS_unpack {x y e : _} : WS C (.unpack x y e) ρ H Qn Qr X = (W C e ρ H (fun v H₁ => ∃ a u w, v = .ref a ∧ Has C.S H₁ a (.tup [u, w]) ∧ Qn (mset (mset ρ x u) y w) H₁) (fun c H₁ => X c ρ H₁)) := rfl
theorem WS_swap {x y a b : _} : WS C (.swap x y a b) ρ H Qn Qr X = (W C a ρ H (fun u H₁ => W C b ρ H₁ (fun w H₂ => Qn (mset (mset ρ y w) x u) H₂) (fun c H₁ => X c ρ H₁)) (fun c H₁ => X c ρ H₁)) := rfl
theorem WS_expr {e : _} : WS C (.expr e) ρ H Qn Qr X = (W C e ρ H (fun v H₁ => (∀ a, v ≠ .ref a) ∧ Qn ρ H₁) (fun c H₁ => X c ρ H₁)) := rfl
theorem WS_ite {c t e : _} : WS C (.ite c t e) ρ H Qn Qr X = (W C c ρ H (fun u H₁ => truW u H₁ fun b H₂ => if b = true then WS C t ρ H₂ Qn Qr X else WS C e ρ H₂ Qn Qr X) (fun c H₁ => X c ρ H₁)) := rfl
theorem WS_ret {e : _} : WS C (.ret e) ρ H Qn Qr X = (W C e ρ H Qr (fun c H₁ => X c ρ H₁)) := rfl
theorem WS_whl {c b : _} : WS C (.whl c b) ρ H Qn Qr X = (whlW (W C c) (WS C b) ρ H Qn Qr) := rfl
theorem WS_for1 {x e b : _} : WS C (.for1 x e b) ρ H Qn Qr X = (W C e ρ H (fun v H₁ => intW v fun n => -BIG ≤ n ∧ n ≤ BIG ∧ loopW x n.toNat (fun k => .int k) (fun _ => True) (WS C b) ρ H₁ Qn Qr) (fun c H₁ => X c ρ H₁)) := rfl
theorem WS_for2 {x lo hi b : _} : WS C (.for2 x lo hi b) ρ H Qn Qr X = (W C lo ρ H (fun u H₁ => W C hi ρ H₁ (fun v H₂ => intW u fun i => intW v fun j => -BIG ≤ i ∧ i ≤ BIG ∧ -BIG ≤ j ∧ j ≤ BIG ∧
      loopW x (j - i).toNat (fun k => .int (i + k)) (fun _ => True) (WS C b) ρ H₂ Qn Qr) (fun c H₁ => X c ρ H₁)) (fun c H₁ => X c ρ H₁)) := rfl
theorem WS_forDown {x e b : _} : WS C (.forDown x e b) ρ H Qn Qr X = (W C e ρ H (fun v H₁ => intW v fun n => -BIG ≤ n ∧ n ≤ BIG ∧ loopW x (n + 1).toNat (fun k => .int (n - k)) (fun _ => True) (WS C b) ρ H₁ Qn Qr) (fun c H₁ => X c ρ H₁)) := rfl
theorem WS_forList {x e b : _} : WS C (.forList x e b) ρ H Qn Qr X = (W C e ρ H (fun v H₁ => ∃ a xs, v = .ref a ∧ xs.length ≤ BIG ∧
      loopW x xs.length (fun k => .int (xs.getD k 0)) (fun H₂ => Has C.S H₂ a (.li xs)) (WS C b) ρ H₁ Qn Qr) (fun c H₁ => X c ρ H₁)) := rfl
theorem WS_raise {c u0 : _} : WS C (.raise c u0) ρ H Qn Qr X = (X c ρ H) := rfl
theorem WS_try1 {b c h : _} : WS C (.try1 b c h) ρ H Qn Qr X = (WS C b ρ H Qn Qr (fun k ρ₁ H₁ => k = c ∧ WS C h ρ₁ H₁ Qn Qr X)) := rfl
end

/-! the words on known values -/
section
variable {S H : AH} {Q : QV} {a b : Int} {c d : Bool} {x y : Str} {s t : String} {T : Bool → AH → Prop} {P : Int → Prop}
theorem op_add : opW S .Add (.int a) (.int b) H Q = Q (.int (a + b)) H := rfl
theorem op_sub : opW S .Sub (.int a) (.int b) H Q = Q (.int (a - b)) H := rfl
theorem op_mul : opW S .Mult (.int a) (.int b) H Q = (MulOk a b ∧ Q (.int (a * b)) H) := rfl
theorem op_div : opW S .FloorDiv (.int a) (.int b) H Q = (0 < b ∧ Q (.int (a / b)) H) := rfl
theorem op_mod : opW S .Mod (.int a) (.int b) H Q = (0 < b ∧ Q (.int (a % b)) H) := rfl
theorem op_pow : opW S .Pow (.int a) (.int b) H Q = (PowOk a b ∧ Q (.int (a ^ b.toNat)) H) := rfl
theorem aug_add : augW .Add (.int a) (.int b) H Q = Q (.int (a + b)) H := rfl
theorem aug_sub : augW .Sub (.int a) (.int b) H Q = Q (.int (a - b)) H := rfl
theorem cmp_lt : cmpW S .Lt (.int a) (.int b) H Q = Q (.bool (decide (a < b))) H := rfl
theorem cmp_le : cmpW S .LtE (.int a) (.int b) H Q = Q (.bool (decide (a ≤ b))) H := rfl
theorem cmp_gt : cmpW S .Gt (.int a) (.int b) H Q = Q (.bool (decide (b < a))) H := rfl
theorem cmp_ge : cmpW S .GtE (.int a) (.int b) H Q = Q (.bool (decide (b ≤ a))) H := rfl
theorem cmp_eq : cmpW S .Eq (.int a) (.int b) H Q = Q (.bool (decide (a = b))) H := rfl
theorem cmp_ne : cmpW S .NotEq (.int a) (.int b) H Q = Q (.bool (!decide (a = b))) H := rfl
theorem cmp_eqb : cmpW S .Eq (.bool c) (.bool d) H Q = Q (.bool (c == d)) H := rfl
theorem cmp_neb : cmpW S .NotEq (.bool c) (.bool d) H Q = Q (.bool (c != d)) H := rfl
theorem cmp_isb : cmpW S .Is (.bool c) (.bool d) H Q = Q (.bool (c == d)) H := rfl
theorem cmp_isnotb : cmpW S .IsNot (.bool c) (.bool d) H Q = Q (.bool (c != d)) H := rfl
theorem cmp_isn : cmpW S .Is .none (.bool d) H Q = Q (.bool false) H := rfl
theorem cmp_isnotn : cmpW S .IsNot .none (.bool d) H Q = Q (.bool true) H := rfl
theorem cmp_ist : cmpW S .Is (.typ s) (.typ t) H Q = Q (.bool (s == t)) H := rfl
theorem cmp_isnott : cmpW S .IsNot (.typ s) (.typ t) H Q = Q (.bool (s != t)) H := rfl
theorem cmp_eqs : cmpW S .Eq (.str x) (.str y) H Q = Q (.bool (x == y)) H := rfl
theorem cmp_nes : cmpW S .NotEq (.str x) (.str y) H Q = Q (.bool (x != y)) H := rfl
theorem tru_b : truW (.bool c) H T = T c H := rfl
theorem int_i : intW (.int a) P = P a := rfl
theorem str_i {P : Str → Prop} : strW (.str x) P = P x := rfl
end

theorem mset_eq (ρ : AM) (x : String) (v : AV) (y : String) : mset ρ x v y = if y = x then some v else ρ y := rfl
theorem bind_cons (p : String) (ps : List String) (v : AV) (vs : List AV) : bindM (p :: ps) (v :: vs) = mset (bindM ps vs) p v := rfl
theorem bind_nil : bindM [] [] = fun _ => none := rfl
theorem mset_self {ρ : AM} {x : String} {v : AV} (h : ρ x = some v) : mset ρ x v = ρ := by
  funext y
  unfold mset
  split
  · rename_i e; rw [e, h]
  · rfl
theorem ex_eq {a : AV} {p : AV → Prop} : (∃ v, some a = some v ∧ p v) = p a := by simp
theorem ap_li {a : Nat} {xs : List Int} {H : AH} {K : Prop} : apW (.ref a) ((a, .li xs) :: H) K = K := by
  unfold apW
  refine propext ⟨fun h => h.2, fun h => ⟨⟨a, _, rfl, .head _, .inl ⟨_, rfl⟩⟩, h⟩⟩
theorem ap_ls {a : Nat} {xs : List Str} {H : AH} {K : Prop} : apW (.ref a) ((a, .ls xs) :: H) K = K := by
  unfold apW
  refine propext ⟨fun h => h.2, fun h => ⟨⟨a, _, rfl, .head _, .inr ⟨_, rfl⟩⟩, h⟩⟩
theorem not_ref_none : (∀ a, AV.none ≠ AV.ref a) = True := by simp
theorem if_join {c : Prop} [Decidable c] {A : Prop} {k : AM → AH → QN → QV → XS → Prop} {Qn : QN} {Qr : QV} {X : XS} {ρ : AM} {H : AH} (x : String) (v : AV) (h1 : c → seqK k Qn Qr X (mset ρ x v) H → A)
    (h2 : ¬ c → ρ x = some v) (h : seqK k Qn Qr X (mset ρ x v) H) : if c then A else seqK k Qn Qr X ρ H := by
  split
  · exact h1 ‹_› h
  · rw [mset_self (h2 ‹_›)] at h; exact h
/-- the equations that a step of the walk uses -/
theorem wE : type_of% (And.intro @W_int (And.intro @W_str (And.intro @W_bool (And.intro @W_none (And.intro @W_typ (And.intro @W_loc (And.intro @W_glob (And.intro @W_bin (And.intro @W_neg (And.intro @W_not (And.intro @W_cmp (And.intro @W_and (And.intro @W_or (And.intro @W_ife (And.intro @W_idx (And.intro @W_slAll (And.intro @W_slTo (And.intro @W_slFrom (And.intro @W_tup (And.intro @W_lst0 (And.intro @W_lst1 (And.intro @W_call (And.intro @W_len (And.intro @W_max (And.intro @W_min (And.intro @W_abs (And.intro @W_strOf (And.intro @W_typeOf (And.intro @W_boolOf (And.intro @W_append (And.intro @W_zfill (And.intro @W_join (And.intro @W_allInt (And.intro @WArgs_nil (And.intro @WArgs_cons (And.intro @WS_skip (And.intro @WS_seq (And.intro @WS_assign (And.intro @WS_aug (And.intro @WS_setidx (And.intro @WS_unpack (And.intro @WS_swap (And.intro @WS_expr (And.intro @WS_ite (And.intro @WS_ret (And.intro @WS_whl (And.intro @WS_for1 (And.intro @WS_for2 (And.intro @WS_forDown (And.intro @WS_forList (And.intro @WS_raise (And.intro @WS_try1 (And.intro @op_add (And.intro @op_sub (And.intro @op_mul (And.intro @op_div (And.intro @op_mod (And.intro @op_pow (And.intro @aug_add (And.intro @aug_sub (And.intro @cmp_lt (And.intro @cmp_le (And.intro @cmp_gt (And.intro @cmp_ge (And.intro @cmp_eq (And.intro @cmp_ne (And.intro @cmp_eqb (And.intro @cmp_neb (And.intro @cmp_isb (And.intro @cmp_isnotb (And.intro @cmp_isn (And.intro @cmp_isnotn (And.intro @cmp_ist (And.intro @cmp_isnott (And.intro @cmp_eqs (And.intro @cmp_nes (And.intro @tru_b (And.intro @int_i (And.intro @str_i (And.intro @mset_eq (And.intro @bind_cons (And.intro @bind_nil (And.intro @ex_eq (And.intro @ap_li (And.intro @ap_ls @not_ref_none))))))))))))))))))))))))))))))))))))))))))))))))))))))))))))))))))))))))))))))))))))) := (And.intro @W_int (And.intro @W_str (And.intro @W_bool (And.intro @W_none (And.intro @W_typ (And.intro @W_loc (And.intro @W_glob (And.intro @W_bin (And.intro @W_neg (And.intro @W_not (And.intro @W_cmp (And.intro @W_and (And.intro @W_or (And.intro @W_ife (And.intro @W_idx (And.intro @W_slAll (And.intro @W_slTo (And.intro @W_slFrom (And.intro @W_tup (And.intro @W_lst0 (And.intro @W_lst1 (And.intro @W_call (And.intro @W_len (And.intro @W_max (And.intro @W_min (And.intro @W_abs (And.intro @W_strOf (And.intro @W_typeOf (And.intro @W_boolOf (And.intro @W_append (And.intro @W_zfill (And.intro @W_join (And.intro @W_allInt (And.intro @WArgs_nil (And.intro @WArgs_cons (And.intro @WS_skip (And.intro @WS_seq (And.intro @WS_assign (And.intro @WS_aug (And.intro @WS_setidx (And.intro @WS_unpack (And.intro @WS_swap (And.intro @WS_expr (And.intro @WS_ite (And.intro @WS_ret (And.intro @WS_whl (And.intro @WS_for1 (And.intro @WS_for2 (And.intro @WS_forDown (And.intro @WS_forList (And.intro @WS_raise (And.intro @WS_try1 (And.intro @op_add (And.intro @op_sub (And.intro @op_mul (And.intro @op_div (And.intro @op_mod (And.intro @op_pow (And.intro @aug_add (And.intro @aug_sub (And.intro @cmp_lt (And.intro @cmp_le (And.intro @cmp_gt (And.intro @cmp_ge (And.intro @cmp_eq (And.intro @cmp_ne (And.intro @cmp_eqb (And.intro @cmp_neb (And.intro @cmp_isb (And.intro @cmp_isnotb (And.intro @cmp_isn (And.intro @cmp_isnotn (And.intro @cmp_ist (And.intro @cmp_isnott (And.intro @cmp_eqs (And.intro @cmp_nes (And.intro @tru_b (And.intro @int_i (And.intro @str_i (And.intro @mset_eq (And.intro @bind_cons (And.intro @bind_nil (And.intro @ex_eq (And.intro @ap_li (And.intro @ap_ls @not_ref_none)))))))))))))))))))))))))))))))))))))))))))))))))))))))))))))))))))))))))))))))))))))
end
section
open PySem
theorem getD_out {xs : List Int} {k : Nat} (h : xs.length ≤ k) : xs.getD k 0 = 0 := by
  rw [List.getD_eq_getElem?_getD, List.getElem?_eq_none h]; rfl
theorem val_take_succ' (xs : List Int) (k : Nat) : val (xs.take (k + 1)) = val (xs.take k) + 10000 ^ k * xs.getD k 0 := by
  by_cases h : k < xs.length
  · exact val_take_succ xs k h
  · rw [getD_out (by omega), List.take_of_length_le (by omega), List.take_of_length_le (by omega)]; omega
theorem trim_at (xs : List Int) : ∃ n, n ≤ xs.length ∧ (∀ k, n ≤ k → k < xs.length → xs.getD k 0 = 0) ∧ (n = 0 ∨ xs.getD (n - 1) 0 ≠ 0) := by
  have : ∀ j, j ≤ xs.length → (∀ k, j ≤ k → k < xs.length → xs.getD k 0 = 0) → ∃ n, n ≤ xs.length ∧ (∀ k, n ≤ k → k < xs.length → xs.getD k 0 = 0) ∧ (n = 0 ∨ xs.getD (n - 1) 0 ≠ 0) := by
    intro j
    induction j with
    | zero => intro hj hz; exact ⟨0, hj, hz, .inl rfl⟩
    | succ j ih =>
      intro hj hz
      by_cases h : xs.getD j 0 = 0
      · refine ih (by omega) fun k h1 h2 => ?_
        rcases Nat.eq_or_lt_of_le h1 with e | e
        · rw [← e]; exact h
        · exact hz k e h2
      · exact ⟨j + 1, hj, hz, .inr h⟩
  exact this xs.length (Nat.le_refl _) fun k h1 h2 => by omega
theorem dig_ext_len {xs : List Int} {n : Nat} (hl : Lim xs) (hv : val xs = n) (hn : xs.length ≤ (dig n).length) : xs = dig n := by
  obtain ⟨j, h1, h2, h3⟩ := trim_at xs
  have e := trim_eq hl h1 h2 h3
  rw [hv] at e
  have e' : xs.take j = dig n := e
  have : (xs.take j).length = (dig n).length := by rw [e']
  rw [List.length_take] at this
  rw [← e', List.take_of_length_le (by omega)]
theorem len1000 {n : Nat} (h : n ≤ 1000) : n ≤ BIG := by unfold BIG; omega
theorem pow_cast (k : Nat) : ((10000 ^ k : Nat) : Int) = (10000 : Int) ^ k := by simp
theorem top0_snoc {xs : List Int} {c : Int} (h : c ≠ 0) : Top0 (xs ++ [c]) := by
  refine .inr ?_
  simp [List.getD_eq_getElem?_getD, h]

def b_add : PS :=
  (.seq (.assign "total" .lst0)
  (.seq (.assign "carry" (.int 0))
  (.seq (.for1 "i" (.max (.len (.loc "a")) (.len (.loc "b"))) (.seq (.assign "t" (.loc "carry"))
  (.seq (.ite (.cmp .Lt (.loc "i") (.len (.loc "a"))) (.aug "t" .Add (.idx (.loc "a") (.loc "i"))) .skip)
  (.seq (.ite (.cmp .Lt (.loc "i") (.len (.loc "b"))) (.aug "t" .Add (.idx (.loc "b") (.loc "i"))) .skip)
  (.seq (.expr (.append (.loc "total") (.bin .Mod (.loc "t") (.glob "BASE"))))
  (.assign "carry" (.bin .FloorDiv (.loc "t") (.glob "BASE"))))))))
  (.seq (.ite (.cmp .Gt (.loc "carry") (.int 0)) (.expr (.append (.loc "total") (.loc "carry"))) .skip)
  (.ret (.loc "total"))))))

theorem add_turn {pre : List Int} {xs ys : List Int} {k : Nat} {c t : Int} (hx : Lim xs) (hy : Lim ys) (hp : Lim pre) (hl : pre.length = k) (h0 : 0 ≤ c) (h1 : c ≤ 1)
    (hv : val pre + 10000 ^ k * c = val (xs.take k) + val (ys.take k)) (ht : t = c + xs.getD k 0 + ys.getD k 0) :
    (pre ++ [t % 10000]).length = k + 1 ∧ Lim (pre ++ [t % 10000]) ∧ 0 ≤ t / 10000 ∧ t / 10000 ≤ 1 ∧ val (pre ++ [t % 10000]) + 10000 ^ (k + 1) * (t / 10000) = val (xs.take (k + 1)) + val (ys.take (k + 1)) := by
  have hx' := hx.getD k
  have hy' := hy.getD k
  refine ⟨by simp [hl], lim_append.mpr ⟨hp, lim_cons.mpr ⟨by omega, lim_nil⟩⟩, by omega, by omega, ?_⟩
  rw [val_snoc, val_take_succ', val_take_succ', hl, Int.pow_succ]
  have e : t = 10000 * (t / 10000) + t % 10000 := by omega
  generalize t / 10000 = q at *
  generalize t % 10000 = r at *
  subst e
  grind

theorem add_spec (w : Wd) (hd : w.Def "add" ["a", "b"] b_add) (hB : w.G "BASE" = some (.int 10000)) {lv : Nat} {a b m k : Nat} {H : AH} {Q : QV} {X : XV}
    (ha : Has w.S H a (.li (dig m))) (hb : Has w.S H b (.li (dig k))) (hm : (dig m).length ≤ 1000) (hk : (dig k).length ≤ 1000)
    (hQ : ∀ l, Fresh H l → Q (.ref l) ((l, .li (dig (m + k))) :: H)) : w.fn (lv + 1) "add" [.ref a, .ref b] H Q X := by
  refine hd.step rfl ?_
  unfold b_add
  simp only [wE, String.reduceEq, ↓reduceIte, true_and, Bool.false_eq_true, decide_eq_true_eq, Bool.not_eq_true', decide_eq_false_iff_not, ite_not]
  intro l hl
  (refine seqK_ ?_; simp only [wE, String.reduceEq, ↓reduceIte, true_and, Bool.false_eq_true, decide_eq_true_eq, Bool.not_eq_true', decide_eq_false_iff_not, ite_not])
  (refine seqK_ ?_; simp only [wE, String.reduceEq, ↓reduceIte, true_and, Bool.false_eq_true, decide_eq_true_eq, Bool.not_eq_true', decide_eq_false_iff_not, ite_not])
  refine lenW_ints ha.cons (len1000 hm) ?_
  refine lenW_ints hb.cons (len1000 hk) ?_
  simp only [wE, String.reduceEq, ↓reduceIte, true_and, Bool.false_eq_true, decide_eq_true_eq, Bool.not_eq_true', decide_eq_false_iff_not, ite_not]
  refine ⟨by unfold BIG; omega, by unfold BIG; omega, loopW_t (fun j ρ H' => ∃ pre c, H' = (l, .li pre) :: H ∧ ρ "a" = some (.ref a) ∧ ρ "b" = some (.ref b) ∧ ρ "total" = some (.ref l) ∧ ρ "carry" = some (.int c) ∧
    pre.length = j ∧ Lim pre ∧ 0 ≤ c ∧ c ≤ 1 ∧ val pre + 10000 ^ j * c = val ((dig m).take j) + val ((dig k).take j)) ?_ ?_ ?_⟩
  · exact ⟨[], 0, rfl, rfl, rfl, rfl, rfl, rfl, lim_nil, by omega, by omega, by simp [val]⟩
  · rintro j ρ H' hj ⟨pre, c, rfl, h1, h2, h3, h4, h5, h6, h7, h8, h9⟩
    obtain ⟨g1, g2, g3, g4, g5⟩ := add_turn (lim_dig m) (lim_dig k) h6 h5 h7 h8 h9 rfl
    simp only [wE, String.reduceEq, ↓reduceIte, true_and, Bool.false_eq_true, decide_eq_true_eq, Bool.not_eq_true', decide_eq_false_iff_not, ite_not, h4]
    (refine seqK_ ?_; simp only [wE, String.reduceEq, ↓reduceIte, true_and, Bool.false_eq_true, decide_eq_true_eq, Bool.not_eq_true', decide_eq_false_iff_not, ite_not, h1])
    refine lenW_ints (Has.cons ha) (len1000 hm) ?_
    simp only [wE, String.reduceEq, ↓reduceIte, true_and, Bool.false_eq_true, decide_eq_true_eq, Bool.not_eq_true', decide_eq_false_iff_not, ite_not]
    refine if_join "t" (.int (c + (dig m).getD j 0)) (fun hc hP => ?_) (fun hc => ?_) ?_
    · refine idxW_ints (Has.cons ha) (len1000 hm) (by omega) (by omega) ?_
      simp only [wE, String.reduceEq, ↓reduceIte, true_and, Bool.false_eq_true, decide_eq_true_eq, Bool.not_eq_true', decide_eq_false_iff_not, ite_not]
      exact hP
    · rw [getD_out (xs := dig m) (k := j) (by omega), Int.add_zero]; rfl
    (refine seqK_ ?_; simp only [wE, String.reduceEq, ↓reduceIte, true_and, Bool.false_eq_true, decide_eq_true_eq, Bool.not_eq_true', decide_eq_false_iff_not, ite_not, h2])
    refine lenW_ints (Has.cons hb) (len1000 hk) ?_
    simp only [wE, String.reduceEq, ↓reduceIte, true_and, Bool.false_eq_true, decide_eq_true_eq, Bool.not_eq_true', decide_eq_false_iff_not, ite_not]
    refine if_join "t" (.int (c + (dig m).getD j 0 + (dig k).getD j 0)) (fun hc hP => ?_) (fun hc => ?_) ?_
    · refine idxW_ints (Has.cons hb) (len1000 hk) (by omega) (by omega) ?_
      simp only [wE, String.reduceEq, ↓reduceIte, true_and, Bool.false_eq_true, decide_eq_true_eq, Bool.not_eq_true', decide_eq_false_iff_not, ite_not]
      exact hP
    · rw [getD_out (xs := dig k) (k := j) (by omega), Int.add_zero]; rfl
    (refine seqK_ ?_; simp only [wE, String.reduceEq, ↓reduceIte, true_and, Bool.false_eq_true, decide_eq_true_eq, Bool.not_eq_true', decide_eq_false_iff_not, ite_not, h3, hB])
    refine ⟨by omega, appW_head hl (by unfold BIG; omega) ?_⟩
    simp only [wE, String.reduceEq, ↓reduceIte, true_and, Bool.false_eq_true, decide_eq_true_eq, Bool.not_eq_true', decide_eq_false_iff_not, ite_not]
    (refine seqK_ ?_; simp only [wE, String.reduceEq, ↓reduceIte, true_and, Bool.false_eq_true, decide_eq_true_eq, Bool.not_eq_true', decide_eq_false_iff_not, ite_not, hB])
    exact ⟨by omega, inv_ ⟨_, _, rfl, h1, h2, h3, rfl, g1, g2, g3, g4, g5⟩⟩
  · rintro ρ H' ⟨pre, c, rfl, h1, h2, h3, h4, h5, h6, h7, h8, h9⟩
    rw [List.take_of_length_le (by omega), List.take_of_length_le (by omega), val_dig, val_dig] at h9
    (refine seqK_ ?_; simp only [wE, String.reduceEq, ↓reduceIte, true_and, Bool.false_eq_true, decide_eq_true_eq, Bool.not_eq_true', decide_eq_false_iff_not, ite_not, h4, h3])
    split
    · refine appW_head hl (by unfold BIG; omega) ?_
      simp only [wE, String.reduceEq, ↓reduceIte, true_and, Bool.false_eq_true, decide_eq_true_eq, Bool.not_eq_true', decide_eq_false_iff_not, ite_not]
      (refine seqK_ ?_; simp only [wE, String.reduceEq, ↓reduceIte, true_and, Bool.false_eq_true, decide_eq_true_eq, Bool.not_eq_true', decide_eq_false_iff_not, ite_not, h3])
      rw [dig_ext (xs := pre ++ [c]) (n := m + k) (lim_append.mpr ⟨h6, lim_cons.mpr ⟨by omega, lim_nil⟩⟩) (top0_snoc (by omega)) (by rw [val_snoc, h5]; omega)]
      exact weak_of (hQ l hl)
    · (refine seqK_ ?_; simp only [wE, String.reduceEq, ↓reduceIte, true_and, Bool.false_eq_true, decide_eq_true_eq, Bool.not_eq_true', decide_eq_false_iff_not, ite_not, h3])
      obtain rfl : c = 0 := by omega
      have e := dig_ext_len (xs := pre) (n := m + k) h6 (by omega) (by have q1 := len_le_of_le (Nat.le_add_right m k); have q2 := len_le_of_le (Nat.le_add_left k m); omega)
      rw [e]
      exact weak_of (hQ l hl)
end
section
open PySem
def b_trimmed : PS :=
  (.seq (.assign "n" (.len (.loc "a")))
  (.seq (.whl (.and (.cmp .Gt (.loc "n") (.int 0)) (.cmp .Eq (.idx (.loc "a") (.bin .Sub (.loc "n") (.int 1))) (.int 0))) (.aug "n" .Sub (.int 1)))
  (.ret (.slTo (.loc "a") (.loc "n")))))

def b_from_int : PS :=
  (.seq (.assign "limbs" .lst0)
  (.seq (.whl (.cmp .Gt (.loc "n") (.int 0)) (.seq (.expr (.append (.loc "limbs") (.bin .Mod (.loc "n") (.glob "BASE"))))
  (.assign "n" (.bin .FloorDiv (.loc "n") (.glob "BASE")))))
  (.ret (.loc "limbs"))))

def b_to_int : PS :=
  (.seq (.assign "n" (.int 0))
  (.seq (.forDown "i" (.bin .Sub (.len (.loc "a")) (.int 1)) (.assign "n" (.bin .Add (.bin .Mult (.loc "n") (.glob "BASE")) (.idx (.loc "a") (.loc "i")))))
  (.ret (.loc "n"))))

def b_is_natural : PS :=
  (.seq (.forList "limb" (.loc "a") (.ite (.or (.cmp .Lt (.loc "limb") (.int 0)) (.cmp .GtE (.loc "limb") (.glob "BASE"))) (.ret (.bool false)) .skip))
  (.ret (.or (.cmp .Eq (.len (.loc "a")) (.int 0)) (.cmp .NotEq (.idx (.loc "a") (.bin .Sub (.len (.loc "a")) (.int 1))) (.int 0)))))

def b_compare : PS :=
  (.seq (.ite (.cmp .NotEq (.len (.loc "a")) (.len (.loc "b"))) (.ret (.ife (.cmp .Lt (.len (.loc "a")) (.len (.loc "b"))) (.neg (.int 1)) (.int 1))) .skip)
  (.seq (.forDown "i" (.bin .Sub (.len (.loc "a")) (.int 1)) (.ite (.cmp .NotEq (.idx (.loc "a") (.loc "i")) (.idx (.loc "b") (.loc "i"))) (.ret (.ife (.cmp .Lt (.idx (.loc "a") (.loc "i")) (.idx (.loc "b") (.loc "i"))) (.neg (.int 1)) (.int 1))) .skip))
  (.ret (.int 0))))

theorem from_int_spec (w : Wd) (hd : w.Def "from_int" ["n"] b_from_int) (hB : w.G "BASE" = some (.int 10000)) {lv : Nat} {n : Int} {H : AH} {Q : QV} {X : XV}
    (hn : (dig n.toNat).length ≤ 1000) (hQ : ∀ l, Fresh H l → Q (.ref l) ((l, .li (dig n.toNat)) :: H)) : w.fn (lv + 1) "from_int" [.int n] H Q X := by
  refine hd.step rfl ?_
  unfold b_from_int
  simp only [wE, String.reduceEq, ↓reduceIte, true_and, Bool.false_eq_true, decide_eq_true_eq, Bool.not_eq_true', decide_eq_false_iff_not, ite_not]
  intro l hl
  (refine seqK_ ?_; simp only [wE, String.reduceEq, ↓reduceIte, true_and, Bool.false_eq_true, decide_eq_true_eq, Bool.not_eq_true', decide_eq_false_iff_not, ite_not])
  refine whlW_ (fun t ρ H' => ∃ pre k, H' = (l, .li pre) :: H ∧ ρ "limbs" = some (.ref l) ∧ ρ "n" = some (.int k) ∧ pre ++ dig k.toNat = dig n.toNat ∧ t = k.toNat) n.toNat ⟨[], n, rfl, rfl, rfl, rfl, rfl⟩ ?_
  rintro t ρ H' ⟨pre, k, rfl, h1, h2, h3, rfl⟩
  simp only [wE, String.reduceEq, ↓reduceIte, true_and, Bool.false_eq_true, decide_eq_true_eq, Bool.not_eq_true', decide_eq_false_iff_not, ite_not, h2, h1, hB]
  split
  · have e : dig k.toNat = (k % 10000) :: dig (k / 10000).toNat := by
      rw [dig_pos (by omega), show k.toNat / 10000 = (k / 10000).toNat by omega, show ((k.toNat % 10000 : Nat) : Int) = k % 10000 by omega]
    have hlen : pre.length ≤ 1000 := by have := congrArg List.length h3; rw [List.length_append] at this; omega
    refine ⟨by omega, appW_head hl (len1000 hlen) ?_⟩
    simp only [wE, String.reduceEq, ↓reduceIte, true_and, Bool.false_eq_true, decide_eq_true_eq, Bool.not_eq_true', decide_eq_false_iff_not, ite_not]
    (refine seqK_ ?_; simp only [wE, String.reduceEq, ↓reduceIte, true_and, Bool.false_eq_true, decide_eq_true_eq, Bool.not_eq_true', decide_eq_false_iff_not, ite_not, h2, hB])
    refine ⟨by omega, invW_ _ ?_ ⟨_, _, rfl, h1, rfl, ?_, rfl⟩⟩
    · omega
    · rw [List.append_assoc, List.singleton_append, ← e]; exact h3
  · (refine seqK_ ?_; simp only [wE, String.reduceEq, ↓reduceIte, true_and, Bool.false_eq_true, decide_eq_true_eq, Bool.not_eq_true', decide_eq_false_iff_not, ite_not, h1])
    rw [show k.toNat = 0 by omega, dig_zero, List.append_nil] at h3
    rw [h3]
    exact weak_of (hQ l hl)

theorem to_int_spec (w : Wd) (hd : w.Def "to_int" ["a"] b_to_int) (hB : w.G "BASE" = some (.int 10000)) {lv : Nat} {a : Nat} {xs : List Int} {H : AH} {Q : QV} {X : XV}
    (ha : Has w.S H a (.li xs)) (hm : xs.length ≤ 1000) (hQ : Q (.int (val xs)) H) : w.fn (lv + 1) "to_int" [.ref a] H Q X := by
  refine hd.step rfl ?_
  unfold b_to_int
  simp only [wE, String.reduceEq, ↓reduceIte, true_and, Bool.false_eq_true, decide_eq_true_eq, Bool.not_eq_true', decide_eq_false_iff_not, ite_not]
  (refine seqK_ ?_; simp only [wE, String.reduceEq, ↓reduceIte, true_and, Bool.false_eq_true, decide_eq_true_eq, Bool.not_eq_true', decide_eq_false_iff_not, ite_not])
  refine lenW_ints ha (len1000 hm) ?_
  simp only [wE, String.reduceEq, ↓reduceIte, true_and, Bool.false_eq_true, decide_eq_true_eq, Bool.not_eq_true', decide_eq_false_iff_not, ite_not]
  refine ⟨by unfold BIG; omega, by unfold BIG; omega, loopW_t (fun j ρ H' => H' = H ∧ ρ "a" = some (.ref a) ∧ ρ "n" = some (.int (val (xs.drop (xs.length - j))))) ?_ ?_ ?_⟩
  · refine ⟨rfl, rfl, ?_⟩
    rw [List.drop_of_length_le (by omega)]; rfl
  · rintro j ρ H' hj ⟨rfl, h1, h2⟩
    simp only [wE, String.reduceEq, ↓reduceIte, true_and, Bool.false_eq_true, decide_eq_true_eq, Bool.not_eq_true', decide_eq_false_iff_not, ite_not, h1, h2, hB]
    refine ⟨.inl (by omega), idxW_ints ha (len1000 hm) (by omega) (by omega) ?_⟩
    simp only [wE, String.reduceEq, ↓reduceIte, true_and, Bool.false_eq_true, decide_eq_true_eq, Bool.not_eq_true', decide_eq_false_iff_not, ite_not]
    refine inv_ ⟨rfl, h1, ?_⟩
    show some (AV.int _) = _
    rw [val_drop xs (xs.length - (j + 1)) (by omega), show ((xs.length : Int) - 1 - j).toNat = xs.length - (j + 1) by omega, show xs.length - (j + 1) + 1 = xs.length - j by omega]
    rw [Int.add_comm, Int.mul_comm]
  · rintro ρ H' ⟨rfl, h1, h2⟩
    (refine seqK_ ?_; simp only [wE, String.reduceEq, ↓reduceIte, true_and, Bool.false_eq_true, decide_eq_true_eq, Bool.not_eq_true', decide_eq_false_iff_not, ite_not, h2])
    rw [show xs.length - ((xs.length : Int) - 1 + 1).toNat = 0 by omega, List.drop_zero]
    exact weak_of hQ

theorem is_natural_spec (w : Wd) (hd : w.Def "is_natural" ["a"] b_is_natural) (hB : w.G "BASE" = some (.int 10000)) {lv : Nat} {a m : Nat} {H : AH} {Q : QV} {X : XV}
    (ha : Has w.S H a (.li (dig m))) (hm : (dig m).length ≤ 1000) (hQ : Q (.bool true) H) : w.fn (lv + 1) "is_natural" [.ref a] H Q X := by
  refine hd.step rfl ?_
  unfold b_is_natural
  simp only [wE, String.reduceEq, ↓reduceIte, true_and, Bool.false_eq_true, decide_eq_true_eq, Bool.not_eq_true', decide_eq_false_iff_not, ite_not]
  refine ⟨a, dig m, rfl, len1000 hm, loopW_ (fun j ρ H' => H' = H ∧ ρ "a" = some (.ref a)) ⟨rfl, rfl⟩ (fun k ρ H' _ h => by rw [h.1]; exact ha) ?_ ?_⟩
  · rintro j ρ H' hj ⟨rfl, h1⟩
    have hd := (lim_dig m).getD j
    simp only [wE, String.reduceEq, ↓reduceIte, true_and, Bool.false_eq_true, decide_eq_true_eq, Bool.not_eq_true', decide_eq_false_iff_not, ite_not, h1, hB]
    rw [if_neg (by omega), if_neg (by omega)]
    exact inv_ ⟨rfl, h1⟩
  · rintro ρ H' ⟨rfl, h1⟩
    (refine seqK_ ?_; simp only [wE, String.reduceEq, ↓reduceIte, true_and, Bool.false_eq_true, decide_eq_true_eq, Bool.not_eq_true', decide_eq_false_iff_not, ite_not, h1])
    refine lenW_ints ha (len1000 hm) ?_
    simp only [wE, String.reduceEq, ↓reduceIte, true_and, Bool.false_eq_true, decide_eq_true_eq, Bool.not_eq_true', decide_eq_false_iff_not, ite_not]
    by_cases h0 : (dig m).length = 0
    · rw [if_pos (by omega), show decide (((dig m).length : Int) = 0) = true by simp [h0]]
      exact weak_of hQ
    · rw [if_neg (by omega)]
      refine lenW_ints ha (len1000 hm) ?_
      simp only [wE, String.reduceEq, ↓reduceIte, true_and, Bool.false_eq_true, decide_eq_true_eq, Bool.not_eq_true', decide_eq_false_iff_not, ite_not]
      refine idxW_ints ha (len1000 hm) (by omega) (by omega) ?_
      simp only [wE, String.reduceEq, ↓reduceIte, true_and, Bool.false_eq_true, decide_eq_true_eq, Bool.not_eq_true', decide_eq_false_iff_not, ite_not]
      have ht := top0_dig m
      rcases ht with e | e
      · rw [e] at h0; exact absurd rfl h0
      · rw [show (((dig m).length : Int) - 1).toNat = (dig m).length - 1 by omega, show (!decide ((dig m).getD ((dig m).length - 1) 0 = 0)) = true by simpa using e]
        exact weak_of hQ
end
section
open PySem PySem.W PySem.Spec PySem.Calls PyProof.Rows
/-! what an abstract value, object, map, ledger says of the real ones -/
def AV.R : AV → Value → Prop
  | .int i, v => ∃ t, v = .int i t
  | .bool b, v => v = .bool b
  | .none, v => v = .none
  | .str x, v => ∃ t, v = .str x t
  | .ref a, v => v = .ref a
  | .typ n, v => v = .type n
inductive AllR : List AV → List Value → Prop
  | nil : AllR [] []
  | cons {a : AV} {v : Value} {as : List AV} {vs : List Value} : a.R v → AllR as vs → AllR (a :: as) (v :: vs)
theorem all1 {as : List AV} {vs : List Value} {a : AV} (h : AllR [a] vs) : ∃ v, vs = [v] ∧ a.R v := by
  cases h with | cons h1 h2 => cases h2; exact ⟨_, rfl, h1⟩
theorem all2 {vs : List Value} {a b : AV} (h : AllR [a, b] vs) : ∃ u v, vs = [u, v] ∧ a.R u ∧ b.R v := by
  cases h with | cons h1 h2 => cases h2 with | cons h3 h4 => cases h4; exact ⟨_, _, rfl, h1, h3⟩

abbrev tupOf (its : Array Value) (n : Nat) : Obj := { cls := .type "tuple", data := .seq its n }
def AO.R : AO → Obj → Prop
  | .li xs, o => ∃ vs n, o = listOf (List.toArray vs) n ∧ IntsAre vs xs
  | .ls xs, o => ∃ vs n, o = listOf (List.toArray vs) n ∧ StrsAre vs xs
  | .tup as, o => ∃ vs n, o = tupOf (List.toArray vs) n ∧ AllR as vs
/-- the object as it is read at a heap -/
def View (h : Heap) (a : Addr) : AO → Prop
  | .li xs => ∃ vs, h.IsList a (List.toArray vs) ∧ IntsAre vs xs
  | .ls xs => ∃ vs, h.IsList a (List.toArray vs) ∧ StrsAre vs xs
  | .tup as => ∃ vs, IsTup h a (List.toArray vs) ∧ AllR as vs
theorem View.keeps {h h' : Heap} {a : Addr} {o : AO} (x : View h a o) (hk : ∀ b o, h.get? b = some o → h'.get? b = some o) : View h' a o := by
  cases o with
  | li xs => obtain ⟨vs, h1, h2⟩ := x; exact ⟨vs, h1.at fun o e => hk _ o e, h2⟩
  | ls xs => obtain ⟨vs, h1, h2⟩ := x; exact ⟨vs, h1.at fun o e => hk _ o e, h2⟩
  | tup as => obtain ⟨vs, h1, h2⟩ := x; exact ⟨vs, h1.keeps hk, h2⟩
theorem View.of {h : Heap} {a : Addr} {o : AO} {ob : Obj} (hr : o.R ob) (hg : h.get? a = some ob) : View h a o := by
  cases o with
  | li xs => obtain ⟨vs, n, rfl, h2⟩ := hr; exact ⟨vs, ⟨_, hg, rfl, _, rfl⟩, h2⟩
  | ls xs => obtain ⟨vs, n, rfl, h2⟩ := hr; exact ⟨vs, ⟨_, hg, rfl, _, rfl⟩, h2⟩
  | tup as => obtain ⟨vs, n, rfl, h2⟩ := hr; exact ⟨vs, ⟨_, hg, rfl, _, rfl⟩, h2⟩

def MRel (ρ : AM) (m : Str → Option Value) : Prop := ∀ x av, ρ x = some av → ∃ v, m (Str.ofString x) = some v ∧ av.R v
def HRel (H : AH) (news : List (Addr × Obj)) : Prop := ∀ a o, (a, o) ∈ H → ∃ ob, (a, ob) ∈ news ∧ o.R ob
def Apart (news R : List (Addr × Obj)) : Prop := ∀ p ∈ news, ∀ q ∈ R, p.1 ≠ q.1
/-- the state: the frame's map, the ledger, and what else must stand -/
def Sim (h₀ : Heap) (L : Addr) (ρ : AM) (H : AH) (R : List (Addr × Obj)) (h : Heap) : Prop :=
  ∃ m news, Fr h₀ L h m ∧ MRel ρ m ∧ News h₀ L h (news ++ R) ∧ HRel H news ∧ Apart news R

section
variable {h₀ h h' : Heap} {L : Addr} {ρ : AM} {H : AH} {R : List (Addr × Obj)}
theorem Sim.weak {H' : AH} (s : Sim h₀ L ρ H R h) (hs : ∀ p ∈ H', p ∈ H) : Sim h₀ L ρ H' R h := by
  obtain ⟨m, news, F, M, N, hr, ap⟩ := s
  exact ⟨m, news, F, M, N, fun a o hm => hr a o (hs _ hm), ap⟩
theorem Sim.keeps (s : Sim h₀ L ρ H R h) (hk : ∀ b o, h.get? b = some o → h'.get? b = some o) : Sim h₀ L ρ H R h' := by
  obtain ⟨m, news, F, M, N, hr, ap⟩ := s
  exact ⟨m, news, F.grownK hk, M, fun p hp => ⟨hk _ _ (N p hp).1, (N p hp).2⟩, hr, ap⟩
theorem Sim.view {S : AH} {a : Nat} {o : AO} (s : Sim h₀ L ρ H R h) (hS : ∀ a o, (a, o) ∈ S → View h₀ a o) (hh : Has S H a o) : View h a o := by
  obtain ⟨m, news, F, M, N, hr, ap⟩ := s
  rcases hh with hh | hh
  · exact (hS a o hh).keeps F.keep
  · obtain ⟨ob, h1, h2⟩ := hr a o hh
    exact .of h2 (N _ (List.mem_append_left _ h1)).1
/-- a new object -/
theorem Sim.push {o : AO} {ob : Obj} (s : Sim h₀ L ρ H R h) (hr : o.R ob) (hf : ob.isFreed = false) : Sim h₀ L ρ ((h.objs.size, o) :: H) R (h.push ob) := by
  obtain ⟨m, news, F, M, N, hh, ap⟩ := s
  refine ⟨m, (h.objs.size, ob) :: news, F.push _, M, ?_, fun a o' hm => ?_, fun p hp q hq => ?_⟩
  · exact News.push F N ob hf
  · rcases List.mem_cons.mp hm with e | hm
    · cases e; exact ⟨ob, .head _, hr⟩
    · obtain ⟨ob', h1, h2⟩ := hh a o' hm; exact ⟨ob', .tail _ h1, h2⟩
  · rcases List.mem_cons.mp hp with rfl | hp
    · exact Nat.ne_of_gt (Heap.lt_size (N q (List.mem_append_right _ hq)).1)
    · exact ap p hp q hq
/-- an object of the ledger changed -/
theorem Sim.upd {a : Addr} {o : AO} {ob ob' : Obj} (s : Sim h₀ L ρ H R h) (hm : ∃ o₀, (a, o₀) ∈ H) (_hg : h.get? a = some ob) (hs : Heap.SameBut a h h') (hg' : h'.get? a = some ob') (hr : o.R ob') : Sim h₀ L ρ (hupd H a o) R h' := by
  obtain ⟨m, news, F, M, N, hh, ap⟩ := s
  obtain ⟨o₀, ho₀⟩ := hm
  obtain ⟨ob₀, h1, _⟩ := hh a o₀ ho₀
  have z := N _ (List.mem_append_left _ h1)
  refine ⟨m, news.map (fun p => if p.1 = a then (a, ob') else p), F.change hs z.2.1 z.2.2, M, fun p hp => ?_, fun b o' hb => ?_, fun p hp q hq => ?_⟩
  · rcases List.mem_append.mp hp with hp | hp
    · obtain ⟨q, hq, rfl⟩ := List.mem_map.mp hp
      by_cases e : q.1 = a
      · rw [if_pos e]; exact ⟨hg', z.2⟩
      · rw [if_neg e]
        have y := N q (List.mem_append_left _ hq)
        exact ⟨(hs.2 _ e).trans y.1, y.2⟩
    · have y := N p (List.mem_append_right _ hp)
      exact ⟨(hs.2 _ (Ne.symm (ap _ h1 p hp))).trans y.1, y.2⟩
  · obtain ⟨q, hq, e⟩ := List.mem_map.mp hb
    by_cases e' : q.1 = a
    · rw [if_pos e'] at e
      cases e
      exact ⟨ob', List.mem_map.mpr ⟨_, h1, if_pos rfl⟩, hr⟩
    · rw [if_neg e'] at e
      subst e
      obtain ⟨ob₁, h3, h4⟩ := hh b o' hq
      exact ⟨ob₁, List.mem_map.mpr ⟨_, h3, if_neg e'⟩, h4⟩
  · obtain ⟨r, hr', rfl⟩ := List.mem_map.mp hp
    by_cases e : r.1 = a
    · rw [if_pos e]; exact e ▸ ap r hr' q hq
    · rw [if_neg e]; exact ap r hr' q hq
theorem Str.ofString_inj {x y : String} (h : Str.ofString x = Str.ofString y) : x = y := by
  rw [Str.ofString_eq_toList, Str.ofString_eq_toList] at h
  have h1 := congrArg (fun s : Str => s.cps.toList) h
  simp only at h1
  have h2 : x.toList = y.toList := by
    have inj : ∀ l l' : List Char, l.map (·.toNat) = l'.map (·.toNat) → l = l' := by
      intro l
      induction l with
      | nil => intro l' e; cases l' with | nil => rfl | cons c r => simp at e
      | cons c r ih =>
        intro l' e
        cases l' with
        | nil => simp at e
        | cons c' r' =>
          simp only [List.map_cons, List.cons.injEq] at e
          rw [ih r' e.2]
          congr 1
          exact Char.ext (UInt32.toNat_inj.mp e.1)
    exact inj _ _ (by simpa using h1)
  exact String.ext h2
theorem MRel.set {m : Str → Option Value} {x : String} {av : AV} {v : Value} (M : MRel ρ m) (hr : av.R v) : MRel (mset ρ x av) (fun y => if y = Str.ofString x then some v else m y) := by
  intro y b hb
  unfold mset at hb
  by_cases e : y = x
  · rw [if_pos e] at hb; cases hb; exact ⟨v, by rw [e]; exact if_pos rfl, hr⟩
  · rw [if_neg e] at hb
    obtain ⟨v', h1, h2⟩ := M y b hb
    exact ⟨v', (if_neg (fun q => e (Str.ofString_inj q))).trans h1, h2⟩
end
end
section
open PySem PySem.W PySem.Spec PySem.Calls PyProof.Rows
structure Pm where
  prog : Program
  w : World
  K : Frag
  p : Program
  loose : List Str
  mean : ExcName → Option Value
  mg : Str → Option Value
  mb : Str → Option Value
  S : AH
  G : String → Option AV
  addr : String → Addr

/-- a frame of a def: what is around it -/
structure Fd (q : Str) (sc : Scope) where
  A : Around
  L : Addr
  fa : Addr
  cd : Value
  outer : List Env
  base : Heap
  h₀ : Heap
abbrev Fd.env {q : Str} {sc : Scope} (f : Fd q sc) : Env := envOf q sc f.L f.fa f.cd

structure Stn (P : Pm) (n : Nat) {q : Str} {sc : Scope} (f : Fd q sc) : Prop where
  at_ : ∃ A₁ : Around, f.A = A₁.deeper f.env ∧ Below A₁ f.base f.outer f.h₀
  X : P.K.In f.h₀
  T : Top P.p P.loose P.mean P.mg P.mb f.h₀
  kind : sc.kind = .function
  gen : sc.isGenerator = false
  co : sc.isCoroutine = false
  handled : f.A.handled = none
  room : f.A.depth + n + 200 < recursionLimit
  units : f.A.units + 8 * n + 100 < cLine
  stat : ∀ a o, (a, o) ∈ P.S → View f.h₀ a o
  tree : P.prog.given.tree = none
  imps : importsNone P.p = true

/-- an exception of the class c is under way: raised in this very frame, or come out of a call -/
def Exn {q : Str} {sc : Scope} (f : Fd q sc) (ρ : AM) (R : List (Addr × Obj)) (c : String) (H : AH) (e : Value) (s : Shared) : Prop :=
  ∃ ea m news vs, e = .ref ea ∧ MRel ρ m ∧ HRel H news ∧ Apart news R ∧
    ((∃ h, Fr f.h₀ f.L h m ∧ News f.h₀ f.L h (news ++ R) ∧ Heap.MadeExcOf h s.heap ea (.type c) vs) ∨
     (∃ g t, Fr f.h₀ f.L g m ∧ RaisedK f.base (f.env :: f.outer) ea (.type c) t vs (news ++ R) s.heap ∧ g.UpToSlots s.heap))

def PostV {q : Str} {sc : Scope} (f : Fd q sc) (ρ : AM) (R : List (Addr × Obj)) (s : Shared) (Q : QV) (Qc : Value → Shared → Prop) : Prop :=
  ∀ v av H' h' tk, av.R v → Sim f.h₀ f.L ρ H' R h' → Q av H' → Qc v { s with heap := h', toks := tk }
def PostB {q : Str} {sc : Scope} (f : Fd q sc) (ρ : AM) (R : List (Addr × Obj)) (s : Shared) (Q : Bool → AH → Prop) (Qc : Bool → Shared → Prop) : Prop :=
  ∀ b H' h' tk, Sim f.h₀ f.L ρ H' R h' → Q b H' → Qc b { s with heap := h', toks := tk }
def PostX {q : Str} {sc : Scope} (f : Fd q sc) (ρ : AM) (R : List (Addr × Obj)) (s : Shared) (X : XV) (Ec : Value → Shared → Prop) : Prop :=
  ∀ c H' e h' tk, X c H' → Exn f ρ R c H' e { s with heap := h', toks := tk } → Ec e { s with heap := h', toks := tk }

def CallOK (P : Pm) (n : Nat) (g : String) (vs : List AV) (H : AH) (Q : QV) (X : XV) : Prop :=
  ∀ (q : Str) (sc : Scope) (f : Fd q sc), Stn P n f → ∀ (R : List (Addr × Obj)) (ρ : AM) (s : Shared) (vals : List Value) (Qc : Value → Shared → Prop) (Ec : Value → Shared → Prop), Sim f.h₀ f.L ρ H R s.heap → AllR vs vals →
    PostV f ρ R s Q Qc → PostX f ρ R s X Ec → wpAny (model P.prog P.w) f.A (call (.ref (P.addr g)) vals) Qc Ec s
def Pm.cx (P : Pm) (n : Nat) : Cx := ⟨P.S, P.G, CallOK P n⟩

/-- e is rightly told by pe -/
def EvOK (P : Pm) (q : Str) (sc : Scope) (e : Expr) (pe : PE) : Prop :=
  ∀ (n : Nat) (f : Fd q sc), Stn P n f → ∀ (R : List (Addr × Obj)) (ρ : AM) (H : AH) (s : Shared) (Q : QV) (X : XV) (Qc : Value → Shared → Prop) (Ec : Value → Shared → Prop), Sim f.h₀ f.L ρ H R s.heap → W (P.cx n) pe ρ H Q X →
    PostV f ρ R s Q Qc → PostX f ρ R s X Ec → wpAny (model P.prog P.w) f.A (eval e f.env) Qc Ec s
def TrOK (P : Pm) (q : Str) (sc : Scope) (e : Expr) (pe : PE) : Prop :=
  ∀ (n : Nat) (f : Fd q sc), Stn P n f → ∀ (R : List (Addr × Obj)) (ρ : AM) (H : AH) (s : Shared) (Q : Bool → AH → Prop) (X : XV) (Qc : Bool → Shared → Prop) (Ec : Value → Shared → Prop), Sim f.h₀ f.L ρ H R s.heap → W (P.cx n) pe ρ H (fun u H₁ => truW u H₁ Q) X →
    PostB f ρ R s Q Qc → PostX f ρ R s X Ec → wpAny (model P.prog P.w) f.A (isTrue e f.env (eval e f.env)) Qc Ec s

section
variable {q : Str} {sc : Scope} {f : Fd q sc} {ρ : AM} {R : List (Addr × Obj)} {s : Shared} {Q : QV} {Qc : Value → Shared → Prop} {H' : AH} {h' : Heap} {tk : Nat}
theorem PostV.i (hv : PostV f ρ R s Q Qc) {i : Int} {t : Tok} (hs : Sim f.h₀ f.L ρ H' R h') (hq : Q (.int i) H') : Qc (.int i t) { s with heap := h', toks := tk } := hv _ (.int i) H' h' tk ⟨t, rfl⟩ hs hq
theorem PostV.x (hv : PostV f ρ R s Q Qc) {x : Str} {t : Tok} (hs : Sim f.h₀ f.L ρ H' R h') (hq : Q (.str x) H') : Qc (.str x t) { s with heap := h', toks := tk } := hv _ (.str x) H' h' tk ⟨t, rfl⟩ hs hq
theorem PostV.b (hv : PostV f ρ R s Q Qc) {c : Bool} (hs : Sim f.h₀ f.L ρ H' R h') (hq : Q (.bool c) H') : Qc (.bool c) { s with heap := h', toks := tk } := hv _ (.bool c) H' h' tk rfl hs hq
theorem PostV.n (hv : PostV f ρ R s Q Qc) (hs : Sim f.h₀ f.L ρ H' R h') (hq : Q .none H') : Qc .none { s with heap := h', toks := tk } := hv _ .none H' h' tk rfl hs hq
theorem PostV.r (hv : PostV f ρ R s Q Qc) {a : Addr} (hs : Sim f.h₀ f.L ρ H' R h') (hq : Q (.ref a) H') : Qc (.ref a) { s with heap := h', toks := tk } := hv _ (.ref a) H' h' tk rfl hs hq
theorem PostV.t (hv : PostV f ρ R s Q Qc) {a : String} (hs : Sim f.h₀ f.L ρ H' R h') (hq : Q (.typ a) H') : Qc (.type a) { s with heap := h', toks := tk } := hv _ (.typ a) H' h' tk rfl hs hq
/-- a new object that a rule has laid -/
theorem sim_new {h₀ h' : Heap} {L D : Addr} {H : AH} {m : Str → Option Value} {news : List (Addr × Obj)} {o : AO} {ob : Obj} (M : MRel ρ m) (hr : HRel H news) (ap : Apart news R) (F' : Fr h₀ L h' m)
    (N' : News h₀ L h' ((D, ob) :: (news ++ R))) (hD : ∀ p ∈ news ++ R, p.1 < D) (ho : o.R ob) : Sim h₀ L ρ ((D, o) :: H) R h' := by
  refine ⟨m, (D, ob) :: news, F', M, N', fun a o' hm => ?_, fun p hp q hq => ?_⟩
  · rcases List.mem_cons.mp hm with e | hm
    · cases e; exact ⟨ob, .head _, ho⟩
    · obtain ⟨ob', h1, h2⟩ := hr a o' hm; exact ⟨ob', .tail _ h1, h2⟩
  · rcases List.mem_cons.mp hp with rfl | hp
    · exact Nat.ne_of_gt (hD q (List.mem_append_right _ hq))
    · exact ap p hp q hq
theorem fresh_of {H : AH} {news : List (Addr × Obj)} {D : Addr} (hr : HRel H news) (hD : ∀ p ∈ news ++ R, p.1 < D) : Fresh H D := fun p hp => by
  obtain ⟨ob, h1, _⟩ := hr p.1 p.2 hp
  exact hD _ (List.mem_append_left _ h1)
theorem sizes {h₀ h : Heap} {L : Addr} {news : List (Addr × Obj)} (N : News h₀ L h news) : ∀ p ∈ news, p.1 < h.objs.size := fun p hp => Heap.lt_size (N p hp).1
end

section
variable {P : Pm} {q : Str} {sc : Scope} {pos : Pos}

theorem ev_int {i : Int} {k : Nat} : EvOK P q sc (.Constant (.int i) k pos) (.int i) := fun n f st R ρ H s Q X Qc Ec hs hw hv hx =>
  wpAny_Constant_int (hv.i hs hw)
theorem ev_bool {b : Bool} {k : Nat} : EvOK P q sc (.Constant (.bool b) k pos) (.bool b) := fun n f st R ρ H s Q X Qc Ec hs hw hv hx =>
  Constant_bool (hv _ (.bool b) _ _ _ rfl hs hw)
theorem ev_loc {x : String} (hl : ∀ L a cd, (envOf q sc L a cd).kindOf (Str.ofString x) = some .local := by intros; rfl) (hd : (Str.ofString x == ("__debug__" : Str)) = false := by decide) :
    EvOK P q sc (.Name (Str.ofString x) pos) (.loc x) := fun n f st R ρ H s Q X Qc Ec hs hw hv hx => by
  obtain ⟨av, h1, h2⟩ := hw
  obtain ⟨m, news, F, M, rest⟩ := id hs
  obtain ⟨v, h3, h4⟩ := M x av h1
  exact ld F h3 (hv _ _ _ _ _ h4 hs h2) st.kind (hl _ _ _) hd
theorem ev_glob {x : String} {v : Value} {av : AV} (hg : P.G x = some av) (hr : av.R v) (hn : nsIn P.K mainGlobals (Str.ofString x) = some (some v)) (hl : ∀ L a cd, (envOf q sc L a cd).kindOf (Str.ofString x) = some .globalImplicit := by intros; rfl) (hd : (Str.ofString x == ("__debug__" : Str)) = false := by decide) :
    EvOK P q sc (.Name (Str.ofString x) pos) (.glob x) := fun n f st R ρ H s Q X Qc Ec hs hw hv hx => by
  obtain ⟨av', h1, h2⟩ := hw
  have h1' : P.G x = some av' := h1
  rw [hg] at h1'
  cases h1'
  obtain ⟨m, news, F, M, rest⟩ := id hs
  exact name_K F st.X (topRead_of st.T) hn (hv _ _ _ _ _ hr hs h2) st.kind (hl _ _ _) hd
theorem ev_globI {x : String} {i : Int} (hg : P.G x = some (.int i) ∧ ∃ t, nsIn P.K mainGlobals (Str.ofString x) = some (some (.int i t))) (hl : ∀ L a cd, (envOf q sc L a cd).kindOf (Str.ofString x) = some .globalImplicit := by intros; rfl) (hd : (Str.ofString x == ("__debug__" : Str)) = false := by decide) :
    EvOK P q sc (.Name (Str.ofString x) pos) (.glob x) := let ⟨h1, t, h2⟩ := hg; ev_glob h1 ⟨t, rfl⟩ h2 hl hd
theorem mulOk_of {a b : Int} (h : MulOk a b) : IntMulOk a b := by
  rcases h with h | h | h
  · exact .of_right (intBits_le_64 (by omega) (by omega))
  · exact .of_left (intBits_le_64 (by omega) (by omega))
  · have h1 := intBits_le h.1
    have h2 := intBits_le h.2
    clear h
    unfold IntMulOk
    intro q
    simp only [Bool.and_eq_true] at q
    have := q.2
    unfold Builtin.Int.intTooBig bitsLine at this
    have := of_decide_eq_true this
    omega
theorem fdiv_pos {a b : Int} (h : 0 < b) : Int.fdiv a b = a / b := Int.fdiv_eq_ediv_of_nonneg a (by omega)
theorem fmod_pos {a b : Int} (h : 0 < b) : Int.fmod a b = a % b := Int.fmod_eq_emod_of_nonneg a (by omega)
theorem Stn.pylong {n : Nat} {f : Fd q sc} (st : Stn P n f) {ρ : AM} {H : AH} {R : List (Addr × Obj)} {s : Shared} (hs : Sim f.h₀ f.L ρ H R s.heap) : PylongRoom (model P.prog P.w) f.A s := by
  obtain ⟨m, news, F, rest⟩ := hs
  obtain ⟨A₁, e, B⟩ := st.at_
  refine PylongRoom.of (st.T.nolimit.keeps F.keep) (by have := st.room; unfold Builtin.pylongFrames; omega) ?_
  exact SeerAt.of (env := f.env) (l := f.outer) ((st.T.seer st.imps).keeps F.keep) st.tree (by rw [e]; exact Around.frames_deeper B.stack) st.gen st.co rfl rfl
theorem R_li {vs : List Value} {xs : List Int} {n : Nat} (h : IntsAre vs xs) : (AO.li xs).R (listOf (List.toArray vs) n) := ⟨_, _, rfl, h⟩
theorem big_line {n : Nat} (h : n ≤ BIG) : n ≤ sizeLine := by unfold BIG at h; rw [sizeLine_eq]; omega
theorem ints_rep {x : Int} {t : Tok} (n : Nat) : IntsAre (List.replicate n (Value.int x t)) (List.replicate n x) := by
  induction n with
  | zero => exact .nil
  | succ n ih => exact .cons _ _ ih

/-- one word of two values -/
theorem op_sound {n : Nat} {f : Fd q sc} (st : Stn P n f) {R : List (Addr × Obj)} {ρ : AM} {H : AH} {s : Shared} {Q : QV} {Qc : Value → Shared → Prop} {Ec : Value → Shared → Prop} {op : Operator} {a b : AV} {u v : Value}
    (hs : Sim f.h₀ f.L ρ H R s.heap) (ha : a.R u) (hb : b.R v) (hw : opW P.S op a b H Q) (hv : PostV f ρ R s Q Qc) : wpAny (model P.prog P.w) f.A (binaryOp op u v) Qc Ec s := by
  unfold opW at hw
  split at hw
  · obtain ⟨t, rfl⟩ := ha; obtain ⟨t', rfl⟩ := hb
    exact add_int (hv.i hs hw)
  · obtain ⟨t, rfl⟩ := ha; obtain ⟨t', rfl⟩ := hb
    exact sub_int (hv.i hs hw)
  · obtain ⟨t, rfl⟩ := ha; obtain ⟨t', rfl⟩ := hb
    exact mul_int (hv.i hs hw.2) (mulOk_of hw.1)
  · obtain ⟨t, rfl⟩ := ha; obtain ⟨t', rfl⟩ := hb
    exact floordiv_int (by omega) (hv.i hs (by rw [fdiv_pos hw.1]; exact hw.2)) (.inr (st.pylong hs))
  · obtain ⟨t, rfl⟩ := ha; obtain ⟨t', rfl⟩ := hb
    exact mod_int' (by omega) (hv.i hs (by rw [fmod_pos hw.1]; exact hw.2))
  · obtain ⟨t, rfl⟩ := ha; obtain ⟨t', rfl⟩ := hb
    exact pow_int_small hw.1.1 hw.1.2.1 hw.1.2.2 (hv.i hs hw.2)
  · obtain ⟨xs, ys, h1, h2, h3, h4⟩ := hw
    cases ha; cases hb
    obtain ⟨vs, l1, i1⟩ := hs.view st.stat h1
    obtain ⟨ws, l2, i2⟩ := hs.view st.stat h2
    obtain ⟨m, news, F, M, N, hr, ap⟩ := id hs
    refine add_lists F N l1 l2 (fun h' F' N' => ?_) (big_line (by rw [i1.length, i2.length]; exact h3))
    exact hv.r (sim_new M hr ap F' N' (sizes N) (R_li (i1.append i2))) (h4 _ (fresh_of hr (sizes N)))
  · obtain ⟨x, h1, h0, h3, h4⟩ := hw
    cases ha
    obtain ⟨t, rfl⟩ := hb
    obtain ⟨m, news, F, M, N, hr, ap⟩ := id hs
    obtain ⟨ob, hm, vs, c, rfl, hi⟩ := hr _ _ h1
    obtain ⟨y, t2, i0⟩ : ∃ y t2, vs = [Value.int y t2] ∧ y = x := by
      cases hi with | cons n t2 r => cases r; exact ⟨_, _, rfl, rfl⟩
    obtain ⟨rfl, rfl⟩ := i0
    refine mul_list F N (N _ (List.mem_append_left _ hm)).1 (by omega) (by unfold BIG at h3; omega) (by unfold BIG at h3; simp; omega) (fun h' F' N' => ?_)
    rw [listMul_foldl_if] at N'
    refine hv.r (sim_new M hr ap F' N' (sizes N) (R_li ?_)) (h4 _ (fresh_of hr (sizes N)))
    simp only [List.flatten_replicate_singleton]
    exact ints_rep _
  · exact hw.elim

theorem ev_bin {l r : Expr} {op : Operator} {pl pr : PE} (hl : EvOK P q sc l pl) (hr : EvOK P q sc r pr) : EvOK P q sc (.BinOp l op r pos) (.bin op pl pr) := fun n f st R ρ H s Q X Qc Ec hs hw hv hx =>
  wpAny_BinOp (hl n f st R ρ H s _ _ _ _ hs hw (fun u a H₁ h₁ t₁ ha hs₁ hw₁ => hr n f st R ρ H₁ _ _ _ _ _ hs₁ hw₁ (fun v b H₂ h₂ t₂ hb hs₂ hw₂ => op_sound st hs₂ ha hb hw₂ hv) hx) hx)
theorem ev_neg {e : Expr} {pe : PE} (he : EvOK P q sc e pe) : EvOK P q sc (.UnaryOp .USub e pos) (.neg pe) := fun n f st R ρ H s Q X Qc Ec hs hw hv hx =>
  UnaryOp_ (he n f st R ρ H s _ _ _ _ hs hw (fun u a H₁ h₁ t₁ ha hs₁ hw₁ => by
    cases a with
    | int i => obtain ⟨t, rfl⟩ := ha; exact neg_int (hv.i hs₁ hw₁)
    | _ => exact hw₁.elim) hx)
theorem tru_sound {f : Fd q sc} {R : List (Addr × Obj)} {ρ : AM} {H : AH} {s : Shared} {Q : Bool → AH → Prop} {Qc : Bool → Shared → Prop} {Ec : Value → Shared → Prop} {a : AV} {u : Value} (hs : Sim f.h₀ f.L ρ H R s.heap) (ha : a.R u) (hw : truW a H Q)
    (hv : PostB f ρ R s Q Qc) : wpAny (model P.prog P.w) f.A (truthy u) Qc Ec s := by
  cases a with
  | bool b => cases ha; exact wpAny_truthy_bool (hv _ _ _ _ hs hw)
  | _ => exact hw.elim
/-- equal data, read at a heap -/
theorem aeq_reads {S H : AH} {h : Heap} (hv : ∀ a o, Has S H a o → View h a o) : ∀ {k : Nat} {a b : AV} {c : Bool}, AEq S H k a b c → ∀ {u v : Value}, a.R u → b.R v →
    ∃ da db as bs, Reads h u da as ∧ Reads h v db bs ∧ PyData.canLay0 da = true ∧ PyData.canLay0 db = true ∧ PyData.depth da ≤ k + 2 ∧ PyData.depth db ≤ k + 2 ∧ SeqAt.noMix da db = true ∧ PySem.Spec.same da db = c := by
  intro k a b c hh
  induction hh with
  | int i j =>
    rintro u v ⟨t, rfl⟩ ⟨t', rfl⟩
    refine ⟨.int i, .int j, [], [], .int _ _, .int _ _, ?_, ?_, ?_, ?_, ?_, ?_⟩ <;> simp [PyData.canLay0, PyData.depth, SeqAt.noMix, PySem.Spec.same]
    by_cases e : i = j <;> simp [e]
  | li h1 h2 =>
    rename_i a b k xs ys
    rintro u v rfl rfl
    obtain ⟨vs, l1, i1⟩ := hv _ _ h1
    obtain ⟨ws, l2, i2⟩ := hv _ _ h2
    have d1 := PyProof.Rows.depthAll_ints xs
    have d2 := PyProof.Rows.depthAll_ints ys
    refine ⟨_, _, _, _, reads_of_ints l1 i1, reads_of_ints l2 i2, ?_, ?_, ?_, ?_, ?_, ?_⟩
    · simp only [PyData.canLay0]; exact canLayAll0_ints xs
    · simp only [PyData.canLay0]; exact canLayAll0_ints ys
    · simp only [PyData.depth]; omega
    · simp only [PyData.depth]; omega
    · simp only [SeqAt.noMix]; exact noMix_ints xs ys
    · simp only [PySem.Spec.same]; exact same_ints xs ys
  | tup2 h1 h2 _ _ ih1 ih2 =>
    rintro u v rfl rfl
    obtain ⟨vs, l1, i1⟩ := hv _ _ h1
    obtain ⟨ws, l2, i2⟩ := hv _ _ h2
    obtain ⟨v1, v2, rfl, p1, p2⟩ := all2 i1
    obtain ⟨w1, w2, rfl, q1, q2⟩ := all2 i2
    obtain ⟨da, db, as, bs, r1, r2, c1, c2, e1, e2, n1, s1⟩ := ih1 p1 q1
    obtain ⟨da', db', as', bs', r1', r2', c1', c2', e1', e2', n1', s1'⟩ := ih2 p2 q2
    obtain ⟨o, ho, hc, m, hd⟩ := l1
    obtain ⟨o', ho', hc', m', hd'⟩ := l2
    refine ⟨.tuple [da, da'], .tuple [db, db'], _, _, .tuple ho hc hd (.cons r1 (.cons r1' .nil)), .tuple ho' hc' hd' (.cons r2 (.cons r2' .nil)), ?_, ?_, ?_, ?_, ?_, ?_⟩
    · simp only [PyData.canLay0, PyData.canLayAll0, c1, c1', Bool.and_true]
    · simp only [PyData.canLay0, PyData.canLayAll0, c2, c2', Bool.and_true]
    · simp only [PyData.depth, PyData.depthAll]; omega
    · simp only [PyData.depth, PyData.depthAll]; omega
    · simp only [SeqAt.noMix, SeqAt.noMixAll, n1, n1', Bool.and_true]
    · simp only [PySem.Spec.same, PySem.Spec.sameAll, s1, s1', Bool.and_true]
theorem is_b {a b : Bool} : (Value.bool a == Value.bool b) = (a == b) := by cases a <;> cases b <;> rfl
theorem is_t {a b : String} : (Value.type a == Value.type b) = (a == b) := by
  by_cases h : a = b
  · subst h; simp
  · rw [beq_eq_false_iff_ne.mpr h, beq_eq_false_iff_ne.mpr fun e => h (Value.type.inj e)]
theorem is_nb {b : Bool} : (Value.none == Value.bool b) = false := by cases b <;> rfl
theorem cmp_sound {n : Nat} {f : Fd q sc} (st : Stn P n f) {R : List (Addr × Obj)} {ρ : AM} {H : AH} {s : Shared} {Q : QV} {Qc : Value → Shared → Prop} {Ec : Value → Shared → Prop} {op : CmpOp} {a b : AV} {u v : Value}
    (hs : Sim f.h₀ f.L ρ H R s.heap) (ha : a.R u) (hb : b.R v) (hw : cmpW P.S op a b H Q) (hv : PostV f ρ R s Q Qc) : wpAny (model P.prog P.w) f.A (compareOp op u v) Qc Ec s := by
  unfold cmpW at hw
  split at hw
  · obtain ⟨t, rfl⟩ := ha; obtain ⟨t', rfl⟩ := hb; exact lt_int (hv.b hs hw)
  · obtain ⟨t, rfl⟩ := ha; obtain ⟨t', rfl⟩ := hb; exact le_int (hv.b hs hw)
  · obtain ⟨t, rfl⟩ := ha; obtain ⟨t', rfl⟩ := hb; exact gt_int (hv.b hs hw)
  · obtain ⟨t, rfl⟩ := ha; obtain ⟨t', rfl⟩ := hb; exact ge_int (hv.b hs hw)
  · obtain ⟨t, rfl⟩ := ha; obtain ⟨t', rfl⟩ := hb; exact eq_int (hv.b hs hw)
  · obtain ⟨t, rfl⟩ := ha; obtain ⟨t', rfl⟩ := hb; exact ne_int (hv.b hs hw)
  · cases ha; cases hb; exact eq_bool (hv.b hs hw)
  · cases ha; cases hb; exact ne_bool (hv.b hs hw)
  · obtain ⟨t, rfl⟩ := ha; obtain ⟨t', rfl⟩ := hb; exact PyProof.Rows.eq_str (hv.b hs hw)
  · obtain ⟨t, rfl⟩ := ha; obtain ⟨t', rfl⟩ := hb; exact PyProof.Rows.ne_str (hv.b hs hw)
  · obtain ⟨c, h1, h2⟩ := hw
    obtain ⟨da, db, as, bs, r1, r2, c1, c2, e1, e2, n1, s1⟩ := aeq_reads (fun a o hh => hs.view st.stat hh) h1 ha hb
    exact eq_dataH_same r1 r2 (Bool.and_eq_true_iff.mpr ⟨c1, decide_eq_true (by omega)⟩) (Bool.and_eq_true_iff.mpr ⟨c2, decide_eq_true (by omega)⟩) (by have := st.units; omega) n1 (by rw [s1]; exact hv.b hs h2)
  · obtain ⟨c, h1, h2⟩ := hw
    obtain ⟨da, db, as, bs, r1, r2, c1, c2, e1, e2, n1, s1⟩ := aeq_reads (fun a o hh => hs.view st.stat hh) h1 ha hb
    exact ne_dataH_same r1 r2 (Bool.and_eq_true_iff.mpr ⟨c1, decide_eq_true (by omega)⟩) (Bool.and_eq_true_iff.mpr ⟨c2, decide_eq_true (by omega)⟩) (by have := st.units; omega) n1 (by rw [s1]; exact hv.b hs h2)
  · cases ha; cases hb; exact wpAny_is_plain rfl (by rw [is_b]; exact hv.b hs hw)
  · cases ha; cases hb; exact wpAny_isNot_plain rfl (by rw [is_b]; exact hv.b hs hw)
  · cases ha; cases hb; exact wpAny_is_plain rfl (by rw [is_nb]; exact hv.b hs hw)
  · cases ha; cases hb; exact wpAny_isNot_plain rfl (by rw [is_nb]; exact hv.b hs hw)
  · cases ha; cases hb; exact wpAny_is_plain rfl (by rw [is_t]; exact hv.b hs hw)
  · cases ha; cases hb; exact wpAny_isNot_plain rfl (by rw [is_t]; exact hv.b hs hw)
  · exact hw.elim
theorem ev_cmp {l r : Expr} {op : CmpOp} {pl pr : PE} (hl : EvOK P q sc l pl) (hr : EvOK P q sc r pr) (hm : behindInMarks op r = false := by with_unfolding_all rfl) : EvOK P q sc (.Compare l [op] [r] pos) (.cmp op pl pr) := fun n f st R ρ H s Q X Qc Ec hs hw hv hx =>
  wpAny_Compare1 (hl n f st R ρ H s _ _ _ _ hs hw (fun u a H₁ h₁ t₁ ha hs₁ hw₁ => hr n f st R ρ H₁ _ _ _ _ _ hs₁ hw₁ (fun v b H₂ h₂ t₂ hb hs₂ hw₂ => cmp_sound st hs₂ ha hb hw₂ hv) hx) hx) hm
theorem tr_cmp {l r : Expr} {op : CmpOp} {pl pr : PE} (hl : EvOK P q sc l pl) (hr : EvOK P q sc r pr) (hm : behindInMarks op r = false := by with_unfolding_all rfl) : TrOK P q sc (.Compare l [op] [r] pos) (.cmp op pl pr) := fun n f st R ρ H s Q X Qc Ec hs hw hv hx =>
  wpAny_isTrue_Compare1 (hl n f st R ρ H s _ _ _ _ hs hw (fun u a H₁ h₁ t₁ ha hs₁ hw₁ => hr n f st R ρ H₁ _ _ _ _ _ hs₁ hw₁ (fun v b H₂ h₂ t₂ hb hs₂ hw₂ => cmp_sound st hs₂ ha hb hw₂ fun c d H₃ h₃ t₃ hc hs₃ hw₃ => tru_sound (f := f) hs₃ hc hw₃ hv) hx) hx) hm
end
end
section
open PySem PySem.W PySem.Spec PySem.Calls PyProof.Rows
def ArgsOK (P : Pm) (q : Str) (sc : Scope) (es : List Expr) (pes : PEs) : Prop :=
  ∀ (n : Nat) (f : Fd q sc), Stn P n f → ∀ (R : List (Addr × Obj)) (ρ : AM) (H : AH) (s : Shared) (Q : List AV → AH → Prop) (X : XV) (Qc : List Value → Shared → Prop) (Ec : Value → Shared → Prop) (pos : Pos), Sim f.h₀ f.L ρ H R s.heap → WArgs (P.cx n) pes ρ H Q X →
    (∀ vs as H' h' tk, AllR as vs → vs.length = es.length → Sim f.h₀ f.L ρ H' R h' → Q as H' → Qc vs { s with heap := h', toks := tk }) → PostX f ρ R s X Ec → wpAny (model P.prog P.w) f.A (spliced (backTo pos (starEach es f.env))) Qc Ec s

theorem AllR.len {as : List AV} {vs : List Value} (h : AllR as vs) : vs.length = as.length := by
  induction h with
  | nil => rfl
  | cons _ _ ih => simp [ih]
theorem AllR.get {as : List AV} {vs : List Value} (h : AllR as vs) : ∀ {k : Nat} {av : AV}, as[k]? = some av → ∃ v, vs[k]? = some v ∧ av.R v := by
  induction h with
  | nil => intro k av e; simp at e
  | cons ha hr ih =>
    intro k av e
    cases k with
    | zero => simp at e; subst e; exact ⟨_, rfl, ha⟩
    | succ k => obtain ⟨v, e2, e3⟩ := ih (k := k) (av := av) (by simpa using e); exact ⟨v, by simpa using e2, e3⟩

section
variable {P : Pm} {q : Str} {sc : Scope} {pos : Pos}

theorem ev_one {e : Expr} {pe : PE} {op : BoolOp} (he : EvOK P q sc e pe) : EvOK P q sc (.BoolOp op [e] pos) pe := fun n f st R ρ H s Q X Qc Ec hs hw hv hx =>
  BoolOp_one (he n f st R ρ H s Q X Qc Ec hs hw hv hx)
theorem ev_and {e₁ e₂ : Expr} {rest : List Expr} {p₁ p₂ : PE} (h₁ : EvOK P q sc e₁ p₁) (h₂ : EvOK P q sc (.BoolOp .And (e₂ :: rest) pos) p₂) : EvOK P q sc (.BoolOp .And (e₁ :: e₂ :: rest) pos) (.and p₁ p₂) := fun n f st R ρ H s Q X Qc Ec hs hw hv hx =>
  BoolOp_and (h₁ n f st R ρ H s _ _ _ _ hs hw (fun u a H₁ h₁ t₁ ha hs₁ hw₁ => by
    cases a with
    | bool b =>
      cases ha
      refine wpAny_truthy_bool ?_
      cases b with
      | true => exact h₂ n f st R ρ H₁ _ Q X Qc Ec hs₁ hw₁ hv hx
      | false => exact hv.b hs₁ hw₁
    | _ => exact hw₁.elim) hx)
theorem ev_or {e₁ e₂ : Expr} {rest : List Expr} {p₁ p₂ : PE} (h₁ : EvOK P q sc e₁ p₁) (h₂ : EvOK P q sc (.BoolOp .Or (e₂ :: rest) pos) p₂) : EvOK P q sc (.BoolOp .Or (e₁ :: e₂ :: rest) pos) (.or p₁ p₂) := fun n f st R ρ H s Q X Qc Ec hs hw hv hx =>
  BoolOp_or (h₁ n f st R ρ H s _ _ _ _ hs hw (fun u a H₁ h₁ t₁ ha hs₁ hw₁ => by
    cases a with
    | bool b =>
      cases ha
      refine wpAny_truthy_bool ?_
      cases b with
      | true => exact hv.b hs₁ hw₁
      | false => exact h₂ n f st R ρ H₁ _ Q X Qc Ec hs₁ hw₁ hv hx
    | _ => exact hw₁.elim) hx)
theorem tr_and1 {e : Expr} {pe : PE} (he : TrOK P q sc e pe) : TrOK P q sc (.BoolOp .And [e] pos) pe := fun n f st R ρ H s Q X Qc Ec hs hw hv hx =>
  isTrue_and (he n f st R ρ H s Q X _ _ hs hw (fun b H' h' tk hs' hq => by
    cases b with
    | true => exact isTrue_and_nil (hv _ _ _ _ hs' hq)
    | false => exact hv _ _ _ _ hs' hq) hx)
theorem tr_or1 {e : Expr} {pe : PE} (he : TrOK P q sc e pe) : TrOK P q sc (.BoolOp .Or [e] pos) pe := fun n f st R ρ H s Q X Qc Ec hs hw hv hx =>
  isTrue_or (he n f st R ρ H s Q X _ _ hs hw (fun b H' h' tk hs' hq => by
    cases b with
    | true => exact hv _ _ _ _ hs' hq
    | false => exact isTrue_or_nil (hv _ _ _ _ hs' hq)) hx)
theorem tr_and {e₁ e₂ : Expr} {rest : List Expr} {p₁ p₂ : PE} (h₁ : TrOK P q sc e₁ p₁) (h₂ : TrOK P q sc (.BoolOp .And (e₂ :: rest) pos) p₂) : TrOK P q sc (.BoolOp .And (e₁ :: e₂ :: rest) pos) (.and p₁ p₂) := fun n f st R ρ H s Q X Qc Ec hs hw hv hx =>
  isTrue_and (h₁ n f st R ρ H s _ X _ _ hs hw (fun b H' h' tk hs' hq => by
    cases b with
    | true => exact h₂ n f st R ρ H' _ Q X Qc Ec hs' hq hv hx
    | false => exact hv _ _ _ _ hs' hq) hx)
theorem tr_or {e₁ e₂ : Expr} {rest : List Expr} {p₁ p₂ : PE} (h₁ : TrOK P q sc e₁ p₁) (h₂ : TrOK P q sc (.BoolOp .Or (e₂ :: rest) pos) p₂) : TrOK P q sc (.BoolOp .Or (e₁ :: e₂ :: rest) pos) (.or p₁ p₂) := fun n f st R ρ H s Q X Qc Ec hs hw hv hx =>
  isTrue_or (h₁ n f st R ρ H s _ X _ _ hs hw (fun b H' h' tk hs' hq => by
    cases b with
    | true => exact hv _ _ _ _ hs' hq
    | false => exact h₂ n f st R ρ H' _ Q X Qc Ec hs' hq hv hx) hx)
theorem idx_sound {n : Nat} {f : Fd q sc} (st : Stn P n f) {R : List (Addr × Obj)} {ρ : AM} {H : AH} {s : Shared} {Q : QV} {Qc : Value → Shared → Prop} {Ec : Value → Shared → Prop} {a b : AV} {u v : Value} {value slice : Expr}
    (hs : Sim f.h₀ f.L ρ H R s.heap) (ha : a.R u) (hb : b.R v) (hw : idxW P.S a b H Q) (hv : PostV f ρ R s Q Qc) (hsl : ∀ o i, subscripted slice false o i = operate [o, i] (getItem o i)) : wpAny (model P.prog P.w) f.A (subscriptTail value slice u v) Qc Ec s := by
  unfold idxW at hw
  split at hw
  · cases ha
    obtain ⟨t, rfl⟩ := hb
    obtain ⟨o, h1, h2⟩ := hw
    have vw := hs.view st.stat h1
    cases o with
    | li xs =>
      obtain ⟨h0, h3, h4, h5⟩ := h2
      obtain ⟨vs, hl, hi⟩ := vw
      obtain ⟨t', hx⟩ := hi.get _ _ (ints_getD h0 h3)
      exact tail_any hl.typeIs slot_list_getitem.lookup (wpAny_getItem_list hl h0 (by omega) (by simpa using hx) (hv.i hs h5)) (hsl _ _)
    | tup as =>
      obtain ⟨h0, h3, h4, av, h5, h6⟩ := h2
      obtain ⟨vs, hl, hi⟩ := vw
      rename_i i
      have hlen := hi.len
      obtain ⟨v, e1, e2⟩ := hi.get h5
      have hj : seqIndex? i (List.toArray vs).size = some i.toNat := by
        unfold seqIndex?
        simp only [List.size_toArray]
        rw [if_neg (show ¬ i < 0 by omega), decide_eq_true h0, decide_eq_true (show i < (vs.length : Int) by omega)]
        rfl
      exact tail_any hl.typeIs slot_tuple_getitem.lookup (getItem_tuple hl (by omega) (by omega) hj (by simpa using e1) (hv _ av _ _ _ e2 hs h6)) (hsl _ _)
    | ls xs => exact h2.elim
  · exact hw.elim
theorem ev_idx {e i : Expr} {pe pi : PE} (he : EvOK P q sc e pe) (hi : EvOK P q sc i pi) (hsl : ∀ o v, subscripted i false o v = operate [o, v] (getItem o v) := by intros; with_unfolding_all rfl) : EvOK P q sc (.Subscript e i pos) (.idx pe pi) := fun n f st R ρ H s Q X Qc Ec hs hw hv hx =>
  Subscript_ (he n f st R ρ H s _ _ _ _ hs hw (fun u a H₁ h₁ t₁ ha hs₁ hw₁ => hi n f st R ρ H₁ _ _ _ _ _ hs₁ hw₁ (fun v b H₂ h₂ t₂ hb hs₂ hw₂ => idx_sound st hs₂ ha hb hw₂ hv hsl) hx) hx)

theorem args_nil' : ArgsOK P q sc [] .nil := fun n f st R ρ H s Q X Qc Ec pos hs hw hv hx => spliced_none (hv _ _ _ _ _ .nil rfl hs hw)
theorem args_cons' {e : Expr} {es : List Expr} {pe : PE} {pes : PEs} (he : EvOK P q sc e pe) (hes : ArgsOK P q sc es pes) (hse : ∀ f : Fd q sc, starEach (e :: es) f.env = (false, eval e f.env) :: starEach es f.env := by intro _; rfl) : ArgsOK P q sc (e :: es) (.cons pe pes) := fun n f st R ρ H s Q X Qc Ec pos hs hw hv hx =>
  spliced_more (he n f st R ρ H s _ _ _ _ hs hw (fun u a H₁ h₁ t₁ ha hs₁ hw₁ => hes n f st R ρ H₁ _ _ X _ _ pos hs₁ hw₁ (fun vs as H₂ h₂ t₂ has hl₂ hs₂ hw₂ => hv _ _ _ _ _ (.cons ha has) (by simp [hl₂]) hs₂ hw₂) hx) hx) (hse f)
theorem ev_lst0 : EvOK P q sc (.List [] pos) .lst0 := fun n f st R ρ H s Q X Qc Ec hs hw hv hx => by
  refine List_ (spliced_none ?_)
  obtain ⟨m, news, F, M, N, hr, ap⟩ := id hs
  exact newList_N F N (fun h' F' N' => hv.r (sim_new M hr ap F' N' (sizes N) (R_li .nil)) (hw _ (fresh_of hr (sizes N)))) (by rw [sizeLine_eq]; simp)
/-- a call of a def of the text -/
theorem ev_call {g : String} {e : Expr} {es : List Expr} {p : Pos} {pes : PEs} (hes : ArgsOK P q sc (e :: es) pes) (hn : nsIn P.K mainGlobals (Str.ofString g) = some (some (.ref (P.addr g)))) (hk : keepIn P.K (.ref (P.addr g)) = true)
    (hl : ∀ L a cd, (envOf q sc L a cd).kindOf (Str.ofString g) = some .globalImplicit := by intros; rfl) (hd : (Str.ofString g == ("__debug__" : Str)) = false := by decide)
    (hse : ∀ f : Fd q sc, starEach (e :: es) f.env = (false, eval e f.env) :: starEach es f.env := by intro _; rfl) (hpl : ∀ f : Fd q sc, (backTo pos (starEach es f.env)).any (·.1) = false := by intro _; rfl) :
    EvOK P q sc (.Call (.Name (Str.ofString g) p) (e :: es) [] pos) (.call g pes) := fun n f st R ρ H s Q X Qc Ec hs hw hv hx => by
  obtain ⟨m, news, F, M, rest⟩ := id hs
  refine wpAny_Call_NameR (name_K F st.X (topRead_of st.T) hn ?_ st.kind (hl _ _ _) hd)
  refine callWith_K st.X hk (hes n f st R ρ H s _ _ _ _ pos hs hw (fun vs as H₁ h₁ t₁ has hl₁ hs₁ hw₁ => ?_) hx) (hse f) (hpl f)
  obtain ⟨m₁, news₁, F₁, rest₁⟩ := id hs₁
  exact ⟨st.X.keeps F₁.keep, hw₁ q sc f st R ρ _ _ Qc Ec hs₁ has (fun v av H' h' tk hr hs' hq => hv v av H' h' tk hr hs' hq) hx⟩

/-- a call of a built-in function with one argument, two -/
theorem ev_bi {g : String} {e : Expr} {es : List Expr} {p : Pos} {pe : PE} {pes : PEs} (hes : ArgsOK P q sc (e :: es) pes) (hn : nsIn P.K mainGlobals (Str.ofString g) = some none) (hb : bootBuiltins (Str.ofString g) = some (.builtin g)) (hx : Str.ofString g ≠ "__name__")
    (hw' : ∀ n ρ H Q X, W (P.cx n) pe ρ H Q X → ∃ Q', WArgs (P.cx n) pes ρ H Q' X ∧ ∀ (f : Fd q sc), Stn P n f → ∀ (R : List (Addr × Obj)) (s : Shared) (vs : List Value) (as : List AV) (H' : AH) (Qc : Value → Shared → Prop) (Ec : Value → Shared → Prop), AllR as vs → Sim f.h₀ f.L ρ H' R s.heap → Q' as H' → PostV f ρ R s Q Qc → wpAny (model P.prog P.w) f.A (call (.builtin g) vs) Qc Ec s)
    (hl : ∀ L a cd, (envOf q sc L a cd).kindOf (Str.ofString g) = some .globalImplicit := by intros; rfl) (hd : (Str.ofString g == ("__debug__" : Str)) = false := by decide)
    (hse : ∀ f : Fd q sc, starEach (e :: es) f.env = (false, eval e f.env) :: starEach es f.env := by intro _; rfl) (hpl : ∀ f : Fd q sc, (backTo pos (starEach es f.env)).any (·.1) = false := by intro _; rfl) :
    EvOK P q sc (.Call (.Name (Str.ofString g) p) (e :: es) [] pos) pe := fun n f st R ρ H s Q X Qc Ec hs hw hv hx' => by
  obtain ⟨m, news, F, M, rest⟩ := id hs
  refine wpAny_Call_NameR (name_B F st.X (topRead_of st.T) hn hb hx ?_ st.kind (hl _ _ _) hd)
  obtain ⟨Q', h1, h2⟩ := hw' n ρ H Q X hw
  exact PyProof.Rows.callWith_builtin1 (hes n f st R ρ H s _ _ _ _ pos hs h1 (fun vs as H₁ h₁ t₁ has hl₁ hs₁ hw₁ => h2 f st R _ vs as H₁ Qc Ec has hs₁ hw₁ hv) hx') (hse f) (hpl f)
end
end
section
open PySem PySem.W PySem.Spec PySem.Calls PyProof.Rows
section
variable {P : Pm} {q : Str} {sc : Scope} {pos : Pos}

theorem len_sound {n : Nat} {f : Fd q sc} (st : Stn P n f) {R : List (Addr × Obj)} {ρ : AM} {H : AH} {s : Shared} {Q : QV} {Qc : Value → Shared → Prop} {Ec : Value → Shared → Prop} {a : AV} {u : Value}
    (hs : Sim f.h₀ f.L ρ H R s.heap) (ha : a.R u) (hw : lenW P.S a H Q) (hv : PostV f ρ R s Q Qc) : wpAny (model P.prog P.w) f.A (call (.builtin "len") [u]) Qc Ec s := by
  cases a with
  | ref a =>
    cases ha
    obtain ⟨o, h1, h2⟩ := hw
    have vw := hs.view st.stat h1
    cases o with
    | li xs =>
      obtain ⟨vs, hl, hi⟩ := vw
      have hl' := hi.length
      refine call_len_list hl (by have := h2.1; unfold BIG at this; simp only [List.size_toArray]; omega) ?_
      simp only [List.size_toArray, hl']
      exact hv.i hs h2.2
    | tup as =>
      obtain ⟨vs, hl, hi⟩ := vw
      have hl' := hi.len
      refine PyProof.Rows.len_tuple hl (by have := h2.1; unfold BIG at this; simp only [List.size_toArray]; omega) ?_
      simp only [List.size_toArray, hl']
      exact hv.i hs h2.2
    | ls xs => exact h2.elim
  | _ => exact hw.elim
theorem ev_len {e : Expr} {p : Pos} {pe : PE} (he : EvOK P q sc e pe) (hn : nsIn P.K mainGlobals (Str.ofString "len") = some none) (hl : ∀ L a cd, (envOf q sc L a cd).kindOf (Str.ofString "len") = some .globalImplicit := by intros; rfl)
    (hse : ∀ f : Fd q sc, starEach [e] f.env = (false, eval e f.env) :: starEach [] f.env := by intro _; rfl) :
    EvOK P q sc (.Call (.Name (Str.ofString "len") p) [e] [] pos) (.len pe) :=
  ev_bi (args_cons' he args_nil' hse) hn boot_len (by decide) (fun n ρ H Q X hw => ⟨fun as H' => match as with | [a] => lenW P.S a H' Q | _ => False, hw, fun f st R s vs as H' Qc Ec has hs hq hv => by
    match as, hq with
    | [a], hq =>
      obtain ⟨v, rfl, hr⟩ := all1 (as := []) has
      exact len_sound st hs hr hq hv⟩) hl (by decide) hse
theorem ev_max {e g : Expr} {p : Pos} {pe pg : PE} (he : EvOK P q sc e pe) (hg : EvOK P q sc g pg) (hn : nsIn P.K mainGlobals (Str.ofString "max") = some none) (hl : ∀ L a cd, (envOf q sc L a cd).kindOf (Str.ofString "max") = some .globalImplicit := by intros; rfl)
    (hse : ∀ f : Fd q sc, starEach [e, g] f.env = (false, eval e f.env) :: starEach [g] f.env := by intro _; rfl) (hse2 : ∀ f : Fd q sc, starEach [g] f.env = (false, eval g f.env) :: starEach [] f.env := by intro _; rfl) (hpl : ∀ f : Fd q sc, (backTo pos (starEach [g] f.env)).any (·.1) = false := by intro _; rfl) :
    EvOK P q sc (.Call (.Name (Str.ofString "max") p) [e, g] [] pos) (.max pe pg) :=
  ev_bi (args_cons' he (args_cons' hg args_nil' hse2) hse) hn (by decide +kernel) (by decide) (fun n ρ H Q X hw => ⟨fun as H' => match as with | [a, b] => (intW a fun i => intW b fun j => Q (.int (max i j)) H') | _ => False, hw, fun f st R s vs as H' Qc Ec has hs hq hv => by
    match as, hq with
    | [a, b], hq =>
      obtain ⟨u, v, rfl, hr, hr2⟩ := all2 has
      cases a with
      | int i => cases b with
        | int j =>
          obtain ⟨t, rfl⟩ := hr; obtain ⟨t', rfl⟩ := hr2
          obtain ⟨m, news, F, M, N, hh, ap⟩ := id hs
          refine max_two_N st.handled F N fun h' tk F' N' => ?_
          rw [show (if j > i then j else i) = max i j by split <;> omega]
          exact hv.i ⟨m, news, F', M, N', hh, ap⟩ hq
        | _ => exact hq.elim
      | _ => exact hq.elim⟩) hl (by decide) hse hpl
theorem app_sound {f : Fd q sc} {R : List (Addr × Obj)} {ρ : AM} {H : AH} {s : Shared} {Q : QV} {Qc : Value → Shared → Prop} {Ec : Value → Shared → Prop} {a : Addr} {b : AV} {v : Value}
    (hs : Sim f.h₀ f.L ρ H R s.heap) (hb : b.R v) (hw : appW (.ref a) b H Q) (hv : PostV f ρ R s Q Qc) : wpAny (model P.prog P.w) f.A (call (.builtin "list.append") [.ref a, v]) Qc Ec s := by
  obtain ⟨m, news, F, M, N, hr, ap⟩ := id hs
  cases b with
  | int i =>
    obtain ⟨t, rfl⟩ := hb
    obtain ⟨xs, h1, h2, h3⟩ := hw
    obtain ⟨ob, hm, vs, c, rfl, hi⟩ := hr _ _ h1
    have hg := (N _ (List.mem_append_left _ hm)).1
    refine append_at hg (fun h' hs' ho' => hv.n (hs.upd (o := .li (xs ++ [i])) ⟨_, h1⟩ hg hs' ho' ⟨vs ++ [.int i t], c + 1, by simp, hi.append (.cons _ _ .nil)⟩) h3) (by simp only [List.size_toArray, hi.length]; exact big_line h2)
  | str x =>
    obtain ⟨t, rfl⟩ := hb
    obtain ⟨xs, h1, h2, h3⟩ := hw
    obtain ⟨ob, hm, vs, c, rfl, hi⟩ := hr _ _ h1
    have hg := (N _ (List.mem_append_left _ hm)).1
    have happ : ∀ {vs ws : List Value} {ns ms : List Str}, StrsAre vs ns → StrsAre ws ms → StrsAre (vs ++ ws) (ns ++ ms) := by
      intro vs ws ns ms h k
      induction h with
      | nil => exact k
      | cons y t _ ih => exact .cons y t ih
    have hlen : vs.length = xs.length := by
      clear h1 h2 h3 hm hg hs
      induction hi with
      | nil => rfl
      | cons _ _ _ ih => simp [ih]
    refine append_at hg (fun h' hs' ho' => hv.n (hs.upd (o := .ls (xs ++ [x])) ⟨_, h1⟩ hg hs' ho' ⟨vs ++ [.str x t], c + 1, by simp, happ hi (.cons _ _ .nil)⟩) h3) (by simp only [List.size_toArray, hlen]; exact big_line h2)
  | _ => exact hw.elim
theorem app_plain {f : Fd q sc} {R : List (Addr × Obj)} {ρ : AM} {H : AH} {h : Heap} {a : Addr} {o : AO} (hs : Sim f.h₀ f.L ρ H R h) (hm : (a, o) ∈ H) (hl : (∃ xs, o = .li xs) ∨ ∃ xs, o = .ls xs) : ∃ its, PlainL h a its := by
  obtain ⟨m, news, F, M, N, hr, ap⟩ := hs
  obtain ⟨ob, h1, h2⟩ := hr _ _ hm
  have hg := (N _ (List.mem_append_left _ h1)).1
  rcases hl with ⟨xs, rfl⟩ | ⟨xs, rfl⟩
  · obtain ⟨vs, c, rfl, hi⟩ := h2
    exact ⟨_, _, _, hg, rfl, rfl, rfl⟩
  · obtain ⟨vs, c, rfl, hi⟩ := h2
    exact ⟨_, _, _, hg, rfl, rfl, rfl⟩
theorem ev_append {o e : Expr} {apos : Pos} {po pe : PE} (ho : EvOK P q sc o po) (he : EvOK P q sc e pe) (hbase : ∀ f : Fd q sc, attributeBase o "append" f.env (eval o f.env) = eval o f.env := by intro _; rfl)
    (hfew : ∀ f : Fd q sc, ((backTo pos (starEach [e] f.env)).all (fun x => !x.1) && (backToKw pos (keywordEach [] f.env)).all (fun x => x.1.isSome) && decide (([e] : List Expr).length + ([] : List Keyword).length + (if ([] : List Keyword).isEmpty then 0 else 1) < 30)) = true := by intro _; rfl)
    (hline : (apos.endLine == pos.line) = true := by rfl) (htrees : ∀ f : Fd q sc, backTo pos (starEach [e] f.env) = [(false, eval e f.env)] := by intro _; rfl) :
    EvOK P q sc (.Call (.Attribute o "append" apos) [e] [] pos) (.append po pe) := fun n f st R ρ H s Q X Qc Ec hs hw hv hx => by
  refine wpAny_Call_append (hbase f) (hfew f) hline (htrees f) (ho n f st R ρ H s _ _ _ _ hs hw (fun u a H₁ h₁ t₁ ha hs₁ hw₁ => ?_) hx)
  obtain ⟨⟨b, ob, rfl, hm, hl⟩, hw₂⟩ := hw₁
  cases ha
  obtain ⟨its, hp⟩ := app_plain (f := f) hs₁ hm hl
  exact ⟨b, its, rfl, hp, he n f st R ρ H₁ _ _ _ _ _ hs₁ hw₂ (fun v c H₂ h₂ t₂ hb hs₂ hw₃ => app_sound (f := f) hs₂ hb hw₃ hv) hx⟩
end
end
section
open PySem PySem.W PySem.Spec PySem.Calls PyProof.Rows
def PostF {q : Str} {sc : Scope} (f : Fd q sc) (R : List (Addr × Obj)) (s : Shared) (Qn : QN) (Qr : QV) (Fc : Flow → Shared → Prop) : Prop :=
  (∀ ρ' H' h' tk, Sim f.h₀ f.L ρ' H' R h' → Qn ρ' H' → Fc .next { s with heap := h', toks := tk }) ∧
  (∀ v av ρ' H' h' tk, av.R v → Sim f.h₀ f.L ρ' H' R h' → Qr av H' → Fc (.ret v) { s with heap := h', toks := tk })
def PostXS {q : Str} {sc : Scope} (f : Fd q sc) (R : List (Addr × Obj)) (s : Shared) (X : XS) (Ec : Value → Shared → Prop) : Prop :=
  ∀ c ρ' H' e h' tk, X c ρ' H' → Exn f ρ' R c H' e { s with heap := h', toks := tk } → Ec e { s with heap := h', toks := tk }
theorem PostXS.at {q : Str} {sc : Scope} {f : Fd q sc} {R : List (Addr × Obj)} {s : Shared} {X : XS} {Ec : Value → Shared → Prop} (h : PostXS f R s X Ec) (ρ : AM) : PostX f ρ R s (fun c H => X c ρ H) Ec := fun c H' e h' tk hx he => h c ρ H' e h' tk hx he

def StOK (P : Pm) (q : Str) (sc : Scope) (st : Stmt) (ps : PS) : Prop :=
  ∀ (n : Nat) (f : Fd q sc), Stn P n f → ∀ (R : List (Addr × Obj)) (ρ : AM) (H : AH) (s : Shared) (Qn : QN) (Qr : QV) (X : XS) (Fc : Flow → Shared → Prop) (Ec : Value → Shared → Prop), Sim f.h₀ f.L ρ H R s.heap → WS (P.cx n) ps ρ H Qn Qr X →
    PostF f R s Qn Qr Fc → PostXS f R s X Ec → wpAny (model P.prog P.w) f.A (exec st f.env) Fc Ec s
def ExOK (P : Pm) (q : Str) (sc : Scope) (ss : List Stmt) (ps : PS) : Prop :=
  ∀ (n : Nat) (f : Fd q sc), Stn P n f → ∀ (R : List (Addr × Obj)) (ρ : AM) (H : AH) (s : Shared) (Qn : QN) (Qr : QV) (X : XS) (Fc : Flow → Shared → Prop) (Ec : Value → Shared → Prop), Sim f.h₀ f.L ρ H R s.heap → WS (P.cx n) ps ρ H Qn Qr X →
    PostF f R s Qn Qr Fc → PostXS f R s X Ec → wpAny (model P.prog P.w) f.A (execs ss f.env) Fc Ec s

section
variable {P : Pm} {q : Str} {sc : Scope} {pos : Pos}
theorem ex_nil : ExOK P q sc [] .skip := fun n f st R ρ H s Qn Qr X Fc Ec hs hw hf hx => wpAny_execs_nil (hf.1 _ _ _ _ hs hw)
theorem ex_one {s₁ : Stmt} {p₁ : PS} (h₁ : StOK P q sc s₁ p₁) : ExOK P q sc [s₁] p₁ := fun n f st R ρ H s Qn Qr X Fc Ec hs hw hf hx =>
  wpAny_execs_cons (h₁ n f st R ρ H s Qn Qr X _ Ec hs hw ⟨fun ρ' H' h' tk hs' hq => wpAny_execs_nil (hf.1 _ _ _ _ hs' hq), fun v av ρ' H' h' tk hr hs' hq => hf.2 _ _ _ _ _ _ hr hs' hq⟩ hx)
theorem ex_cons {s₁ : Stmt} {ss : List Stmt} {p₁ ps : PS} (h₁ : StOK P q sc s₁ p₁) (h₂ : ExOK P q sc ss ps) : ExOK P q sc (s₁ :: ss) (.seq p₁ ps) := fun n f st R ρ H s Qn Qr X Fc Ec hs hw hf hx =>
  wpAny_execs_cons (h₁ n f st R ρ H s _ Qr X _ Ec hs hw ⟨fun ρ' H' h' tk hs' hq => h₂ n f st R ρ' H' _ Qn Qr X Fc Ec hs' hq ⟨fun _ _ _ _ a b => hf.1 _ _ _ _ a b, fun _ _ _ _ _ _ a b c => hf.2 _ _ _ _ _ _ a b c⟩ (fun _ _ _ _ _ _ a b => hx _ _ _ _ _ _ a b), fun v av ρ' H' h' tk hr hs' hq => hf.2 _ _ _ _ _ _ hr hs' hq⟩ hx)

theorem st_ret {e : Expr} {pe : PE} (he : EvOK P q sc e pe) : StOK P q sc (.Return (some e) pos) (.ret pe) := fun n f st R ρ H s Qn Qr X Fc Ec hs hw hf hx =>
  wpAny_Return_some (he n f st R ρ H s _ _ _ _ hs hw (fun v av H' h' tk hr hs' hq => hf.2 _ _ _ _ _ _ hr hs' hq) (hx.at ρ))
theorem store_sound {n : Nat} {f : Fd q sc} (st : Stn P n f) {R : List (Addr × Obj)} {ρ : AM} {H : AH} {s : Shared} {x : String} {av : AV} {v : Value} {Q : Unit → Shared → Prop} {Ec : Value → Shared → Prop} (hs : Sim f.h₀ f.L ρ H R s.heap) (hr : av.R v)
    (h : ∀ h' tk, Sim f.h₀ f.L (mset ρ x av) H R h' → Q () { s with heap := h', toks := tk }) (hl : ∀ L a cd, (envOf q sc L a cd).kindOf (Str.ofString x) = some .local) : wpAny (model P.prog P.w) f.A (storeName f.env (Str.ofString x) v) Q Ec s := by
  obtain ⟨m, news, F, M, N, hh, ap⟩ := hs
  exact stN F N (fun h' F' N' => h h' _ ⟨_, news, F', M.set hr, N', hh, ap⟩) st.kind (hl _ _ _)
theorem st_assign {x : String} {e : Expr} {pe : PE} {px : Pos} (he : EvOK P q sc e pe) (hl : ∀ L a cd, (envOf q sc L a cd).kindOf (Str.ofString x) = some .local := by intros; rfl)
    (hsw : ∀ f : Fd q sc, swapsWith e (some (.Name (Str.ofString x) px)) pos.line f.env = pure false := by intro _; rfl) : StOK P q sc (.Assign [.Name (Str.ofString x) px] e pos) (.assign x pe) := fun n f st R ρ H s Qn Qr X Fc Ec hs hw hf hx =>
  wpAny_Assign_Name (he n f st R ρ H s _ _ _ _ hs hw (fun v av H' h' tk hr hs' hq => store_sound st hs' hr (fun h'' tk' hs'' => hf.1 _ _ _ _ hs'' hq) hl) (hx.at ρ)) (hsw f)
theorem aug_sound {n : Nat} {f : Fd q sc} (st : Stn P n f) {R : List (Addr × Obj)} {ρ : AM} {H : AH} {s : Shared} {Q : QV} {Qc : Value → Shared → Prop} {Ec : Value → Shared → Prop} {op : Operator} {a b : AV} {u v : Value}
    (hs : Sim f.h₀ f.L ρ H R s.heap) (ha : a.R u) (hb : b.R v) (hw : augW op a b H Q) (hv : PostV f ρ R s Q Qc) : wpAny (model P.prog P.w) f.A (inplaceOp op u v) Qc Ec s := by
  unfold augW at hw
  split at hw
  · obtain ⟨t, rfl⟩ := ha; obtain ⟨t', rfl⟩ := hb; exact iadd_int (hv.i hs hw)
  · obtain ⟨t, rfl⟩ := ha; obtain ⟨t', rfl⟩ := hb; exact isub_int (hv.i hs hw)
  · exact hw.elim
theorem st_aug {x : String} {op : Operator} {e : Expr} {pe : PE} {px : Pos} (he : EvOK P q sc e pe) (hl : ∀ L a cd, (envOf q sc L a cd).kindOf (Str.ofString x) = some .local := by intros; rfl) :
    StOK P q sc (.AugAssign (.Name (Str.ofString x) px) op e pos) (.aug x op pe) := fun n f st R ρ H s Qn Qr X Fc Ec hs hw hf hx => by
  obtain ⟨av, h1, hw⟩ := hw
  obtain ⟨m, news, F, M, rest⟩ := id hs
  obtain ⟨v, h3, h4⟩ := M x av h1
  refine wpAny_AugAssign_Name (ldn F h3 ?_ st.kind (hl _ _ _))
  exact he n f st R ρ H s _ _ _ _ hs hw (fun u b H₁ h₁ t₁ hb hs₁ hw₁ => aug_sound st hs₁ h4 hb hw₁ fun r c H₂ h₂ t₂ hc hs₂ hw₂ => store_sound st hs₂ hc (fun h'' tk' hs'' => hf.1 _ _ _ _ hs'' hw₂) hl) (hx.at ρ)
theorem st_expr {e : Expr} {pe : PE} (he : EvOK P q sc e pe) (hi : ∀ f : Fd q sc, interactive f.env = false := by intro _; rfl) (hsw : ∀ f : Fd q sc, swapsWith e none pos.line f.env = pure false := by intro _; rfl) :
    StOK P q sc (.Expr e pos) (.expr pe) := fun n f st R ρ H s Qn Qr X Fc Ec hs hw hf hx =>
  wpAny_Expr_any (he n f st R ρ H s _ _ _ _ hs hw (fun v av H' h' tk hr hs' hq => hf.1 _ _ _ _ hs' hq.2) (hx.at ρ)) (hi f) (hsw f)
theorem st_if {c : Expr} {t e : List Stmt} {pc : PE} {pt pe : PS} (hc : TrOK P q sc c pc) (ht : ExOK P q sc t pt) (he : ExOK P q sc e pe) : StOK P q sc (.If c t e pos) (.ite pc pt pe) := fun n f st R ρ H s Qn Qr X Fc Ec hs hw hf hx =>
  wpAny_If (hc n f st R ρ H s _ _ _ _ hs hw (fun b H' h' tk hs' hq => by
    cases b with
    | true => exact ht n f st R ρ H' _ Qn Qr X Fc Ec hs' hq ⟨fun _ _ _ _ a b => hf.1 _ _ _ _ a b, fun _ _ _ _ _ _ a b c => hf.2 _ _ _ _ _ _ a b c⟩ (fun _ _ _ _ _ _ a b => hx _ _ _ _ _ _ a b)
    | false => exact he n f st R ρ H' _ Qn Qr X Fc Ec hs' hq ⟨fun _ _ _ _ a b => hf.1 _ _ _ _ a b, fun _ _ _ _ _ _ a b c => hf.2 _ _ _ _ _ _ a b c⟩ (fun _ _ _ _ _ _ a b => hx _ _ _ _ _ _ a b)) (hx.at ρ))
end
end
section
open PySem PySem.W PySem.Spec PySem.Calls PyProof.Rows
section
variable {h₀ h h' : Heap} {L I : Addr} {ρ : AM} {H : AH} {R : List (Addr × Obj)} {io io' : Obj}
theorem Sim.pushR (s : Sim h₀ L ρ H R h) (hf : io.isFreed = false) : Sim h₀ L ρ H ((h.objs.size, io) :: R) (h.push io) := by
  obtain ⟨m, news, F, M, N, hr, ap⟩ := s
  refine ⟨m, news, F.push _, M, fun p hp => ?_, hr, fun p hp q hq => ?_⟩
  · have N' := News.push F N io hf
    rcases List.mem_append.mp hp with hp | hp
    · exact N' p (.tail _ (List.mem_append_left _ hp))
    · rcases List.mem_cons.mp hp with rfl | hp
      · exact N' _ (.head _)
      · exact N' p (.tail _ (List.mem_append_right _ hp))
  · rcases List.mem_cons.mp hq with rfl | hq
    · exact Nat.ne_of_lt (Heap.lt_size (N p (List.mem_append_left _ hp)).1)
    · exact ap p hp q hq
theorem Sim.popR (s : Sim h₀ L ρ H ((I, io) :: R) h) : Sim h₀ L ρ H R h := by
  obtain ⟨m, news, F, M, N, hr, ap⟩ := s
  exact ⟨m, news, F, M, fun p hp => N p ((List.mem_append.mp hp).elim (List.mem_append_left _) fun h => List.mem_append_right _ (.tail _ h)), hr, fun p hp q hq => ap p hp q (.tail _ hq)⟩
theorem Sim.atR (s : Sim h₀ L ρ H ((I, io) :: R) h) : h.get? I = some io := by
  obtain ⟨m, news, F, M, N, hr, ap⟩ := s
  exact (N (I, io) (List.mem_append_right _ (.head _))).1
theorem Sim.setR (s : Sim h₀ L ρ H ((I, io) :: R) h) (hI : ∀ q ∈ R, q.1 ≠ I) (hs : Heap.SameBut I h h') (hg : h'.get? I = some io') : Sim h₀ L ρ H ((I, io') :: R) h' := by
  obtain ⟨m, news, F, M, N, hr, ap⟩ := s
  have z := N (I, io) (List.mem_append_right _ (.head _))
  refine ⟨m, news, F.change hs z.2.1 z.2.2, M, fun p hp => ?_, hr, fun p hp q hq => ?_⟩
  · rcases List.mem_append.mp hp with hp | hp
    · have y := N p (List.mem_append_left _ hp)
      exact ⟨(hs.2 _ (ap p hp _ (.head _))).trans y.1, y.2⟩
    · rcases List.mem_cons.mp hp with rfl | hp
      · exact ⟨hg, z.2⟩
      · have y := N p (List.mem_append_right _ (.tail _ hp))
        exact ⟨(hs.2 _ (hI p hp)).trans y.1, y.2⟩
  · rcases List.mem_cons.mp hq with rfl | hq
    · exact ap p hp (I, io) (.head _)
    · exact ap p hp q (.tail _ hq)
theorem Sim.endR (s : Sim h₀ L ρ H ((I, io) :: R) h) (hI : ∀ q ∈ R, q.1 ≠ I) (he : Heap.ExtBut I h h') : Sim h₀ L ρ H R h' := by
  obtain ⟨m, news, F, M, N, hr, ap⟩ := s
  have z := N (I, io) (List.mem_append_right _ (.head _))
  refine ⟨m, news, ⟨F.ns.at' fun o e => he _ o (Ne.symm z.2.1) e, fun b o e => he b o (fun q => ?_) (F.keep b o e), F.above⟩, M, fun p hp => ?_, hr, fun p hp q hq => ap p hp q (.tail _ hq)⟩
  · rw [q, z.2.2] at e; cases e
  · rcases List.mem_append.mp hp with hp | hp
    · have y := N p (List.mem_append_left _ hp)
      exact ⟨he _ _ (ap p hp _ (.head _)) y.1, y.2⟩
    · have y := N p (List.mem_append_right _ (.tail _ hp))
      exact ⟨he _ _ (hI p hp) y.1, y.2⟩
theorem Sim.ltR (s : Sim h₀ L ρ H R h) : ∀ q ∈ R, q.1 ≠ h.objs.size := by
  obtain ⟨m, news, F, M, N, hr, ap⟩ := s
  exact fun q hq => Nat.ne_of_lt (Heap.lt_size (N q (List.mem_append_right _ hq)).1)
end

section
variable {P : Pm} {q : Str} {sc : Scope} {pos : Pos}

/-- a for loop over an iterator that is at hand -/
theorem for_sound {n : Nat} {f : Fd q sc} (st : Stn P n f) {R : List (Addr × Obj)} {ρ : AM} {H : AH} {s : Shared} {Qn : QN} {Qr : QV} {Fc : Flow → Shared → Prop} {Ec : Value → Shared → Prop} {x : String} {px : Pos} {body : List Stmt} {pb : PS} {cnt : Nat} {it : Nat → AV} {g : AH → Prop} {I : Addr} {io : Obj}
    (Io : Nat → Obj → Prop) (hb : ExOK P q sc body pb) (hl : ∀ L a cd, (envOf q sc L a cd).kindOf (Str.ofString x) = some .local) (hI : ∀ q ∈ R, q.1 ≠ I) (hio : Io 0 io)
    (item : ∀ k io ρ H (s' : Shared) (Q : Option Value → Shared → Prop) (E : Value → Shared → Prop), k < cnt → Io k io → Sim f.h₀ f.L ρ H ((I, io) :: R) s'.heap → g H →
      (∀ v h' tk io', (it k).R v → Io (k + 1) io' → Heap.SameBut I s'.heap h' → h'.get? I = some io' → Q (some v) { s' with heap := h', toks := tk }) → wpAny (model P.prog P.w) f.A (pyNext (.ref I)) Q E s')
    (done : ∀ io ρ H (s' : Shared) (Q : Option Value → Shared → Prop) (E : Value → Shared → Prop), Io cnt io → Sim f.h₀ f.L ρ H ((I, io) :: R) s'.heap → g H →
      (∀ h', Heap.ExtBut I s'.heap h' → Q none { s' with heap := h' }) → wpAny (model P.prog P.w) f.A (pyNext (.ref I)) Q E s')
    (hs : Sim f.h₀ f.L ρ H ((I, io) :: R) s.heap) (hw : loopW x cnt it g (WS (P.cx n) pb) ρ H Qn Qr) (hf : PostF f R s Qn Qr Fc) :
    codeAny (model P.prog P.w) f.A (.forLoop (.Name (Str.ofString x) px) (.ref I) body [] f.env) (fun r s' => match r with | .ok fl => Fc fl s' | .error e => cameBackBy (model P.prog P.w) f.A f.env Ec e s') s := by
  obtain ⟨J, j0, jg, js, je⟩ := hw
  refine codeAny_forLoop (fun m s' => ∃ k ρ₁ H₁ h' tk io₁, m = cnt + 1 - k ∧ k ≤ cnt ∧ s' = { s with heap := h', toks := tk } ∧ Sim f.h₀ f.L ρ₁ H₁ ((I, io₁) :: R) h' ∧ Io k io₁ ∧ J k ρ₁ H₁) ?_ (cnt + 1) ⟨0, ρ, H, s.heap, s.toks, io, rfl, Nat.zero_le _, rfl, hs, hio, j0⟩
  rintro m s' ⟨k, ρ₁, H₁, h', tk, io₁, rfl, hk, rfl, hs₁, hi₁, hj⟩
  have hg := jg k ρ₁ H₁ hk hj
  rcases Nat.lt_or_ge k cnt with hlt | hge
  · refine item k io₁ ρ₁ H₁ _ _ _ hlt hi₁ hs₁ hg fun v h₂ tk₂ io₂ hr hi₂ hsb hat => ?_
    have hs₂ := hs₁.setR hI hsb hat
    refine wpAny_assign_Name (store_sound st hs₂ hr (fun h₃ tk₃ hs₃ => ?_) hl)
    refine hb n f st ((I, io₂) :: R) _ H₁ _ _ Qr (fun _ _ _ => False) _ _ hs₃ (js k ρ₁ H₁ hlt hj) ⟨fun ρ' H' h'' tk' hs'' hq => ?_, fun v av ρ' H' h'' tk' hr hs'' hq => ?_⟩ (fun c ρ' H' e h'' tk' hx => hx.elim)
    · obtain ⟨H₂, hsub, hj₂⟩ := hq
      exact ⟨cnt + 1 - (k + 1), by omega, k + 1, ρ', H₂, h'', tk', io₂, rfl, hlt, rfl, hs''.weak hsub, hi₂, hj₂⟩
    · exact hf.2 v av ρ' H' h'' tk' hr hs''.popR hq
  · have e : k = cnt := by omega
    subst e
    refine done io₁ ρ₁ H₁ _ _ _ hi₁ hs₁ hg fun h₂ he => wpAny_execs_nil ?_
    exact hf.1 ρ₁ H₁ h₂ tk (hs₁.endR hI he) (je ρ₁ H₁ hj)

theorem while_sound {n : Nat} {f : Fd q sc} (st : Stn P n f) {R : List (Addr × Obj)} {ρ : AM} {H : AH} {s : Shared} {Qn : QN} {Qr : QV} {Fc : Flow → Shared → Prop} {Ec : Value → Shared → Prop} {c : Expr} {pc : PE} {body : List Stmt} {pb : PS} (hc : TrOK P q sc c pc) (hb : ExOK P q sc body pb)
    (hs : Sim f.h₀ f.L ρ H R s.heap) (hw : whlW (W (P.cx n) pc) (WS (P.cx n) pb) ρ H Qn Qr) (hf : PostF f R s Qn Qr Fc) :
    codeAny (model P.prog P.w) f.A (.whileLoop c body [] f.env) (fun r s' => match r with | .ok fl => Fc fl s' | .error e => cameBackBy (model P.prog P.w) f.A f.env Ec e s') s := by
  obtain ⟨J, ⟨n₀, j0⟩, js⟩ := hw
  refine codeAny_whileLoop (fun m s' => ∃ ρ₁ H₁ h' tk, s' = { s with heap := h', toks := tk } ∧ Sim f.h₀ f.L ρ₁ H₁ R h' ∧ J m ρ₁ H₁) ?_ n₀ ⟨ρ, H, s.heap, s.toks, rfl, hs, j0⟩
  rintro m s' ⟨ρ₁, H₁, h', tk, rfl, hs₁, hj⟩
  refine hc n f st R ρ₁ H₁ _ _ (fun _ _ => False) _ _ hs₁ (js m ρ₁ H₁ hj) (fun b H₂ h₂ tk₂ hs₂ hq => ?_) (fun c H' e h'' tk' hx => hx.elim)
  cases b with
  | true =>
    refine hb n f st R ρ₁ H₂ _ _ Qr (fun _ _ _ => False) _ _ hs₂ hq ⟨fun ρ' H' h'' tk' hs'' hq => ?_, fun v av ρ' H' h'' tk' hr hs'' hq => ?_⟩ (fun c ρ' H' e h'' tk' hx => hx.elim)
    · obtain ⟨H₃, hsub, k, hk, hj₂⟩ := hq
      exact ⟨k, hk, ρ', H₃, h'', tk', rfl, hs''.weak hsub, hj₂⟩
    · exact hf.2 v av ρ' H' h'' tk' hr hs'' hq
  | false => exact wpAny_execs_nil (hf.1 ρ₁ H₂ h₂ tk₂ hs₂ hq)
theorem st_while {c : Expr} {body : List Stmt} {pc : PE} {pb : PS} (hc : TrOK P q sc c pc) (hb : ExOK P q sc body pb) : StOK P q sc (.While c body [] pos) (.whl pc pb) := fun n f st R ρ H s Qn Qr X Fc Ec hs hw hf hx =>
  wpAny_While (while_sound st hc hb hs hw hf)

theorem range_item {n : Nat} {f : Fd q sc} (st : Stn P n f) {R : List (Addr × Obj)} {I : Addr} {a c : Int} {cnt : Nat} {g : AH → Prop} : ∀ k io ρ H (s' : Shared) (Q : Option Value → Shared → Prop) (E : Value → Shared → Prop), k < cnt → (fun k (io : Obj) => ∀ h : Heap, h.get? I = some io → IsRangeIter h I (a + (k : Nat) * c) ((cnt : Int) - (k : Nat)) c) k io → Sim f.h₀ f.L ρ H ((I, io) :: R) s'.heap → g H →
      (∀ v h' tk io', (AV.int (a + (k : Int) * c)).R v → (fun k (io : Obj) => ∀ h : Heap, h.get? I = some io → IsRangeIter h I (a + (k : Nat) * c) ((cnt : Int) - (k : Nat)) c) (k + 1) io' → Heap.SameBut I s'.heap h' → h'.get? I = some io' → Q (some v) { s' with heap := h', toks := tk }) → wpAny (model P.prog P.w) f.A (pyNext (.ref I)) Q E s' := by
  intro k io ρ H s' Q E hk hio hs _ hQ
  have hit := hio _ hs.atR
  refine wpAny_pyNext_range_item hit (by omega) fun h' hit' hsb => ?_
  have e1 : a + ((k + 1 : Nat) : Int) * c = a + (k : Int) * c + c := by rw [Int.natCast_add, Int.add_mul, Int.natCast_one, Int.one_mul, Int.add_assoc]
  have e2 : (cnt : Int) - ((k + 1 : Nat) : Int) = (cnt : Int) - (k : Int) - 1 := by omega
  refine hQ _ h' _ _ ⟨_, rfl⟩ (fun h₂ hg => ?_) hsb hit'
  show IsRangeIter h₂ I (a + ((k + 1 : Nat) : Int) * c) ((cnt : Int) - ((k + 1 : Nat) : Int)) c
  rw [e1, e2]
  exact hg
theorem range_done {n : Nat} {f : Fd q sc} (st : Stn P n f) {R : List (Addr × Obj)} {I : Addr} {a c : Int} {cnt : Nat} {g : AH → Prop} : ∀ io ρ H (s' : Shared) (Q : Option Value → Shared → Prop) (E : Value → Shared → Prop), (fun k (io : Obj) => ∀ h : Heap, h.get? I = some io → IsRangeIter h I (a + (k : Nat) * c) ((cnt : Int) - (k : Nat)) c) cnt io → Sim f.h₀ f.L ρ H ((I, io) :: R) s'.heap → g H →
      (∀ h', Heap.ExtBut I s'.heap h' → Q none { s' with heap := h' }) → wpAny (model P.prog P.w) f.A (pyNext (.ref I)) Q E s' := by
  intro io ρ H s' Q E hio hs _ hQ
  exact wpAny_pyNext_range_end st.handled (hio _ hs.atR) (by omega) hQ

/-- a loop over a range object that is at hand -/
theorem for_range {n : Nat} {f : Fd q sc} (st : Stn P n f) {R : List (Addr × Obj)} {ρ : AM} {H : AH} {s : Shared} {Qn : QN} {Qr : QV} {Fc : Flow → Shared → Prop} {Ec : Value → Shared → Prop} {x : String} {px : Pos} {body : List Stmt} {pb : PS} {cnt : Nat} {r : Addr} {a b c : Int} {t u v : Tok}
    (hb : ExOK P q sc body pb) (hl : ∀ L a cd, (envOf q sc L a cd).kindOf (Str.ofString x) = some .local) (hr : IsRange s.heap r a b c t u v) (hsm : Builtin.Range.small a b c = true) (hn : Builtin.Range.rangeSize a b c = (cnt : Int))
    (hs : Sim f.h₀ f.L ρ H R s.heap) (hw : loopW x cnt (fun k => .int (a + (k : Int) * c)) (fun _ => True) (WS (P.cx n) pb) ρ H Qn Qr) (hf : PostF f R s Qn Qr Fc) :
    wpAny (model P.prog P.w) f.A (pyIter (.ref r)) (fun it s₂ => codeAny (model P.prog P.w) f.A (.forLoop (.Name (Str.ofString x) px) it body [] f.env) (fun r s' => match r with | .ok fl => Fc fl s' | .error e => cameBackBy (model P.prog P.w) f.A f.env Ec e s') s₂) Ec s := by
  refine wpAny_pyIter_range hr hsm ?_
  refine for_sound st (R := R) (I := s.heap.objs.size) (s := { s with heap := _ }) (fun k (io : Obj) => ∀ h : Heap, h.get? s.heap.objs.size = some io → IsRangeIter h s.heap.objs.size (a + (k : Nat) * c) ((cnt : Int) - (k : Nat)) c) hb hl hs.ltR ?_ (range_item st) (range_done st) (hs.pushR rfl) hw hf
  intro h hg
  show IsRangeIter h _ (a + ((0 : Nat) : Int) * c) ((cnt : Int) - ((0 : Nat) : Int)) c
  rw [← hn, show a + ((0 : Nat) : Int) * c = a by simp, show Builtin.Range.rangeSize a b c - ((0 : Nat) : Int) = Builtin.Range.rangeSize a b c by simp]
  exact hg
theorem loop_congr {x : String} {cnt : Nat} {it it' : Nat → AV} {g : AH → Prop} {body : AM → AH → QN → QV → XS → Prop} {ρ : AM} {H : AH} {Qn : QN} {Qr : QV} (e : it = it') (h : loopW x cnt it g body ρ H Qn Qr) : loopW x cnt it' g body ρ H Qn Qr := e ▸ h
theorem st_for1 {x : String} {e : Expr} {body : List Stmt} {pe : PE} {pb : PS} {px p p2 : Pos} (he : EvOK P q sc e pe) (hb : ExOK P q sc body pb) (hn : nsIn P.K mainGlobals (Str.ofString "range") = some none) (hl : ∀ L a cd, (envOf q sc L a cd).kindOf (Str.ofString x) = some .local := by intros; rfl)
    (hlr : ∀ L a cd, (envOf q sc L a cd).kindOf (Str.ofString "range") = some .globalImplicit := by intros; rfl) (hse : ∀ f : Fd q sc, starEach [e] f.env = (false, eval e f.env) :: starEach [] f.env := by intro _; rfl) :
    StOK P q sc (.For (.Name (Str.ofString x) px) (.Call (.Name (Str.ofString "range") p) [e] [] p2) body [] pos) (.for1 x pe pb) := fun n f st R ρ H s Qn Qr X Fc Ec hs hw hf hx => by
  obtain ⟨m, news, F, M, rest⟩ := id hs
  refine wpAny_For (wpAny_Call_NameR (name_B F st.X (topRead_of st.T) hn (by decide +kernel : bootBuiltins (Str.ofString "range") = some (.type "range")) (by decide) ?_ st.kind (hlr _ _ _) (by decide)))
  refine Pv.callWith_type1 (spliced_more (he n f st R ρ H s _ _ _ _ hs hw (fun u a H₁ h₁ t₁ ha hs₁ hw₁ => spliced_none ?_) (hx.at ρ)) (hse f)) (hse f)
  cases a with
  | int i =>
    obtain ⟨t, rfl⟩ := ha
    obtain ⟨hlo, hi, hw₁⟩ := hw₁
    unfold BIG at hi hlo
    refine call_range_1 (for_range st (cnt := i.toNat) hb hl (IsRange.new ..) (small_one (by decide) (by decide) (by omega) (by omega)) (by rw [rangeSize_one]; split <;> omega) (hs₁.keeps fun b o e => Heap.get?_push_of_some _ e) (loop_congr ?_ hw₁) hf)
    funext k; rw [Int.mul_one, Int.zero_add]
  | _ => exact hw₁.elim
theorem small_down {n : Int} (h1 : -(2 ^ 61) ≤ n) (h2 : n < 2 ^ 61) : Builtin.Range.small n (-1) (-1) = true ∧ Builtin.Range.rangeSize n (-1) (-1) = ((n + 1).toNat : Int) := by
  have e : Builtin.Range.rangeSize n (-1) (-1) = ((n + 1).toNat : Int) := by
    unfold Builtin.Range.rangeSize
    rw [if_neg (by decide), Int.neg_neg, Int.ediv_one]
    split <;> omega
  refine ⟨?_, e⟩
  unfold Builtin.Range.small
  rw [e]
  simp only [Builtin.Range.rangeFitsLong, Bool.and_eq_true, Bool.or_eq_true, decide_eq_true_eq, beq_iff_eq, show ¬ ((-1 : Int) > 0) by decide, if_false]
  omega
theorem st_forDown {x : String} {e : Expr} {body : List Stmt} {pe : PE} {pb : PS} {k1 k2 : Nat} {px p p2 u1 u2 v1 v2 : Pos} (he : EvOK P q sc e pe) (hb : ExOK P q sc body pb) (hn : nsIn P.K mainGlobals (Str.ofString "range") = some none) (hl : ∀ L a cd, (envOf q sc L a cd).kindOf (Str.ofString x) = some .local := by intros; rfl)
    (hlr : ∀ L a cd, (envOf q sc L a cd).kindOf (Str.ofString "range") = some .globalImplicit := by intros; rfl)
    (hse : ∀ f : Fd q sc, starEach [e, .UnaryOp .USub (.Constant (.int 1) k1 u1) v1, .UnaryOp .USub (.Constant (.int 1) k2 u2) v2] f.env = (false, eval e f.env) :: starEach [.UnaryOp .USub (.Constant (.int 1) k1 u1) v1, .UnaryOp .USub (.Constant (.int 1) k2 u2) v2] f.env := by intro _; rfl) :
    StOK P q sc (.For (.Name (Str.ofString x) px) (.Call (.Name (Str.ofString "range") p) [e, .UnaryOp .USub (.Constant (.int 1) k1 u1) v1, .UnaryOp .USub (.Constant (.int 1) k2 u2) v2] [] p2) body [] pos) (.forDown x pe pb) := fun n f st R ρ H s Qn Qr X Fc Ec hs hw hf hx => by
  obtain ⟨m, news, F, M, rest⟩ := id hs
  refine wpAny_For (wpAny_Call_NameR (name_B F st.X (topRead_of st.T) hn (by decide +kernel : bootBuiltins (Str.ofString "range") = some (.type "range")) (by decide) ?_ st.kind (hlr _ _ _) (by decide)))
  refine Pv.callWith_type1 (spliced_more (he n f st R ρ H s _ _ _ _ hs hw (fun u a H₁ h₁ t₁ ha hs₁ hw₁ => spliced_more (UnaryOp_ (wpAny_Constant_int (neg_int (spliced_more (UnaryOp_ (wpAny_Constant_int (neg_int (spliced_none ?_)))) rfl)))) rfl) (hx.at ρ)) (hse f)) (hse f) rfl
  cases a with
  | int i =>
    obtain ⟨t, rfl⟩ := ha
    obtain ⟨hlo, hi, hw₁⟩ := hw₁
    unfold BIG at hi hlo
    obtain ⟨q1, q2⟩ := small_down (n := i) (by omega) (by omega)
    refine call_range_3 (by decide) (for_range st (cnt := (i + 1).toNat) hb hl (IsRange.new ..) q1 q2 (hs₁.keeps fun b o e => Heap.get?_push_of_some _ e) (loop_congr ?_ hw₁) hf) (.inr (st.pylong hs₁))
    funext k; rw [Int.mul_neg, Int.mul_one]; rfl
  | _ => exact hw₁.elim

theorem st_forList {x : String} {e : Expr} {body : List Stmt} {pe : PE} {pb : PS} {px : Pos} (he : EvOK P q sc e pe) (hb : ExOK P q sc body pb) (hl : ∀ L a cd, (envOf q sc L a cd).kindOf (Str.ofString x) = some .local := by intros; rfl)
    (hsi : ∀ (f : Fd q sc) x, foldedSetIterable e f.env x = pure x := by intro _ _; rfl) :
    StOK P q sc (.For (.Name (Str.ofString x) px) e body [] pos) (.forList x pe pb) := fun n f st R ρ H s Qn Qr X Fc Ec hs hw hf hx => by
  refine wpAny_For (he n f st R ρ H s _ _ _ _ hs hw (fun u a H₁ h₁ t₁ ha hs₁ hw₁ => ?_) (hx.at ρ)) (hsi f)
  obtain ⟨l, xs, rfl, hb1, hw₂⟩ := hw₁
  cases ha
  have hw₃ := hw₂
  obtain ⟨J, j0, jg, js, je⟩ := hw₂
  obtain ⟨vs, hl1, hi1⟩ := hs₁.view st.stat (jg 0 ρ H₁ (Nat.zero_le _) j0)
  refine wpAny_pyIter_list hl1 ?_
  have item : ∀ {io : Obj} {k : Nat} {h : Heap}, (io.cls = .type "list_iterator" ∧ io.data = .fields #[.ref l, .int k 0]) → h.get? h₁.objs.size = some io → h.IsListIter h₁.objs.size l k := fun hio hg => ⟨_, hg, hio⟩
  refine for_sound st (R := R) (I := h₁.objs.size) (fun k (io : Obj) => io.cls = .type "list_iterator" ∧ io.data = .fields #[.ref l, .int k 0]) hb hl hs₁.ltR ⟨rfl, rfl⟩ ?_ ?_ (hs₁.pushR rfl) hw₃ hf
  · intro k io ρ' H' s' Q E hk hio hs' hg hQ
    obtain ⟨ws, hl2, hi2⟩ := hs'.view st.stat hg
    obtain ⟨t, hx⟩ := hi2.get k (xs.getD k 0) (by rw [List.getD_eq_getElem?_getD, List.getElem?_eq_getElem hk]; rfl)
    refine wpAny_pyNext_list_item (item hio hs'.atR) hl2 (by simpa using hx) fun h' hit' hsb => ?_
    obtain ⟨o, ho, hc, hd⟩ := hit'
    exact hQ _ h' s'.toks o ⟨t, rfl⟩ ⟨hc, hd⟩ hsb ho
  · intro io ρ' H' s' Q E hio hs' hg hQ
    obtain ⟨ws, hl2, hi2⟩ := hs'.view st.stat hg
    exact wpAny_pyNext_list_end st.handled (item hio hs'.atR) hl2 (by simp [hi2.length]) hQ

end
end
section
open PySem PySem.W PySem.Spec PySem.Calls PyProof.Rows
theorem bindM_rel : ∀ {ps : List String} {as : List AV} {vs : List Value}, AllR as vs → vs.length = ps.length → ps.Nodup → MRel (bindM ps as) (fun y => ((ps.map Str.ofString).zip vs).reverse.lookup y)
  | [], _, _, h, hl, _ => by
    intro x av e
    cases h with
    | nil => exact absurd e (by unfold bindM; simp)
    | cons _ _ => simp at hl
  | p :: ps, _, _, h, hl, hn => by
    cases h with
    | nil => simp at hl
    | cons ha hr =>
      rename_i a v as vs
      intro x av e
      have ih := bindM_rel (ps := ps) hr (by simpa using hl) (List.nodup_cons.mp hn).2
      simp only [List.map_cons, List.zip_cons_cons, List.reverse_cons, List.lookup_append]
      have e' : (if x = p then some a else bindM ps as x) = some av := e
      by_cases hx : x = p
      · rw [if_pos hx] at e'
        cases e'
        subst hx
        have hno : ((ps.map Str.ofString).zip vs).reverse.lookup (Str.ofString x) = none := by
          rw [List.lookup_eq_none_iff]
          intro y hy
          have h1 := List.mem_reverse.mp hy
          have h2 := (List.of_mem_zip h1).1
          obtain ⟨z, hz, e2⟩ := List.mem_map.mp h2
          rw [← e2]
          simp only [beq_eq_false_iff_ne, ne_eq, bne_iff_ne]
          intro q
          exact (List.nodup_cons.mp hn).1 (Str.ofString_inj q ▸ hz)
        refine ⟨v, ?_, ha⟩
        rw [hno]
        simp [List.lookup]
      · rw [if_neg hx] at e'
        obtain ⟨v', h1, h2⟩ := ih x av e'
        have h1' : ((ps.map Str.ofString).zip vs).reverse.lookup (Str.ofString x) = some v' := h1
        exact ⟨v', by rw [h1']; rfl, h2⟩

theorem call_sound {P : Pm} {n : Nat} {g : String} {ps : List String} {pb : PS} {as : List AV} {H : AH} {Q : QV} {X : XV}
    {name qual : Str} {params : Arguments} {body : List Stmt} {scope : Scope} {dV kV doc pm cdv ct oc : Value} {an od : Option Addr} {osl : Array (Option Value)}
    (ho : P.K.lookup (P.addr g) = some ⟨oc, od, .func (fnOf name qual params body scope dV kV doc pm an cdv ct), osl⟩) (hcd : codeIn P.K cdv qual = true)
    (hbind : ∀ (s : Shared) (vs : List Value), vs.length = ps.length → BindsTo s (fnOf name qual params body scope dV kV doc pm an cdv ct) ⟨vs, []⟩ ((ps.map Str.ofString).zip vs)) (hnd : ps.Nodup)
    (hloc : ∀ p ∈ ps, scope.names.lookup (Str.ofString p) = some .local) (hco : scope.isCoroutine = false) (hgen : scope.isGenerator = false) (hk : scope.kind = .function) (hcell : ∀ x ∈ scope.names, x.2 ≠ .cell)
    (hb : ExOK P qual scope body pb) (hl : as.length = ps.length)
    (hw : WS (P.cx n) pb (bindM ps as) H (fun _ H' => Weak (Q .none) H') (fun v H' => Weak (Q v) H') (fun c _ H' => Weak (X c) H')) : CallOK P (n + 1) g as H Q X := by
  intro q sc f st R ρ s vals Qc Ec hs has hv hx
  obtain ⟨m, news, F, M, N, hr, ap⟩ := id hs
  obtain ⟨A₁, eA, B⟩ := st.at_
  have hlen : vals.length = ps.length := by rw [has.len, hl]
  have frames : f.A.frames = some (f.env :: f.outer) := by rw [eA]; exact Around.frames_deeper B.stack
  refine wpAny_call (code_def B F st.X N st.T frames rfl st.kind ho hcd (by have := st.room; omega) (hbind s vals hlen) ?_ ?_ hco hgen hk hcell)
  · intro y hy
    obtain ⟨z, hz, e⟩ := List.mem_map.mp (List.of_mem_zip hy).1
    rw [← e]; exact hloc z hz
  · intro gr L' h₁ FG F' N' B' X' T'
    let f' : Fd qual scope := { A := f.A.deeper (envOf qual scope L' (P.addr g) cdv), L := L', fa := P.addr g, cd := cdv, outer := f.env :: f.outer, base := f.base, h₀ := gr }
    have st' : Stn P n f' := {
      at_ := ⟨f.A, rfl, B'⟩
      X := X'
      T := T'
      kind := hk
      gen := hgen
      co := hco
      handled := st.handled
      room := by have := st.room; show f.A.depth + 1 + n + 200 < recursionLimit; omega
      units := by have := st.units; show f.A.units + 3 + 8 * n + 100 < cLine; omega
      stat := fun a o hm => (st.stat a o hm).keeps FG.keep
      tree := st.tree
      imps := st.imps }
    have sim' : Sim gr L' (bindM ps as) H R h₁ := ⟨_, news, F', bindM_rel has hlen hnd, N', hr, ap⟩
    have leave : ∀ (v : Value) (av : AV) (ρ' : AM) (H' : AH) (h' : Heap) (tk : Nat), av.R v → Sim gr L' ρ' H' R h' → Weak (Q av) H' →
        LeaveK f.h₀ f.L m gr (fun r s' => match r with | .ok (.ret v) => Qc v s' | .ok _ => False | .error e => Ec e s') v { s with heap := h', toks := tk } := by
      rintro v av ρ' H' h' tk hrv ⟨m', news', F'', M'', N'', hr'', ap''⟩ ⟨H₂, hsub, hq⟩
      exact ⟨L', m', news' ++ R, F'', N'', fun F₀ N₀ => hv v av H₂ h' tk hrv ⟨m, news', F₀, M, N₀, fun a o hm => hr'' a o (hsub _ hm), ap''⟩ hq⟩
    refine hb n f' st' R (bindM ps as) H _ _ _ _ _ _ sim' hw ⟨fun ρ' H' h' tk hs' hq => ?_, fun v av ρ' H' h' tk hrv hs' hq => ?_⟩ ?_
    · exact leave .none .none ρ' H' h' tk rfl hs' hq
    · exact leave v av ρ' H' h' tk hrv hs' hq
    · rintro c ρ' H' e h' tk ⟨H₂, hsub, hxc⟩ ⟨ea, m', news', vs', rfl, M', hr', ap', hcase⟩
      have hr₂ : HRel H₂ news' := fun a o hm => hr' a o (hsub _ hm)
      rcases hcase with ⟨h, Fh, Nh, hmade⟩ | ⟨g₂, t, Fg, hR, hup⟩
      · exact leave_raiseK B' hmade Fh Nh (fun h'' t hR hup => hx c H₂ _ h'' tk hxc ⟨ea, m, news', vs', rfl, M, hr₂, ap', .inr ⟨gr, t, FG, hR, hup⟩⟩) hk
      · exact leave_onK B' Fg hR hup (fun h'' hR' hup' => hx c H₂ _ h'' tk hxc ⟨ea, m, news', vs', rfl, M, hr₂, ap', .inr ⟨gr, t, FG, hR', hup'⟩⟩)
end
section
open PySem PySem.W PySem.Spec PySem.Calls PyProof.Rows
/-- the i-th statement of a text, a def: its body, its scope, its parameters -/
def bdAt (p : Program) (i : Nat) : List Stmt := match p.main.body[i]? with
  | some (.FunctionDef _ _ b _ _ _ _ _ _ _) => b
  | _ => []
def scAt (p : Program) (i : Nat) : Scope := match p.main.body[i]? with
  | some (.FunctionDef _ _ _ _ _ _ sc _ _ _) => sc
  | _ => { kind := .function, names := [], isGenerator := false, isCoroutine := false, more := [] }
theorem Stn.less {P : Pm} {n n' : Nat} {q : Str} {sc : Scope} {f : Fd q sc} (st : Stn P n' f) (h : n ≤ n') : Stn P n f := { st with
  room := by have := st.room; omega
  units := by have := st.units; omega }
def Pm.wd (P : Pm) : Wd where
  S := P.S
  G := P.G
  fn := CallOK P
  mono := fun h c q sc f st => c q sc f (st.less h)

theorem law_final {P : Pm} {q : Str} {sc : Scope} {body : List Stmt} {pb : PS} {s₁ : Shared} {h₁ : Heap} {tk : Nat} {cd : Value} {fa L l : Addr} {m : Str → Option Value} {Fc : Flow → Shared → Prop} {Ec : Value → Shared → Prop}
    (hb : ExOK P q sc body pb) (hX : P.K.In s₁.heap) (hT : Top P.p P.loose P.mean P.mg P.mb s₁.heap) (K0 : Below callerA s₁.heap [] s₁.heap) (F : Fr s₁.heap L h₁ m) (hm : m (Str.ofString "script") = some (.ref l))
    (hS : ∀ a o, (a, o) ∈ P.S → View s₁.heap a o) (kind : sc.kind = .function) (gen : sc.isGenerator = false) (co : sc.isCoroutine = false) (tree : P.prog.given.tree = none) (imps : importsNone P.p = true)
    (hw : WS (P.cx 60) pb (bindM ["script"] [.ref l]) [] (fun _ _ => False) (fun v _ => v = .bool true) (fun _ _ _ => False))
    (hend : ∀ h' tk m', Fr s₁.heap L h' m' → Fc (.ret (.bool true)) { s₁ with heap := h', toks := tk }) :
    wpAny (model P.prog P.w) (callerA.deeper (envOf q sc L fa cd)) (execs body (envOf q sc L fa cd)) Fc Ec { s₁ with heap := h₁, toks := tk } := by
  let f : Fd q sc := { A := callerA.deeper (envOf q sc L fa cd), L := L, fa := fa, cd := cd, outer := [], base := s₁.heap, h₀ := s₁.heap }
  have st : Stn P 60 f := {
    at_ := ⟨callerA, rfl, K0⟩
    X := hX
    T := hT
    kind := kind
    gen := gen
    co := co
    handled := rfl
    room := by show 301 + 1 + 60 + 200 < 1000; decide
    units := by show 4 + 3 + 8 * 60 + 100 < 9900; decide
    stat := hS
    tree := tree
    imps := imps }
  refine hb 60 f st [] _ [] _ _ _ _ _ _ ⟨m, [], F, ?_, fun p hp => (nomatch hp), fun a o hm => (nomatch hm), fun p hp => (nomatch hp)⟩ hw ⟨fun _ _ _ _ _ hq => hq.elim, fun v av ρ' H' h' tk' hr hs' hq => ?_⟩ (fun c ρ' H' e h' tk' hx => hx.elim)
  · intro x av e
    by_cases hx : x = "script"
    · subst hx
      have e' : some (AV.ref l) = some av := e
      cases e'
      exact ⟨_, hm, rfl⟩
    · have e' : (if x = "script" then some (AV.ref l) else none) = some av := e
      rw [if_neg hx] at e'; cases e'
  · have hq' : av = .bool true := hq
    subst hq'
    cases hr
    obtain ⟨m', news', F', _⟩ := hs'
    exact hend h' tk' m' F'
end
section
open PySem PySem.W PySem.Spec PySem.Calls PyProof.Rows
def b_law_add_agrees : PS :=
  (.seq (.assign "c" (.call "add" (.cons (.call "from_int" (.cons (.loc "m") .nil)) (.cons (.call "from_int" (.cons (.loc "n") .nil)) .nil))))
  (.ret (.and (.call "is_natural" (.cons (.loc "c") .nil)) (.cmp .Eq (.call "to_int" (.cons (.loc "c") .nil)) (.bin .Add (.loc "m") (.loc "n"))))))

def b_law_cell : PS :=
  (.seq (.ite (.cmp .Lt (.loc "i") (.len (.loc "script"))) (.ret (.idx (.loc "script") (.loc "i"))) .skip)
  (.ret (.int 0)))

def b_law : PS :=
  (.seq (.assign "kind" (.bin .Mod (.call "_law_cell" (.cons (.loc "script") (.cons (.int 0) .nil))) (.int 6)))
  (.seq (.assign "m" (.bin .Mod (.call "_law_cell" (.cons (.loc "script") (.cons (.int 1) .nil))) (.bin .Pow (.int 10) (.int 24))))
  (.seq (.assign "n" (.bin .Mod (.call "_law_cell" (.cons (.loc "script") (.cons (.int 2) .nil))) (.bin .Pow (.int 10) (.int 24))))
  (.seq (.assign "k" (.bin .Mod (.call "_law_cell" (.cons (.loc "script") (.cons (.int 3) .nil))) (.int 4)))
  (.seq (.ite (.cmp .Eq (.loc "kind") (.int 1)) (.assign "m" (.bin .Sub (.bin .Pow (.int 10000) (.bin .Add (.loc "k") (.int 1))) (.int 1))) (.ite (.cmp .Eq (.loc "kind") (.int 2)) (.assign "n" (.bin .Add (.bin .Sub (.bin .Sub (.bin .Pow (.int 10) (.int 24)) (.int 1)) (.loc "m")) (.loc "k"))) (.ite (.cmp .Eq (.loc "kind") (.int 3)) (.assign "n" (.bin .Sub (.bin .Sub (.neg (.int 1)) (.loc "m")) (.loc "n"))) (.ite (.cmp .Eq (.loc "kind") (.int 4)) (.assign "m" (.bin .Sub (.bin .Sub (.neg (.int 1)) (.loc "m")) (.loc "n"))) (.ite (.cmp .Eq (.loc "kind") (.int 5)) (.assign "n" (.bin .Mult (.loc "n") (.bin .Pow (.int 10000) (.loc "k")))) .skip)))))
  (.seq (.assign "got" (.call "law_add_agrees" (.cons (.loc "m") (.cons (.loc "n") .nil))))
  (.seq (.ite (.and (.cmp .Lt (.bin .Add (.loc "m") (.loc "n")) (.int 0)) (.cmp .IsNot (.loc "got") (.bool false))) (.ret (.bool false)) .skip)
  (.seq (.ite (.and (.cmp .GtE (.bin .Add (.loc "m") (.loc "n")) (.int 0)) (.cmp .IsNot (.loc "got") (.bool true))) (.ret (.bool false)) .skip)
  (.ret (.bool true))))))))))

/-- the defs of the text, in their pure forms -/
structure Defs (w : Wd) : Prop where
  BASE : w.G "BASE" = some (.int 10000)
  is_natural : w.Def "is_natural" ["a"] b_is_natural
  from_int : w.Def "from_int" ["n"] b_from_int
  to_int : w.Def "to_int" ["a"] b_to_int
  add : w.Def "add" ["a", "b"] b_add
  law_add_agrees : w.Def "law_add_agrees" ["m", "n"] b_law_add_agrees
  law_cell : w.Def "_law_cell" ["script", "i"] b_law_cell

structure KF (P : Pm) : Prop where
  b_len : nsIn P.K mainGlobals (Str.ofString "len") = some none
  b_max : nsIn P.K mainGlobals (Str.ofString "max") = some none
  b_range : nsIn P.K mainGlobals (Str.ofString "range") = some none
  f_law_cell : nsIn P.K mainGlobals (Str.ofString "_law_cell") = some (some (.ref (P.addr "_law_cell"))) ∧ keepIn P.K (.ref (P.addr "_law_cell")) = true
  f_add : nsIn P.K mainGlobals (Str.ofString "add") = some (some (.ref (P.addr "add"))) ∧ keepIn P.K (.ref (P.addr "add")) = true
  f_from_int : nsIn P.K mainGlobals (Str.ofString "from_int") = some (some (.ref (P.addr "from_int"))) ∧ keepIn P.K (.ref (P.addr "from_int")) = true
  f_is_natural : nsIn P.K mainGlobals (Str.ofString "is_natural") = some (some (.ref (P.addr "is_natural"))) ∧ keepIn P.K (.ref (P.addr "is_natural")) = true
  f_law_add_agrees : nsIn P.K mainGlobals (Str.ofString "law_add_agrees") = some (some (.ref (P.addr "law_add_agrees"))) ∧ keepIn P.K (.ref (P.addr "law_add_agrees")) = true
  f_to_int : nsIn P.K mainGlobals (Str.ofString "to_int") = some (some (.ref (P.addr "to_int"))) ∧ keepIn P.K (.ref (P.addr "to_int")) = true
  g_BASE : P.G "BASE" = some (.int 10000) ∧ ∃ t, nsIn P.K mainGlobals (Str.ofString "BASE") = some (some (.int 10000 t))

theorem ok_is_natural {P : Pm} (k : KF P) : ExOK P (Str.ofString "is_natural") (scAt PySem.Challenge.pw_k8_0042 2) (bdAt PySem.Challenge.pw_k8_0042 2) b_is_natural := by
  unfold b_is_natural
  with_unfolding_all exact (ex_cons (st_forList ev_loc (ex_one (st_if (tr_or (tr_cmp ev_loc ev_int) (tr_or1 (tr_cmp ev_loc (ev_globI k.g_BASE)))) (ex_one (st_ret ev_bool)) ex_nil)))
    (ex_one (st_ret (ev_or (ev_cmp (ev_len ev_loc k.b_len) ev_int) (ev_one (ev_cmp (ev_idx ev_loc (ev_bin (ev_len ev_loc k.b_len) ev_int)) ev_int))))))

theorem ok_from_int {P : Pm} (k : KF P) : ExOK P (Str.ofString "from_int") (scAt PySem.Challenge.pw_k8_0042 3) (bdAt PySem.Challenge.pw_k8_0042 3) b_from_int := by
  unfold b_from_int
  with_unfolding_all exact (ex_cons (st_assign ev_lst0)
    (ex_cons (st_while (tr_cmp ev_loc ev_int) (ex_cons (st_expr (ev_append ev_loc (ev_bin ev_loc (ev_globI k.g_BASE))))
    (ex_one (st_assign (ev_bin ev_loc (ev_globI k.g_BASE))))))
    (ex_one (st_ret ev_loc))))

theorem ok_to_int {P : Pm} (k : KF P) : ExOK P (Str.ofString "to_int") (scAt PySem.Challenge.pw_k8_0042 4) (bdAt PySem.Challenge.pw_k8_0042 4) b_to_int := by
  unfold b_to_int
  with_unfolding_all exact (ex_cons (st_assign ev_int)
    (ex_cons (st_forDown (ev_bin (ev_len ev_loc k.b_len) ev_int) (ex_one (st_assign (ev_bin (ev_bin ev_loc (ev_globI k.g_BASE)) (ev_idx ev_loc ev_loc)))) k.b_range)
    (ex_one (st_ret ev_loc))))

theorem ok_add {P : Pm} (k : KF P) : ExOK P (Str.ofString "add") (scAt PySem.Challenge.pw_k8_0042 5) (bdAt PySem.Challenge.pw_k8_0042 5) b_add := by
  unfold b_add
  with_unfolding_all exact (ex_cons (st_assign ev_lst0)
    (ex_cons (st_assign ev_int)
    (ex_cons (st_for1 (ev_max (ev_len ev_loc k.b_len) (ev_len ev_loc k.b_len) k.b_max) (ex_cons (st_assign ev_loc)
    (ex_cons (st_if (tr_cmp ev_loc (ev_len ev_loc k.b_len)) (ex_one (st_aug (ev_idx ev_loc ev_loc))) ex_nil)
    (ex_cons (st_if (tr_cmp ev_loc (ev_len ev_loc k.b_len)) (ex_one (st_aug (ev_idx ev_loc ev_loc))) ex_nil)
    (ex_cons (st_expr (ev_append ev_loc (ev_bin ev_loc (ev_globI k.g_BASE))))
    (ex_one (st_assign (ev_bin ev_loc (ev_globI k.g_BASE)))))))) k.b_range)
    (ex_cons (st_if (tr_cmp ev_loc ev_int) (ex_one (st_expr (ev_append ev_loc ev_loc))) ex_nil)
    (ex_one (st_ret ev_loc))))))

theorem ok_law_add_agrees {P : Pm} (k : KF P) : ExOK P (Str.ofString "law_add_agrees") (scAt PySem.Challenge.pw_k8_0042 6) (bdAt PySem.Challenge.pw_k8_0042 6) b_law_add_agrees := by
  unfold b_law_add_agrees
  with_unfolding_all exact (ex_cons (st_assign (ev_call (args_cons' (ev_call (args_cons' ev_loc args_nil') k.f_from_int.1 k.f_from_int.2) (args_cons' (ev_call (args_cons' ev_loc args_nil') k.f_from_int.1 k.f_from_int.2) args_nil')) k.f_add.1 k.f_add.2))
    (ex_one (st_ret (ev_and (ev_call (args_cons' ev_loc args_nil') k.f_is_natural.1 k.f_is_natural.2) (ev_one (ev_cmp (ev_call (args_cons' ev_loc args_nil') k.f_to_int.1 k.f_to_int.2) (ev_bin ev_loc ev_loc)))))))

theorem ok_law_cell {P : Pm} (k : KF P) : ExOK P (Str.ofString "_law_cell") (scAt PySem.Challenge.pw_k8_0042 8) (bdAt PySem.Challenge.pw_k8_0042 8) b_law_cell := by
  unfold b_law_cell
  with_unfolding_all exact (ex_cons (st_if (tr_cmp ev_loc (ev_len ev_loc k.b_len)) (ex_one (st_ret (ev_idx ev_loc ev_loc))) ex_nil)
    (ex_one (st_ret ev_int)))

theorem ok_law {P : Pm} (k : KF P) : ExOK P (Str.ofString "law") (scAt PySem.Challenge.pw_k8_0042 9) (bdAt PySem.Challenge.pw_k8_0042 9) b_law := by
  unfold b_law
  with_unfolding_all exact (ex_cons (st_assign (ev_bin (ev_call (args_cons' ev_loc (args_cons' ev_int args_nil')) k.f_law_cell.1 k.f_law_cell.2) ev_int))
    (ex_cons (st_assign (ev_bin (ev_call (args_cons' ev_loc (args_cons' ev_int args_nil')) k.f_law_cell.1 k.f_law_cell.2) (ev_bin ev_int ev_int)))
    (ex_cons (st_assign (ev_bin (ev_call (args_cons' ev_loc (args_cons' ev_int args_nil')) k.f_law_cell.1 k.f_law_cell.2) (ev_bin ev_int ev_int)))
    (ex_cons (st_assign (ev_bin (ev_call (args_cons' ev_loc (args_cons' ev_int args_nil')) k.f_law_cell.1 k.f_law_cell.2) ev_int))
    (ex_cons (st_if (tr_cmp ev_loc ev_int) (ex_one (st_assign (ev_bin (ev_bin ev_int (ev_bin ev_loc ev_int)) ev_int))) (ex_one (st_if (tr_cmp ev_loc ev_int) (ex_one (st_assign (ev_bin (ev_bin (ev_bin (ev_bin ev_int ev_int) ev_int) ev_loc) ev_loc))) (ex_one (st_if (tr_cmp ev_loc ev_int) (ex_one (st_assign (ev_bin (ev_bin (ev_neg ev_int) ev_loc) ev_loc))) (ex_one (st_if (tr_cmp ev_loc ev_int) (ex_one (st_assign (ev_bin (ev_bin (ev_neg ev_int) ev_loc) ev_loc))) (ex_one (st_if (tr_cmp ev_loc ev_int) (ex_one (st_assign (ev_bin ev_loc (ev_bin ev_int ev_loc)))) ex_nil)))))))))
    (ex_cons (st_assign (ev_call (args_cons' ev_loc (args_cons' ev_loc args_nil')) k.f_law_add_agrees.1 k.f_law_add_agrees.2))
    (ex_cons (st_if (tr_and (tr_cmp (ev_bin ev_loc ev_loc) ev_int) (tr_and1 (tr_cmp ev_loc ev_bool))) (ex_one (st_ret ev_bool)) ex_nil)
    (ex_cons (st_if (tr_and (tr_cmp (ev_bin ev_loc ev_loc) ev_int) (tr_and1 (tr_cmp ev_loc ev_bool))) (ex_one (st_ret ev_bool)) ex_nil)
    (ex_one (st_ret ev_bool))))))))))
end
section
open PySem
theorem cell_spec (w : Wd) (hd : w.Def "_law_cell" ["script", "i"] b_law_cell) {lv l : Nat} {ns : List Int} {i : Int} {H : AH} {Q : QV} {X : XV}
    (hs : Has w.S H l (.li ns)) (hn : ns.length ≤ 1000) (h0 : 0 ≤ i) (hQ : Q (.int (ns.getD i.toNat 0)) H) : w.fn (lv + 1) "_law_cell" [.ref l, .int i] H Q X := by
  refine hd.step rfl ?_
  unfold b_law_cell
  simp only [wE, String.reduceEq, ↓reduceIte, true_and, Bool.false_eq_true, decide_eq_true_eq, Bool.not_eq_true', decide_eq_false_iff_not, ite_not]
  refine lenW_ints hs (len1000 hn) ?_
  simp only [wE, String.reduceEq, ↓reduceIte, true_and, Bool.false_eq_true, decide_eq_true_eq, Bool.not_eq_true', decide_eq_false_iff_not, ite_not]
  split
  · refine idxW_ints hs (len1000 hn) h0 (by omega) ?_
    exact weak_of hQ
  · (refine seqK_ ?_; simp only [wE, String.reduceEq, ↓reduceIte, true_and, Bool.false_eq_true, decide_eq_true_eq, Bool.not_eq_true', decide_eq_false_iff_not, ite_not])
    rw [getD_out (by omega)] at hQ
    exact weak_of hQ
theorem law_add_agrees_spec (w : Wd) (hd : w.Def "law_add_agrees" ["m", "n"] b_law_add_agrees) (hB : w.G "BASE" = some (.int 10000)) (hf : w.Def "from_int" ["n"] b_from_int) (ha : w.Def "add" ["a", "b"] b_add)
    (hn : w.Def "is_natural" ["a"] b_is_natural) (ht : w.Def "to_int" ["a"] b_to_int) {lv : Nat} {m n : Int} {H : AH} {Q : QV} {X : XV} (hm : m < 10000 ^ 200) (hn' : n < 10000 ^ 200)
    (hQ : Q (.bool (decide (((m.toNat + n.toNat : Nat) : Int) = m + n))) H) : w.fn (lv + 2) "law_add_agrees" [.int m, .int n] H Q X := by
  have lm : (dig m.toNat).length ≤ 200 := dig_len_le (by have e := pow_cast 200; omega)
  have ln : (dig n.toNat).length ≤ 200 := dig_len_le (by have e := pow_cast 200; omega)
  have ls : (dig (m.toNat + n.toNat)).length ≤ 201 := dig_len_le (by have e := pow_cast 200; rw [Nat.pow_succ]; omega)
  refine hd.step rfl ?_
  unfold b_law_add_agrees
  simp only [wE, String.reduceEq, ↓reduceIte, true_and, Bool.false_eq_true, decide_eq_true_eq, Bool.not_eq_true', decide_eq_false_iff_not, ite_not]
  refine from_int_spec w hf hB (by omega) fun l1 hl1 => ?_
  refine from_int_spec w hf hB (by omega) fun l2 hl2 => ?_
  refine add_spec w ha hB (Has.cons Has.head) Has.head (by omega) (by omega) fun l3 hl3 => ?_
  (refine seqK_ ?_; simp only [wE, String.reduceEq, ↓reduceIte, true_and, Bool.false_eq_true, decide_eq_true_eq, Bool.not_eq_true', decide_eq_false_iff_not, ite_not])
  refine is_natural_spec w hn hB Has.head (by omega) ?_
  simp only [wE, String.reduceEq, ↓reduceIte, true_and, Bool.false_eq_true, decide_eq_true_eq, Bool.not_eq_true', decide_eq_false_iff_not, ite_not]
  refine to_int_spec w ht hB Has.head (by omega) ?_
  simp only [wE, String.reduceEq, ↓reduceIte, true_and, Bool.false_eq_true, decide_eq_true_eq, Bool.not_eq_true', decide_eq_false_iff_not, ite_not]
  rw [val_dig]
  exact weak_sub (fun _ h => .tail _ (.tail _ (.tail _ h))) hQ

theorem law_main (w : Wd) (D : Defs w) {l : Nat} {ns : List Int} (hs : (l, .li ns) ∈ w.S) (hlen : ns.length ≤ 1000) :
    WS ⟨w.S, w.G, w.fn 60⟩ b_law (bindM ["script"] [.ref l]) [] (fun _ _ => False) (fun v _ => v = .bool true) (fun _ _ _ => False) := by
  unfold b_law
  simp only [wE, String.reduceEq, ↓reduceIte, true_and, Bool.false_eq_true, decide_eq_true_eq, Bool.not_eq_true', decide_eq_false_iff_not, ite_not]
  refine cell_spec w D.law_cell (.inl hs) hlen (by decide) ?_
  simp only [wE, String.reduceEq, ↓reduceIte, true_and, Bool.false_eq_true, decide_eq_true_eq, Bool.not_eq_true', decide_eq_false_iff_not, ite_not]
  refine ⟨by decide, ?_⟩
  (refine seqK_ ?_; simp only [wE, String.reduceEq, ↓reduceIte, true_and, Bool.false_eq_true, decide_eq_true_eq, Bool.not_eq_true', decide_eq_false_iff_not, ite_not])
  refine cell_spec w D.law_cell (.inl hs) hlen (by decide) ?_
  simp only [wE, String.reduceEq, ↓reduceIte, true_and, Bool.false_eq_true, decide_eq_true_eq, Bool.not_eq_true', decide_eq_false_iff_not, ite_not]
  refine ⟨⟨by decide, by decide, by decide⟩, by decide, ?_⟩
  (refine seqK_ ?_; simp only [wE, String.reduceEq, ↓reduceIte, true_and, Bool.false_eq_true, decide_eq_true_eq, Bool.not_eq_true', decide_eq_false_iff_not, ite_not])
  refine cell_spec w D.law_cell (.inl hs) hlen (by decide) ?_
  simp only [wE, String.reduceEq, ↓reduceIte, true_and, Bool.false_eq_true, decide_eq_true_eq, Bool.not_eq_true', decide_eq_false_iff_not, ite_not]
  refine ⟨⟨by decide, by decide, by decide⟩, by decide, ?_⟩
  (refine seqK_ ?_; simp only [wE, String.reduceEq, ↓reduceIte, true_and, Bool.false_eq_true, decide_eq_true_eq, Bool.not_eq_true', decide_eq_false_iff_not, ite_not])
  refine cell_spec w D.law_cell (.inl hs) hlen (by decide) ?_
  simp only [wE, String.reduceEq, ↓reduceIte, true_and, Bool.false_eq_true, decide_eq_true_eq, Bool.not_eq_true', decide_eq_false_iff_not, ite_not]
  refine ⟨by decide, ?_⟩
  have hm1 := Int.emod_nonneg (ns.getD (Int.toNat 1) 0) (show (10 : Int) ^ Int.toNat 24 ≠ 0 by decide)
  have hm2 := Int.emod_lt_of_pos (ns.getD (Int.toNat 1) 0) (show (0 : Int) < (10 : Int) ^ Int.toNat 24 by decide)
  have hn1 := Int.emod_nonneg (ns.getD (Int.toNat 2) 0) (show (10 : Int) ^ Int.toNat 24 ≠ 0 by decide)
  have hn2 := Int.emod_lt_of_pos (ns.getD (Int.toNat 2) 0) (show (0 : Int) < (10 : Int) ^ Int.toNat 24 by decide)
  have hk1 : 0 ≤ ns.getD (Int.toNat 3) 0 % 4 := by omega
  have hk2 : ns.getD (Int.toNat 3) 0 % 4 < 4 := by omega
  generalize ns.getD (Int.toNat 1) 0 % 10 ^ Int.toNat 24 = m at *
  generalize ns.getD (Int.toNat 2) 0 % 10 ^ Int.toNat 24 = n at *
  generalize ns.getD (Int.toNat 3) 0 % 4 = k at *
  generalize ns.getD (Int.toNat 0) 0 % 6 = kind at *
  (refine seqK_ ?_; simp only [wE, String.reduceEq, ↓reduceIte, true_and, Bool.false_eq_true, decide_eq_true_eq, Bool.not_eq_true', decide_eq_false_iff_not, ite_not])
  generalize hK : seqK (WS _ _) _ _ _ = K
  have fin : ∀ (m n : Int) (ρ : AM), m < 10000 ^ 200 → n < 10000 ^ 200 → (m + n < 0 ∨ (0 ≤ m ∧ 0 ≤ n)) → ρ "m" = some (.int m) → ρ "n" = some (.int n) → K ρ [] := by
    intro m n ρ b1 b2 hmn r1 r2
    subst hK
    (refine seqK_ ?_; simp only [wE, String.reduceEq, ↓reduceIte, true_and, Bool.false_eq_true, decide_eq_true_eq, Bool.not_eq_true', decide_eq_false_iff_not, ite_not, r1, r2])
    refine law_add_agrees_spec w D.law_add_agrees D.BASE D.from_int D.add D.is_natural D.to_int b1 b2 ?_
    (refine seqK_ ?_; simp only [wE, String.reduceEq, ↓reduceIte, true_and, Bool.false_eq_true, decide_eq_true_eq, Bool.not_eq_true', decide_eq_false_iff_not, ite_not, r1, r2])
    rcases hmn with hneg | ⟨p1, p2⟩
    · rw [show decide (((m.toNat + n.toNat : Nat) : Int) = m + n) = false from decide_eq_false (by omega)]
      rw [if_pos hneg, if_neg (by decide)]
      (refine seqK_ ?_; simp only [wE, String.reduceEq, ↓reduceIte, true_and, Bool.false_eq_true, decide_eq_true_eq, Bool.not_eq_true', decide_eq_false_iff_not, ite_not, r1, r2])
      rw [if_neg (by omega), if_neg (by omega)]
      (refine seqK_ ?_; simp only [wE, String.reduceEq, ↓reduceIte, true_and, Bool.false_eq_true, decide_eq_true_eq, Bool.not_eq_true', decide_eq_false_iff_not, ite_not])
    · rw [show decide (((m.toNat + n.toNat : Nat) : Int) = m + n) = true from decide_eq_true (by omega)]
      rw [if_neg (by omega), if_neg (by omega)]
      (refine seqK_ ?_; simp only [wE, String.reduceEq, ↓reduceIte, true_and, Bool.false_eq_true, decide_eq_true_eq, Bool.not_eq_true', decide_eq_false_iff_not, ite_not, r1, r2])
      rw [if_pos (by omega), if_neg (by decide)]
      (refine seqK_ ?_; simp only [wE, String.reduceEq, ↓reduceIte, true_and, Bool.false_eq_true, decide_eq_true_eq, Bool.not_eq_true', decide_eq_false_iff_not, ite_not])
  have hbig : (10 : Int) ^ Int.toNat 24 * 10000 ^ 4 < 10000 ^ 200 := by decide +kernel
  have e24 : (10 : Int) ^ Int.toNat 24 = 1000000000000000000000000 := by decide +kernel
  have e4 : (10000 : Int) ^ 4 = 10000000000000000 := by decide +kernel
  rw [e24, e4] at hbig
  rw [e24] at hm2 hn2
  generalize (10000 : Int) ^ 200 = B at *
  rw [e24]
  have hp : ∀ j : Nat, j ≤ 4 → (0 : Int) < 10000 ^ j ∧ (10000 : Int) ^ j ≤ 10000000000000000 := by
    intro j hj
    rcases (show j = 0 ∨ j = 1 ∨ j = 2 ∨ j = 3 ∨ j = 4 by omega) with e | e | e | e | e <;> subst e <;> decide
  split
  · have := hp (k + 1).toNat (by omega)
    exact ⟨⟨by omega, by omega, by decide⟩, fin _ _ _ (by omega) (by omega) (.inr ⟨by omega, by omega⟩) rfl rfl⟩
  split
  · exact ⟨⟨by omega, by omega, by decide⟩, fin _ _ _ (by omega) (by omega) (.inr ⟨by omega, by omega⟩) rfl rfl⟩
  split
  · exact fin _ _ _ (by omega) (by omega) (.inl (by omega)) rfl rfl
  split
  · exact fin _ _ _ (by omega) (by omega) (.inl (by omega)) rfl rfl
  split
  · have h4 := hp k.toNat (by omega)
    have h5 : 0 ≤ n * 10000 ^ k.toNat := Int.mul_nonneg hn1 (by omega)
    have h6 : n * 10000 ^ k.toNat ≤ 1000000000000000000000000 * 10000000000000000 := Int.mul_le_mul (by omega) h4.2 (by omega) (by omega)
    exact ⟨⟨by omega, by omega, by decide⟩, .inl (by omega), fin _ _ _ (by omega) (by omega) (.inr ⟨by omega, by omega⟩) rfl rfl⟩
  · exact fin _ _ _ (by omega) (by omega) (.inr ⟨by omega, by omega⟩) rfl rfl
end
open PySem PySem.W PySem.Spec PySem.Calls PyProof.Rows
open_top hd for PySem.Challenge.rw_k8_0042
def addrIn (K : Frag) (s : String) : Addr := match nsIn K mainGlobals (Str.ofString s) with
  | some (some (.ref a)) => a
  | _ => 0
noncomputable def PT (w : World) (mean : ExcName → Option Value) (mg mb : Str → Option Value) (l : Addr) (ns : List Int) : Pm where
  prog := PySem.Challenge.rw_k8_0042.row.prog
  w := w
  K := hd.heap_39 w.params
  p := hd.view_39
  loose := looseW hd.view_39 []
  mean := mean
  mg := mg
  mb := mb
  S := [(l, .li ns)]
  G := fun s => if s = "BASE" then some (.int 10000) else none
  addr := addrIn (hd.heap_39 w.params)
section
variable {w : World} {mean : ExcName → Option Value} {mg mb : Str → Option Value} {l : Addr} {ns : List Int}
theorem kf : KF (PT w mean mg mb l ns) where
  b_len := by rfl
  b_max := by rfl
  b_range := by rfl
  f_law_cell := ⟨by rfl, by rfl⟩
  f_add := ⟨by rfl, by rfl⟩
  f_from_int := ⟨by rfl, by rfl⟩
  f_is_natural := ⟨by rfl, by rfl⟩
  f_law_add_agrees := ⟨by rfl, by rfl⟩
  f_to_int := ⟨by rfl, by rfl⟩
  g_BASE := ⟨rfl, _, by rfl⟩
theorem d_is_natural : (PT w mean mg mb l ns).wd.Def "is_natural" ["a"] b_is_natural := fun n vs H Q X hl hw =>
  call_sound (P := PT w mean mg mb l ns) (by rfl) (by rfl) (fun s vs h => by
    match vs, h with
    | [a], _ => exact BindsTo.of_eq rfl) (by decide) (by decide) rfl rfl rfl (by decide) (ok_is_natural kf) hl hw
theorem d_from_int : (PT w mean mg mb l ns).wd.Def "from_int" ["n"] b_from_int := fun n vs H Q X hl hw =>
  call_sound (P := PT w mean mg mb l ns) (by rfl) (by rfl) (fun s vs h => by
    match vs, h with
    | [a], _ => exact BindsTo.of_eq rfl) (by decide) (by decide) rfl rfl rfl (by decide) (ok_from_int kf) hl hw
theorem d_to_int : (PT w mean mg mb l ns).wd.Def "to_int" ["a"] b_to_int := fun n vs H Q X hl hw =>
  call_sound (P := PT w mean mg mb l ns) (by rfl) (by rfl) (fun s vs h => by
    match vs, h with
    | [a], _ => exact BindsTo.of_eq rfl) (by decide) (by decide) rfl rfl rfl (by decide) (ok_to_int kf) hl hw
theorem d_add : (PT w mean mg mb l ns).wd.Def "add" ["a", "b"] b_add := fun n vs H Q X hl hw =>
  call_sound (P := PT w mean mg mb l ns) (by rfl) (by rfl) (fun s vs h => by
    match vs, h with
    | [a, b], _ => exact BindsTo.of_eq rfl) (by decide) (by decide) rfl rfl rfl (by decide) (ok_add kf) hl hw
theorem d_law_add_agrees : (PT w mean mg mb l ns).wd.Def "law_add_agrees" ["m", "n"] b_law_add_agrees := fun n vs H Q X hl hw =>
  call_sound (P := PT w mean mg mb l ns) (by rfl) (by rfl) (fun s vs h => by
    match vs, h with
    | [a, b], _ => exact BindsTo.of_eq rfl) (by decide) (by decide) rfl rfl rfl (by decide) (ok_law_add_agrees kf) hl hw
theorem d_law_cell : (PT w mean mg mb l ns).wd.Def "_law_cell" ["script", "i"] b_law_cell := fun n vs H Q X hl hw =>
  call_sound (P := PT w mean mg mb l ns) (by rfl) (by rfl) (fun s vs h => by
    match vs, h with
    | [a, b], _ => exact BindsTo.of_eq rfl) (by decide) (by decide) rfl rfl rfl (by decide) (ok_law_cell kf) hl hw
theorem dfs : Defs (PT w mean mg mb l ns).wd where
  BASE := rfl
  is_natural := d_is_natural
  from_int := d_from_int
  to_int := d_to_int
  add := d_add
  law_add_agrees := d_law_add_agrees
  law_cell := d_law_cell
theorem no_mods : importsNone hd.view_39 = true := by decide +kernel
theorem goes {q : Str} {sc : Scope} {body : List Stmt} {s₁ : Shared} {h₁ : Heap} {tk : Nat} {cd : Value} {fa L : Addr} {m : Str → Option Value} {vs : List Value} {Fc : Flow → Shared → Prop} {Ec : Value → Shared → Prop}
    (hb : ExOK (PT w mean mg mb l ns) q sc body b_law) (KX : (hd.heap_39 w.params).In s₁.heap) (T : Top hd.view_39 (looseW hd.view_39 []) mean mg mb s₁.heap) (K0 : Below callerA s₁.heap [] s₁.heap) (F : Fr s₁.heap L h₁ m) (hm : m (Str.ofString "script") = some (.ref l))
    (hL : s₁.heap.IsList l vs.toArray) (hI : IntsAre vs ns) (hlen : ns.length ≤ 1000) (kind : sc.kind = .function) (gen : sc.isGenerator = false) (co : sc.isCoroutine = false)
    (hend : ∀ h' tk m', Fr s₁.heap L h' m' → Fc (.ret (.bool true)) { s₁ with heap := h', toks := tk }) :
    wpAny (model PySem.Challenge.rw_k8_0042.row.prog w) (callerA.deeper (envOf q sc L fa cd)) (execs body (envOf q sc L fa cd)) Fc Ec { s₁ with heap := h₁, toks := tk } :=
  law_final (P := PT w mean mg mb l ns) hb KX T K0 F hm (fun a o hm => by
    cases hm with
    | head => exact ⟨_, hL, hI⟩
    | tail _ hm => cases hm) kind gen co rfl no_mods (law_main (PT w mean mg mb l ns).wd dfs (.head _) hlen) hend
end
end Mine
open PySem PySem.W PySem.Spec PySem.Calls PyProof.Rows Mine
set_option maxHeartbeats 8000000 in
theorem PySem.Challenge.cw_k8_0042_holds : PySem.Challenge.rw_k8_0042.Holds := by
  refine Mine.hd ?_
  k_go0
  rename Frag.In _ _ => KX
  rename Top _ _ _ _ _ _ => T
  rename Below _ _ _ _ => K0
  rename Fr _ _ _ _ => F
  rename IntsAre _ _ => hI
  rename Heap.IsList _ _ _ => hL
  rename (¬ _ < _) => hlen
  rename (Shared.gens _ = _) => hg
  refine goes (ok_law kf) KX T K0 F rfl hL hI (by omega) rfl rfl rfl (fun h' tk m' F' => ?_)
  clear F
  dsimp only
  wrow_close
