import PyProof.Rows.All
import Wide.All
import OpenK.AllK
import Wide.FinOn
import PySem.Challenge.RW_k8_0011
set_option Elab.async false
set_option maxRecDepth 100000
set_option linter.all false
set_option maxHeartbeats 4000000
namespace Mine
section
open PySem
inductive AV where
  | int (i : Int) | bool (b : Bool) | none | str (x : Str) | ref (a : Nat) | typ (n : String)
inductive AO where
  | li (xs : List Int) | tup (vs : List AV) | ls (xs : List Str)
abbrev AH := List (Nat × AO)
abbrev AM := String → Option AV
abbrev QV := AV → AH → Prop
abbrev XV := String → AH → Prop
abbrev QN := AM → AH → Prop
abbrev XS := String → AM → AH → Prop

def Fresh (H : AH) (l : Nat) : Prop := ∀ p ∈ H, p.1 < l
def Has (S H : AH) (a : Nat) (o : AO) : Prop := (a, o) ∈ S ∨ (a, o) ∈ H
def hupd (H : AH) (a : Nat) (o : AO) : AH := H.map fun p => if p.1 = a then (a, o) else p
def mset (ρ : AM) (x : String) (v : AV) : AM := fun y => if y = x then some v else ρ y
/-- a sub-ledger on which P holds -/
def Weak (P : AH → Prop) (H : AH) : Prop := ∃ H', (∀ p ∈ H', p ∈ H) ∧ P H'

structure Cx where
  S : AH
  G : String → Option AV
  fn : String → List AV → AH → QV → XV → Prop

mutual
inductive PE where
  | int (i : Int) | str (x : Str) | bool (b : Bool) | none
  | typ (n : String)
  | loc (x : String) | glob (x : String)
  | bin (op : Operator) (l r : PE)
  | neg (e : PE)
  | not (e : PE)
  | cmp (op : CmpOp) (l r : PE)
  | and (l r : PE) | or (l r : PE)
  | ife (c t e : PE)
  | idx (e i : PE)
  | slAll (e : PE) | slTo (e hi : PE) | slFrom (e lo : PE)
  | tup (es : PEs)
  | lst0 | lst1 (e : PE)
  | call (f : String) (es : PEs)
  | len (e : PE) | max (a b : PE) | min (a b : PE) | abs (e : PE)
  | strOf (e : PE) | typeOf (e : PE) | boolOf (e : PE)
  | append (o x : PE)
  | zfill (o n : PE) | join (o x : PE)
  | allInt (e : PE)
inductive PEs where
  | nil | cons (e : PE) (es : PEs)
end

inductive PS where
  | skip
  | seq (a b : PS)
  | assign (x : String) (e : PE)
  | aug (x : String) (op : Operator) (e : PE)
  | setidx (o i e : PE)
  | unpack (x y : String) (e : PE)
  | swap (x y : String) (a b : PE)
  | expr (e : PE)
  | ite (c : PE) (t e : PS)
  | ret (e : PE)
  | whl (c : PE) (b : PS)
  | for1 (x : String) (n : PE) (b : PS)
  | for2 (x : String) (lo hi : PE) (b : PS)
  | forDown (x : String) (a : PE) (b : PS)
  | forList (x : String) (e : PE) (b : PS)
  | raise (cls : String) (msg : Str)
  | try1 (b : PS) (cls : String) (h : PS)

def MulOk (a b : Int) : Prop := (-(2 ^ 63) ≤ b ∧ b < 2 ^ 63) ∨ (-(2 ^ 63) ≤ a ∧ a < 2 ^ 63) ∨ (a.natAbs < 2 ^ 4000 ∧ b.natAbs < 2 ^ 4000)
def PowOk (a n : Int) : Prop := 0 ≤ n ∧ n ≤ 1000000 ∧ a.natAbs < 2 ^ 64
def BIG : Nat := 1000000

def opW (S : AH) : Operator → AV → AV → AH → QV → Prop
  | .Add, .int a, .int b, H, Q => Q (.int (a + b)) H
  | .Sub, .int a, .int b, H, Q => Q (.int (a - b)) H
  | .Mult, .int a, .int b, H, Q => MulOk a b ∧ Q (.int (a * b)) H
  | .FloorDiv, .int a, .int b, H, Q => 0 < b ∧ Q (.int (a / b)) H
  | .Mod, .int a, .int b, H, Q => 0 < b ∧ Q (.int (a % b)) H
  | .Pow, .int a, .int b, H, Q => PowOk a b ∧ Q (.int (a ^ b.toNat)) H
  | .Add, .ref a, .ref b, H, Q => ∃ xs ys, Has S H a (.li xs) ∧ Has S H b (.li ys) ∧ xs.length + ys.length ≤ BIG ∧ ∀ l, Fresh H l → Q (.ref l) ((l, .li (xs ++ ys)) :: H)
  | .Mult, .ref a, .int k, H, Q => ∃ x, (a, .li [x]) ∈ H ∧ 0 ≤ k ∧ k ≤ BIG ∧ ∀ l, Fresh H l → Q (.ref l) ((l, .li (List.replicate k.toNat x)) :: H)
  | _, _, _, _, _ => False

/-- x op= y on ints -/
def augW : Operator → AV → AV → AH → QV → Prop
  | .Add, .int a, .int b, H, Q => Q (.int (a + b)) H
  | .Sub, .int a, .int b, H, Q => Q (.int (a - b)) H
  | _, _, _, _, _ => False

/-- equal data: what == says of two values -/
inductive AEq (S H : AH) : Nat → AV → AV → Bool → Prop
  | int (a b : Int) {k : Nat} : AEq S H k (.int a) (.int b) (decide (a = b))
  | li {a b k : Nat} {xs ys : List Int} : Has S H a (.li xs) → Has S H b (.li ys) → AEq S H k (.ref a) (.ref b) (decide (xs = ys))
  | tup2 {a b k : Nat} {u₁ u₂ v₁ v₂ : AV} {b₁ b₂ : Bool} : Has S H a (.tup [u₁, u₂]) → Has S H b (.tup [v₁, v₂]) → AEq S H k u₁ v₁ b₁ → AEq S H k u₂ v₂ b₂ → AEq S H (k + 1) (.ref a) (.ref b) (b₁ && b₂)

def cmpW (S : AH) : CmpOp → AV → AV → AH → QV → Prop
  | .Lt, .int a, .int b, H, Q => Q (.bool (decide (a < b))) H
  | .LtE, .int a, .int b, H, Q => Q (.bool (decide (a ≤ b))) H
  | .Gt, .int a, .int b, H, Q => Q (.bool (decide (a > b))) H
  | .GtE, .int a, .int b, H, Q => Q (.bool (decide (a ≥ b))) H
  | .Eq, .int a, .int b, H, Q => Q (.bool (a == b)) H
  | .NotEq, .int a, .int b, H, Q => Q (.bool (a != b)) H
  | .Eq, .bool a, .bool b, H, Q => Q (.bool (a == b)) H
  | .NotEq, .bool a, .bool b, H, Q => Q (.bool (a != b)) H
  | .Eq, .str a, .str b, H, Q => Q (.bool (a == b)) H
  | .NotEq, .str a, .str b, H, Q => Q (.bool (a != b)) H
  | .Eq, .ref a, .ref b, H, Q => ∃ c, AEq S H 8 (.ref a) (.ref b) c ∧ Q (.bool c) H
  | .NotEq, .ref a, .ref b, H, Q => ∃ c, AEq S H 8 (.ref a) (.ref b) c ∧ Q (.bool (!c)) H
  | .Is, .bool a, .bool b, H, Q => Q (.bool (a == b)) H
  | .IsNot, .bool a, .bool b, H, Q => Q (.bool (a != b)) H
  | .Is, .none, .bool _, H, Q => Q (.bool false) H
  | .IsNot, .none, .bool _, H, Q => Q (.bool true) H
  | .Is, .typ a, .typ b, H, Q => Q (.bool (a == b)) H
  | .IsNot, .typ a, .typ b, H, Q => Q (.bool (a != b)) H
  | _, _, _, _, _ => False

def truW : AV → AH → (Bool → AH → Prop) → Prop
  | .bool b, H, Q => Q b H
  | _, _, _ => False

def lenW (S : AH) : AV → AH → QV → Prop
  | .ref a, H, Q => ∃ o, Has S H a o ∧ (match o with
      | .li xs => xs.length ≤ BIG ∧ Q (.int xs.length) H
      | .tup vs => vs.length ≤ BIG ∧ Q (.int vs.length) H
      | .ls _ => False)
  | _, _, _ => False

def idxW (S : AH) : AV → AV → AH → QV → Prop
  | .ref a, .int i, H, Q => ∃ o, Has S H a o ∧ (match o with
      | .li xs => 0 ≤ i ∧ i < xs.length ∧ i < 2 ^ 62 ∧ Q (.int (xs.getD i.toNat 0)) H
      | .tup vs => 0 ≤ i ∧ i < vs.length ∧ i < 2 ^ 62 ∧ ∃ v, vs[i.toNat]? = some v ∧ Q v H
      | .ls _ => False)
  | _, _, _, _ => False

def sliceW (S : AH) (pick : List Int → List Int) : AV → AH → QV → Prop
  | .ref a, H, Q => ∃ xs, Has S H a (.li xs) ∧ xs.length ≤ BIG ∧ ∀ l, Fresh H l → Q (.ref l) ((l, .li (pick xs)) :: H)
  | _, _, _ => False
/-- where a cut k falls in a list of n items -/
def cutAt (k : Int) (n : Nat) : Nat := if k < 0 then (k + n).toNat else min k.toNat n

def intW : AV → (Int → Prop) → Prop
  | .int i, P => P i
  | _, _ => False
def strW : AV → (Str → Prop) → Prop
  | .str i, P => P i
  | _, _ => False

def typW (S : AH) : AV → AH → QV → Prop
  | .int _, H, Q => Q (.typ "int") H
  | .bool _, H, Q => Q (.typ "bool") H
  | .str _, H, Q => Q (.typ "str") H
  | .ref a, H, Q => ∃ o, Has S H a o ∧ (match o with
      | .li _ => Q (.typ "list") H
      | .tup _ => Q (.typ "tuple") H
      | .ls _ => Q (.typ "list") H)
  | _, _, _ => False

/-- ahead of an append's argument the list must stand -/
def apW (u : AV) (H : AH) (K : Prop) : Prop := (∃ a o, u = .ref a ∧ (a, o) ∈ H ∧ ((∃ xs, o = .li xs) ∨ ∃ xs, o = .ls xs)) ∧ K
def appW : AV → AV → AH → QV → Prop
  | .ref a, .int i, H, Q => ∃ xs, (a, .li xs) ∈ H ∧ xs.length ≤ BIG ∧ Q .none (hupd H a (.li (xs ++ [i])))
  | .ref a, .str x, H, Q => ∃ xs, (a, .ls xs) ∈ H ∧ xs.length ≤ BIG ∧ Q .none (hupd H a (.ls (xs ++ [x])))
  | _, _, _, _ => False

/-- s.zfill(k) on a text of digits: zeros ahead up to k signs -/
def zfillW : AV → AV → AH → QV → Prop
  | .str x, .int k, H, Q => 0 ≤ k ∧ k ≤ 100 ∧ x.length ≤ 100 ∧ (∀ c ∈ x.cps.toList, 48 ≤ c ∧ c ≤ 57) ∧ Q (.str ⟨(List.replicate (k.toNat - x.length) 48 ++ x.cps.toList).toArray⟩) H
  | _, _, _, _ => False
/-- "".join(xs) -/
def joinW (S : AH) : AV → AV → AH → QV → Prop
  | .str x, .ref a, H, Q => x = ⟨#[]⟩ ∧ ∃ xs, Has S H a (.ls xs) ∧ xs.length ≤ 1000 ∧ (∀ y ∈ xs, y.length ≤ 1000) ∧ Q (.str ⟨(xs.flatMap fun y => y.cps.toList).toArray⟩) H
  | _, _, _, _ => False

def setW : AV → AV → AV → AH → (AH → Prop) → Prop
  | .ref a, .int k, .int v, H, Q => ∃ xs, (a, .li xs) ∈ H ∧ 0 ≤ k ∧ k < xs.length ∧ k < 2 ^ 62 ∧ Q (hupd H a (.li (xs.set k.toNat v)))
  | _, _, _, _, _ => False

mutual
def W (C : Cx) : PE → AM → AH → QV → XV → Prop
  | .int i, _, H, Q, _ => Q (.int i) H
  | .str x, _, H, Q, _ => Q (.str x) H
  | .bool b, _, H, Q, _ => Q (.bool b) H
  | .none, _, H, Q, _ => Q .none H
  | .typ n, _, H, Q, _ => Q (.typ n) H
  | .loc x, ρ, H, Q, _ => ∃ v, ρ x = some v ∧ Q v H
  | .glob x, _, H, Q, _ => ∃ v, C.G x = some v ∧ Q v H
  | .bin op l r, ρ, H, Q, X => W C l ρ H (fun u H₁ => W C r ρ H₁ (fun v H₂ => opW C.S op u v H₂ Q) X) X
  | .neg e, ρ, H, Q, X => W C e ρ H (fun v H₁ => intW v fun i => Q (.int (-i)) H₁) X
  | .not e, ρ, H, Q, X => W C e ρ H (fun v H₁ => truW v H₁ fun b H₂ => Q (.bool (!b)) H₂) X
  | .cmp op l r, ρ, H, Q, X => W C l ρ H (fun u H₁ => W C r ρ H₁ (fun v H₂ => cmpW C.S op u v H₂ Q) X) X
  | .and l r, ρ, H, Q, X => W C l ρ H (fun u H₁ => truW u H₁ fun b H₂ => if b = true then W C r ρ H₂ Q X else Q (.bool b) H₂) X
  | .or l r, ρ, H, Q, X => W C l ρ H (fun u H₁ => truW u H₁ fun b H₂ => if b = true then Q (.bool b) H₂ else W C r ρ H₂ Q X) X
  | .ife c t e, ρ, H, Q, X => W C c ρ H (fun u H₁ => truW u H₁ fun b H₂ => if b = true then W C t ρ H₂ Q X else W C e ρ H₂ Q X) X
  | .idx e i, ρ, H, Q, X => W C e ρ H (fun u H₁ => W C i ρ H₁ (fun v H₂ => idxW C.S u v H₂ Q) X) X
  | .slAll e, ρ, H, Q, X => W C e ρ H (fun u H₁ => sliceW C.S (fun xs => xs) u H₁ Q) X
  | .slTo e k, ρ, H, Q, X => W C e ρ H (fun u H₁ => W C k ρ H₁ (fun v H₂ => intW v fun i => sliceW C.S (fun xs => xs.take (cutAt i xs.length)) u H₂ Q) X) X
  | .slFrom e k, ρ, H, Q, X => W C e ρ H (fun u H₁ => W C k ρ H₁ (fun v H₂ => intW v fun i => sliceW C.S (fun xs => xs.drop (cutAt i xs.length)) u H₂ Q) X) X
  | .tup es, ρ, H, Q, X => WArgs C es ρ H (fun vs H₁ => ∀ l, Fresh H₁ l → Q (.ref l) ((l, .tup vs) :: H₁)) X
  | .lst0, _, H, Q, _ => ∀ l, Fresh H l → Q (.ref l) ((l, .li []) :: H)
  | .lst1 e, ρ, H, Q, X => W C e ρ H (fun v H₁ => ∀ l, Fresh H₁ l → match v with
      | .int i => Q (.ref l) ((l, .li [i]) :: H₁)
      | .str x => Q (.ref l) ((l, .ls [x]) :: H₁)
      | _ => False) X
  | .call f es, ρ, H, Q, X => WArgs C es ρ H (fun vs H₁ => C.fn f vs H₁ Q X) X
  | .len e, ρ, H, Q, X => W C e ρ H (fun v H₁ => lenW C.S v H₁ Q) X
  | .max a b, ρ, H, Q, X => W C a ρ H (fun u H₁ => W C b ρ H₁ (fun v H₂ => intW u fun i => intW v fun j => Q (.int (max i j)) H₂) X) X
  | .min a b, ρ, H, Q, X => W C a ρ H (fun u H₁ => W C b ρ H₁ (fun v H₂ => intW u fun i => intW v fun j => Q (.int (min i j)) H₂) X) X
  | .abs e, ρ, H, Q, X => W C e ρ H (fun v H₁ => intW v fun i => Q (.int i.natAbs) H₁) X
  | .strOf e, ρ, H, Q, X => W C e ρ H (fun v H₁ => intW v fun i => i.natAbs < 2 ^ 1000 ∧ Q (.str (Str.ofString (toString i))) H₁) X
  | .typeOf e, ρ, H, Q, X => W C e ρ H (fun v H₁ => typW C.S v H₁ Q) X
  | .boolOf e, ρ, H, Q, X => W C e ρ H (fun v H₁ => truW v H₁ fun b H₂ => Q (.bool b) H₂) X
  | .append o x, ρ, H, Q, X => W C o ρ H (fun u H₁ => apW u H₁ (W C x ρ H₁ (fun v H₂ => appW u v H₂ Q) X)) X
  | .zfill o n, ρ, H, Q, X => W C o ρ H (fun u H₁ => strW u fun _ => W C n ρ H₁ (fun v H₂ => zfillW u v H₂ Q) X) X
  | .join o e, ρ, H, Q, X => W C o ρ H (fun u H₁ => strW u fun _ => W C e ρ H₁ (fun v H₂ => joinW C.S u v H₂ Q) X) X
  | .allInt e, ρ, H, Q, X => W C e ρ H (fun v H₁ => ∃ a xs, v = .ref a ∧ Has C.S H₁ a (.li xs) ∧ xs.length ≤ BIG ∧ Q (.bool true) H₁) X
def WArgs (C : Cx) : PEs → AM → AH → (List AV → AH → Prop) → XV → Prop
  | .nil, _, H, Q, _ => Q [] H
  | .cons e es, ρ, H, Q, X => W C e ρ H (fun v H₁ => WArgs C es ρ H₁ (fun vs H₂ => Q (v :: vs) H₂) X) X
end


/-- the rest of a suite -/
def seqK (k : AM → AH → QN → QV → XS → Prop) (Qn : QN) (Qr : QV) (X : XS) : QN := fun ρ H => k ρ H Qn Qr X
/-- a loop of n turns, the name x bound to it k in turn k -/
def loopW (x : String) (n : Nat) (it : Nat → AV) (g : AH → Prop) (body : AM → AH → QN → QV → XS → Prop) (ρ : AM) (H : AH) (Qn : QN) (Qr : QV) : Prop :=
  ∃ I : Nat → AM → AH → Prop, I 0 ρ H ∧ (∀ k ρ₁ H₁, k ≤ n → I k ρ₁ H₁ → g H₁) ∧
    (∀ k ρ₁ H₁, k < n → I k ρ₁ H₁ → body (mset ρ₁ x (it k)) H₁ (fun ρ₂ H₂ => Weak (I (k + 1) ρ₂) H₂) Qr (fun _ _ _ => False)) ∧ ∀ ρ₁ H₁, I n ρ₁ H₁ → Qn ρ₁ H₁
def whlW (c : AM → AH → QV → XV → Prop) (body : AM → AH → QN → QV → XS → Prop) (ρ : AM) (H : AH) (Qn : QN) (Qr : QV) : Prop :=
  ∃ I : Nat → AM → AH → Prop, (∃ n, I n ρ H) ∧ ∀ n ρ₁ H₁, I n ρ₁ H₁ →
      c ρ₁ H₁ (fun u H₂ => truW u H₂ fun t H₃ => if t = true then body ρ₁ H₃ (fun ρ₂ H₄ => Weak (fun H₅ => ∃ k, k < n ∧ I k ρ₂ H₅) H₄) Qr (fun _ _ _ => False) else Qn ρ₁ H₃) (fun _ _ => False)

def WS (C : Cx) : PS → AM → AH → QN → QV → XS → Prop
  | .skip, ρ, H, Qn, _, _ => Qn ρ H
  | .seq a b, ρ, H, Qn, Qr, X => WS C a ρ H (seqK (WS C b) Qn Qr X) Qr X
  | .assign x e, ρ, H, Qn, _, X => W C e ρ H (fun v H₁ => Qn (mset ρ x v) H₁) (fun c H₁ => X c ρ H₁)
  | .aug x op e, ρ, H, Qn, _, X => ∃ u, ρ x = some u ∧ W C e ρ H (fun v H₁ => augW op u v H₁ fun r H₂ => Qn (mset ρ x r) H₂) (fun c H₁ => X c ρ H₁)
  | .setidx o i e, ρ, H, Qn, _, X => W C e ρ H (fun v H₁ => W C o ρ H₁ (fun u H₂ => W C i ρ H₂ (fun k H₃ => setW u k v H₃ fun H₄ => Qn ρ H₄) (fun c H₁ => X c ρ H₁)) (fun c H₁ => X c ρ H₁)) (fun c H₁ => X c ρ H₁)
  | .unpack x y e, ρ, H, Qn, _, X => W C e ρ H (fun v H₁ => ∃ a u w, v = .ref a ∧ Has C.S H₁ a (.tup [u, w]) ∧ Qn (mset (mset ρ x u) y w) H₁) (fun c H₁ => X c ρ H₁)
  | .swap x y a b, ρ, H, Qn, _, X => W C a ρ H (fun u H₁ => W C b ρ H₁ (fun w H₂ => Qn (mset (mset ρ y w) x u) H₂) (fun c H₁ => X c ρ H₁)) (fun c H₁ => X c ρ H₁)
  | .expr e, ρ, H, Qn, _, X => W C e ρ H (fun v H₁ => (∀ a, v ≠ .ref a) ∧ Qn ρ H₁) (fun c H₁ => X c ρ H₁)
  | .ite c t e, ρ, H, Qn, Qr, X => W C c ρ H (fun u H₁ => truW u H₁ fun b H₂ => if b = true then WS C t ρ H₂ Qn Qr X else WS C e ρ H₂ Qn Qr X) (fun c H₁ => X c ρ H₁)
  | .ret e, ρ, H, _, Qr, X => W C e ρ H Qr (fun c H₁ => X c ρ H₁)
  | .whl c b, ρ, H, Qn, Qr, _ => whlW (W C c) (WS C b) ρ H Qn Qr
  | .for1 x e b, ρ, H, Qn, Qr, X => W C e ρ H (fun v H₁ => intW v fun n => -BIG ≤ n ∧ n ≤ BIG ∧ loopW x n.toNat (fun k => .int k) (fun _ => True) (WS C b) ρ H₁ Qn Qr) (fun c H₁ => X c ρ H₁)
  | .for2 x lo hi b, ρ, H, Qn, Qr, X => W C lo ρ H (fun u H₁ => W C hi ρ H₁ (fun v H₂ => intW u fun i => intW v fun j => -BIG ≤ i ∧ i ≤ BIG ∧ -BIG ≤ j ∧ j ≤ BIG ∧
      loopW x (j - i).toNat (fun k => .int (i + k)) (fun _ => True) (WS C b) ρ H₂ Qn Qr) (fun c H₁ => X c ρ H₁)) (fun c H₁ => X c ρ H₁)
  | .forDown x e b, ρ, H, Qn, Qr, X => W C e ρ H (fun v H₁ => intW v fun n => -BIG ≤ n ∧ n ≤ BIG ∧ loopW x (n + 1).toNat (fun k => .int (n - k)) (fun _ => True) (WS C b) ρ H₁ Qn Qr) (fun c H₁ => X c ρ H₁)
  | .forList x e b, ρ, H, Qn, Qr, X => W C e ρ H (fun v H₁ => ∃ a xs, v = .ref a ∧ xs.length ≤ BIG ∧
      loopW x xs.length (fun k => .int (xs.getD k 0)) (fun H₂ => Has C.S H₂ a (.li xs)) (WS C b) ρ H₁ Qn Qr) (fun c H₁ => X c ρ H₁)
  | .raise c _, ρ, H, _, _, X => X c ρ H
  | .try1 b c h, ρ, H, Qn, Qr, X => WS C b ρ H Qn Qr (fun k ρ₁ H₁ => k = c ∧ WS C h ρ₁ H₁ Qn Qr X)
end
section
open PySem
/-! digits in base 10000 -/
def dig (n : Nat) : List Int := if h : n = 0 then [] else ((n % 10000 : Nat) : Int) :: dig (n / 10000)
termination_by n
decreasing_by omega
def val : List Int → Int
  | [] => 0
  | x :: xs => x + 10000 * val xs
def Lim (xs : List Int) : Prop := ∀ x ∈ xs, 0 ≤ x ∧ x < 10000

theorem dig_zero : dig 0 = [] := by rw [dig]; simp
theorem dig_pos {n : Nat} (h : 0 < n) : dig n = ((n % 10000 : Nat) : Int) :: dig (n / 10000) := by
  rw [dig]; rw [dif_neg (by omega)]
theorem val_nil : val [] = 0 := rfl
theorem val_cons (x : Int) (xs : List Int) : val (x :: xs) = x + 10000 * val xs := rfl
theorem lim_nil : Lim [] := fun _ h => nomatch h
theorem lim_cons {x : Int} {xs : List Int} : Lim (x :: xs) ↔ (0 ≤ x ∧ x < 10000) ∧ Lim xs := by
  unfold Lim; simp
theorem lim_append {xs ys : List Int} : Lim (xs ++ ys) ↔ Lim xs ∧ Lim ys := by
  unfold Lim
  constructor
  · intro h; exact ⟨fun x hx => h x (List.mem_append.mpr (.inl hx)), fun x hx => h x (List.mem_append.mpr (.inr hx))⟩
  · rintro ⟨h1, h2⟩ x hx; exact (List.mem_append.mp hx).elim (h1 x) (h2 x)
theorem Lim.take {xs : List Int} (h : Lim xs) (k : Nat) : Lim (xs.take k) := fun x hx => h x (List.mem_of_mem_take hx)
theorem Lim.drop {xs : List Int} (h : Lim xs) (k : Nat) : Lim (xs.drop k) := fun x hx => h x (List.mem_of_mem_drop hx)
theorem Lim.getD {xs : List Int} (h : Lim xs) (k : Nat) : 0 ≤ xs.getD k 0 ∧ xs.getD k 0 < 10000 := by
  rw [List.getD_eq_getElem?_getD]
  by_cases hk : k < xs.length
  · rw [List.getElem?_eq_getElem hk]; exact h _ (List.getElem_mem _)
  · rw [List.getElem?_eq_none (by omega)]; simp
theorem Lim.set {xs : List Int} (h : Lim xs) (k : Nat) {v : Int} (h0 : 0 ≤ v) (h1 : v < 10000) : Lim (xs.set k v) := by
  intro x hx
  rcases List.mem_or_eq_of_mem_set hx with hx | rfl
  · exact h x hx
  · exact ⟨h0, h1⟩
theorem val_dig (n : Nat) : val (dig n) = n := by
  induction n using Nat.strongRecOn with
  | ind n ih =>
    by_cases h : n = 0
    · subst h; rw [dig_zero]; rfl
    · rw [dig_pos (by omega), val_cons, ih (n / 10000) (by omega)]; omega
theorem lim_dig (n : Nat) : Lim (dig n) := by
  induction n using Nat.strongRecOn with
  | ind n ih =>
    by_cases h : n = 0
    · subst h; rw [dig_zero]; exact lim_nil
    · rw [dig_pos (by omega), lim_cons]; exact ⟨by omega, ih _ (by omega)⟩
theorem val_nonneg {xs : List Int} (h : Lim xs) : 0 ≤ val xs := by
  induction xs with
  | nil => exact Int.le_refl _
  | cons x xs ih =>
    rw [lim_cons] at h
    rw [val_cons]
    have := ih h.2
    omega
theorem val_lt {xs : List Int} (h : Lim xs) : val xs < 10000 ^ xs.length := by
  induction xs with
  | nil => exact Int.zero_lt_one
  | cons x xs ih =>
    rw [lim_cons] at h
    rw [val_cons, List.length_cons, Int.pow_succ]
    have := ih h.2
    omega
theorem val_append (xs ys : List Int) : val (xs ++ ys) = val xs + 10000 ^ xs.length * val ys := by
  induction xs with
  | nil => simp [val]
  | cons x xs ih =>
    rw [List.cons_append, val_cons, val_cons, ih, List.length_cons, Int.pow_succ]
    grind
theorem val_snoc (xs : List Int) (x : Int) : val (xs ++ [x]) = val xs + 10000 ^ xs.length * x := by
  rw [val_append]; simp [val]
theorem val_take_drop (xs : List Int) (k : Nat) (hk : k ≤ xs.length) : val xs = val (xs.take k) + 10000 ^ k * val (xs.drop k) := by
  have h := val_append (xs.take k) (xs.drop k)
  rw [List.take_append_drop, List.length_take, Nat.min_eq_left hk] at h
  exact h
theorem drop_cons_getD (xs : List Int) (k : Nat) (hk : k < xs.length) : xs.drop k = xs.getD k 0 :: xs.drop (k + 1) := by
  rw [List.drop_eq_getElem_cons hk, List.getD_eq_getElem?_getD, List.getElem?_eq_getElem hk]; rfl
theorem take_succ_getD (xs : List Int) (k : Nat) (hk : k < xs.length) : xs.take (k + 1) = xs.take k ++ [xs.getD k 0] := by
  rw [List.take_add_one, List.getD_eq_getElem?_getD, List.getElem?_eq_getElem hk]; rfl
theorem val_take_succ (xs : List Int) (k : Nat) (hk : k < xs.length) : val (xs.take (k + 1)) = val (xs.take k) + 10000 ^ k * xs.getD k 0 := by
  rw [take_succ_getD xs k hk, val_snoc, List.length_take, Nat.min_eq_left (by omega)]
theorem val_drop (xs : List Int) (k : Nat) (hk : k < xs.length) : val (xs.drop k) = xs.getD k 0 + 10000 * val (xs.drop (k + 1)) := by
  rw [drop_cons_getD xs k hk, val_cons]

/-- no zero at the high end -/
def Top0 (xs : List Int) : Prop := xs = [] ∨ xs.getD (xs.length - 1) 0 ≠ 0
theorem top0_cons {x : Int} {xs : List Int} (h : Top0 (x :: xs)) (hx : xs ≠ []) : Top0 xs := by
  refine h.elim (fun e => nomatch e) fun e => .inr ?_
  rw [List.length_cons] at e
  cases xs with
  | nil => exact absurd rfl hx
  | cons y ys => simpa using e
theorem dig_of {xs : List Int} (h : Lim xs) (ht : Top0 xs) : xs = dig (val xs).toNat := by
  induction xs with
  | nil => exact dig_zero.symm
  | cons x xs ih =>
    have hl := (lim_cons.mp h)
    have hv := val_nonneg hl.2
    rw [val_cons]
    by_cases hx : xs = []
    · subst hx
      have h0 : x ≠ 0 := by
        refine ht.elim (fun e => nomatch e) fun e => ?_
        simpa using e
      rw [val_nil, dig_pos (by omega)]
      rw [show (x + 10000 * 0).toNat / 10000 = 0 by omega, dig_zero]
      rw [show (((x + 10000 * 0).toNat % 10000 : Nat) : Int) = x by omega]
    · have ih' := ih hl.2 (top0_cons ht hx)
      have hp : 0 < val xs := by
        rcases Int.lt_or_eq_of_le hv with h1 | h1
        · exact h1
        · rw [← h1] at ih'; exact absurd (ih'.trans dig_zero) hx
      rw [dig_pos (by omega)]
      rw [show (x + 10000 * val xs).toNat / 10000 = (val xs).toNat by omega, ← ih']
      rw [show (((x + 10000 * val xs).toNat % 10000 : Nat) : Int) = x by omega]
theorem dig_len_pos {n : Nat} : (dig n).length = 0 ↔ n = 0 := by
  constructor
  · intro h
    have := val_dig n
    rw [List.eq_nil_of_length_eq_zero h, val_nil] at this
    omega
  · intro h; rw [h, dig_zero]; rfl
theorem dig_lt_pow (n : Nat) : n < 10000 ^ (dig n).length := by
  have h := val_lt (lim_dig n)
  rw [val_dig] at h
  have e : ((10000 ^ (dig n).length : Nat) : Int) = (10000 : Int) ^ (dig n).length := by simp
  omega
theorem dig_ge_pow {n : Nat} (h : 0 < n) : 10000 ^ ((dig n).length - 1) ≤ n := by
  induction n using Nat.strongRecOn with
  | ind n ih =>
    rw [dig_pos h, List.length_cons, Nat.add_sub_cancel]
    by_cases h2 : n / 10000 = 0
    · rw [h2, dig_zero]; simp; omega
    · have := ih (n / 10000) (by omega) (by omega)
      have h3 : (dig (n / 10000)).length ≠ 0 := fun q => h2 (dig_len_pos.mp q)
      have e : (dig (n / 10000)).length = ((dig (n / 10000)).length - 1) + 1 := by omega
      rw [e, Nat.pow_succ]
      omega
theorem lt_of_len_lt {m n : Nat} (h : (dig m).length < (dig n).length) : m < n := by
  by_cases h0 : n = 0
  · subst h0; rw [dig_zero] at h; simp at h
  · have h1 := dig_lt_pow m
    have h2 := dig_ge_pow (n := n) (by omega)
    have h3 : 10000 ^ (dig m).length ≤ 10000 ^ ((dig n).length - 1) := Nat.pow_le_pow_right (by omega) (by omega)
    omega
theorem len_le_of_le {m n : Nat} (h : m ≤ n) : (dig m).length ≤ (dig n).length := by
  rcases Nat.lt_or_ge (dig n).length (dig m).length with h1 | h1
  · have := lt_of_len_lt h1; omega
  · exact h1
/-- cut off the zeros at the high end: what is left are the digits of the value -/
theorem trim_eq {xs : List Int} (h : Lim xs) {n : Nat} (hn : n ≤ xs.length) (hz : ∀ k, n ≤ k → k < xs.length → xs.getD k 0 = 0) (ht : n = 0 ∨ xs.getD (n - 1) 0 ≠ 0) :
    xs.take n = dig (val xs).toNat := by
  have hv : val (xs.drop n) = 0 := by
    have : ∀ j, n + j ≤ xs.length → val (xs.drop (n + j)) = 0 := by
      intro j hj
      induction hk : xs.length - (n + j) generalizing j with
      | zero => rw [List.drop_of_length_le (by omega)]; rfl
      | succ q ih =>
        rw [val_drop xs (n + j) (by omega), hz (n + j) (by omega) (by omega), Nat.add_assoc, ih (j + 1) (by omega) (by omega)]
        rfl
    exact this 0 (by omega)
  have e : val (xs.take n) = val xs := by rw [val_take_drop xs n hn, hv]; omega
  rw [← e]
  refine dig_of (h.take n) ?_
  rcases ht with ht | ht
  · subst ht; exact .inl (by simp)
  · by_cases h0 : n = 0
    · subst h0; exact .inl (by simp)
    · refine .inr ?_
      rw [List.length_take, Nat.min_eq_left hn]
      rw [List.getD_eq_getElem?_getD, List.getElem?_take_of_lt (by omega), ← List.getD_eq_getElem?_getD]
      exact ht
theorem dig_take (n k : Nat) : val ((dig n).take k) = ((n % 10000 ^ k : Nat) : Int) := by
  by_cases hk : k ≤ (dig n).length
  · have h1 := val_take_drop (dig n) k hk
    have h2 := val_lt ((lim_dig n).take k)
    have h3 := val_nonneg ((lim_dig n).take k)
    have h4 := val_nonneg ((lim_dig n).drop k)
    rw [List.length_take, Nat.min_eq_left hk] at h2
    rw [val_dig] at h1
    have e : ((10000 ^ k : Nat) : Int) = (10000 : Int) ^ k := by simp
    rw [Int.natCast_emod, e, h1, Int.add_mul_emod_self_left, Int.emod_eq_of_lt h3 h2]
  · rw [List.take_of_length_le (by omega), val_dig]
    have h1 := dig_lt_pow n
    have h2 : 10000 ^ (dig n).length ≤ 10000 ^ k := Nat.pow_le_pow_right (by omega) (by omega)
    rw [Nat.mod_eq_of_lt (by omega)]
theorem dig_drop (n k : Nat) : (dig n).drop k = dig (n / 10000 ^ k) := by
  induction k generalizing n with
  | zero => simp
  | succ k ih =>
    by_cases h : n = 0
    · subst h; simp [dig_zero]
    · rw [dig_pos (by omega), List.drop_succ_cons, ih, Nat.pow_succ, Nat.mul_comm, ← Nat.div_div_eq_div_mul]
end
section
open PySem
def bindM : List String → List AV → AM
  | p :: ps, v :: vs => mset (bindM ps vs) p v
  | _, _ => fun _ => none

structure Wd where
  S : AH
  G : String → Option AV
  fn : Nat → String → List AV → AH → QV → XV → Prop
  mono : ∀ {n n' : Nat} {f : String} {vs : List AV} {H : AH} {Q : QV} {X : XV}, n ≤ n' → fn n f vs H Q X → fn n' f vs H Q X
/-- the def f of these parameters has this body -/
def Wd.Def (w : Wd) (f : String) (ps : List String) (b : PS) : Prop :=
  ∀ (n : Nat) (vs : List AV) (H : AH) (Q : QV) (X : XV), vs.length = ps.length →
    WS ⟨w.S, w.G, w.fn n⟩ b (bindM ps vs) H (fun _ H' => Weak (Q .none) H') (fun v H' => Weak (Q v) H') (fun c _ H' => Weak (X c) H') → w.fn (n + 1) f vs H Q X
theorem Wd.Def.step {w : Wd} {f : String} {ps : List String} {b : PS} (h : w.Def f ps b) {n : Nat} {vs : List AV} {H : AH} {Q : QV} {X : XV} (hl : vs.length = ps.length)
    (hw : WS ⟨w.S, w.G, w.fn n⟩ b (bindM ps vs) H (fun _ H' => Weak (Q .none) H') (fun v H' => Weak (Q v) H') (fun c _ H' => Weak (X c) H')) : w.fn (n + 1) f vs H Q X := h n vs H Q X hl hw

section
variable {S H : AH} {a b l : Nat} {o o' : AO}
theorem Has.cons (h : Has S H a o) {p : Nat × AO} : Has S (p :: H) a o := h.imp id fun h => .tail _ h
theorem Has.head : Has S ((a, o) :: H) a o := .inr (.head _)
theorem Has.sub {H' : AH} (h : Has S H a o) (hs : ∀ p ∈ H, p ∈ H') : Has S H' a o := h.imp id fun h => hs _ h
theorem Fresh.ne (h : Fresh H l) (ha : (a, o) ∈ H) : a ≠ l := Nat.ne_of_lt (h _ ha)
theorem Fresh.tail {p : Nat × AO} (h : Fresh (p :: H) l) : Fresh H l := fun q hq => h q (.tail _ hq)
theorem Fresh.head (h : Fresh ((a, o) :: H) l) : a < l := h _ (.head _)
theorem Fresh.mono {H' : AH} (h : Fresh H l) (hs : ∀ p ∈ H', p ∈ H) : Fresh H' l := fun p hp => h p (hs p hp)
theorem hupd_fresh (h : Fresh H l) : hupd H l o = H := by
  unfold hupd
  conv => rhs; rw [← List.map_id H]
  refine List.map_congr_left fun p hp => ?_
  rw [if_neg (Nat.ne_of_lt (h p hp))]; rfl
theorem hupd_head (h : Fresh H l) : hupd ((l, o) :: H) l o' = (l, o') :: H := by
  have := hupd_fresh (o := o') h
  unfold hupd at *
  rw [List.map_cons, this, if_pos rfl]
theorem hupd_cons (h : a ≠ l) : hupd ((a, o) :: H) l o' = (a, o) :: hupd H l o' := by
  unfold hupd
  rw [List.map_cons, if_neg h]
theorem weak_of {P : AH → Prop} (h : P H) : Weak P H := ⟨H, fun _ h => h, h⟩
theorem weak_sub {P : AH → Prop} {H' : AH} (hs : ∀ p ∈ H', p ∈ H) (h : P H') : Weak P H := ⟨H', hs, h⟩
end

section
variable {S H : AH} {a b l : Nat} {Q : QV}
theorem lenW_ints {xs : List Int} (h : Has S H a (.li xs)) (hl : xs.length ≤ BIG) (q : Q (.int xs.length) H) : lenW S (.ref a) H Q := ⟨_, h, hl, q⟩
theorem lenW_tup {vs : List AV} (h : Has S H a (.tup vs)) (hl : vs.length ≤ BIG) (q : Q (.int vs.length) H) : lenW S (.ref a) H Q := ⟨_, h, hl, q⟩
theorem idxW_ints {xs : List Int} {i : Int} (h : Has S H a (.li xs)) (hl : xs.length ≤ BIG) (h0 : 0 ≤ i) (h1 : i < xs.length) (q : Q (.int (xs.getD i.toNat 0)) H) : idxW S (.ref a) (.int i) H Q :=
  ⟨_, h, h0, h1, by unfold BIG at hl; omega, q⟩
theorem sliceW_ {pick : List Int → List Int} {xs : List Int} (h : Has S H a (.li xs)) (hl : xs.length ≤ BIG) (q : ∀ l, Fresh H l → Q (.ref l) ((l, .li (pick xs)) :: H)) : sliceW S pick (.ref a) H Q := ⟨xs, h, hl, q⟩
theorem appW_int {xs : List Int} {i : Int} (h : (a, .li xs) ∈ H) (hl : xs.length ≤ BIG) (q : Q .none (hupd H a (.li (xs ++ [i])))) : appW (.ref a) (.int i) H Q := ⟨xs, h, hl, q⟩
theorem appW_head {xs : List Int} {i : Int} (hf : Fresh H a) (hl : xs.length ≤ BIG) (q : Q .none ((a, .li (xs ++ [i])) :: H)) : appW (.ref a) (.int i) ((a, .li xs) :: H) Q :=
  ⟨xs, .head _, hl, by rw [hupd_head hf]; exact q⟩
theorem catW_ {xs ys : List Int} (h1 : Has S H a (.li xs)) (h2 : Has S H b (.li ys)) (hl : xs.length + ys.length ≤ BIG) (q : ∀ l, Fresh H l → Q (.ref l) ((l, .li (xs ++ ys)) :: H)) : opW S .Add (.ref a) (.ref b) H Q := ⟨xs, ys, h1, h2, hl, q⟩
end
/-- the word of a loop, behind a turn -/
def inv (I : Nat → AM → AH → Prop) (k : Nat) : QN := fun ρ H => Weak (I k ρ) H
def invW (I : Nat → AM → AH → Prop) (n : Nat) : QN := fun ρ H => Weak (fun H' => ∃ k, k < n ∧ I k ρ H') H
theorem inv_ {I : Nat → AM → AH → Prop} {k : Nat} {ρ : AM} {H : AH} (h : I k ρ H) : inv I k ρ H := weak_of h
theorem invW_ {I : Nat → AM → AH → Prop} {n : Nat} {ρ : AM} {H : AH} (k : Nat) (hk : k < n) (h : I k ρ H) : invW I n ρ H := weak_of ⟨k, hk, h⟩
theorem loopW_t {x : String} {n : Nat} {it : Nat → AV} {body : AM → AH → QN → QV → XS → Prop} {ρ : AM} {H : AH} {Qn : QN} {Qr : QV} (I : Nat → AM → AH → Prop) (h0 : I 0 ρ H)
    (hs : ∀ k ρ₁ H₁, k < n → I k ρ₁ H₁ → body (mset ρ₁ x (it k)) H₁ (inv I (k + 1)) Qr (fun _ _ _ => False)) (he : ∀ ρ₁ H₁, I n ρ₁ H₁ → Qn ρ₁ H₁) : loopW x n it (fun _ => True) body ρ H Qn Qr := ⟨I, h0, fun _ _ _ _ _ => trivial, hs, he⟩
theorem whlW_ {c : AM → AH → QV → XV → Prop} {body : AM → AH → QN → QV → XS → Prop} {ρ : AM} {H : AH} {Qn : QN} {Qr : QV} (I : Nat → AM → AH → Prop) (n : Nat) (h0 : I n ρ H)
    (hs : ∀ n ρ₁ H₁, I n ρ₁ H₁ → c ρ₁ H₁ (fun u H₂ => truW u H₂ fun t H₃ => if t = true then body ρ₁ H₃ (invW I n) Qr (fun _ _ _ => False) else Qn ρ₁ H₃) (fun _ _ => False)) : whlW c body ρ H Qn Qr := ⟨I, ⟨n, h0⟩, hs⟩
theorem seqK_ {k : AM → AH → QN → QV → XS → Prop} {Qn : QN} {Qr : QV} {X : XS} {ρ : AM} {H : AH} (h : k ρ H Qn Qr X) : seqK k Qn Qr X ρ H := h

/-! the equations of W, WS at whole calls -/
section
variable {C : Cx} {ρ : AM} {H : AH} {Q : QV} {X : XV}
theorem W_int {i : _} : W C (.int i) ρ H Q X = (Q (.int i) H) := rfl
theorem W_str {x : _} : W C (.str x) ρ H Q X = (Q (.str x) H) := rfl
theorem W_bool {b : _} : W C (.bool b) ρ H Q X = (Q (.bool b) H) := rfl
theorem W_none : W C .none ρ H Q X = (Q .none H) := rfl
theorem W_typ {n : _} : W C (.typ n) ρ H Q X = (Q (.typ n) H) := rfl
theorem W_loc {x : _} : W C (.loc x) ρ H Q X = (∃ v, ρ x = some v ∧ Q v H) := rfl
theorem W_glob {x : _} : W C (.glob x) ρ H Q X = (∃ v, C.G x = some v ∧ Q v H) := rfl
theorem W_bin {op l r : _} : W C (.bin op l r) ρ H Q X = (W C l ρ H (fun u H₁ => W C r ρ H₁ (fun v H₂ => opW C.S op u v H₂ Q) X) X) := rfl
theorem W_neg {e : _} : W C (.neg e) ρ H Q X = (W C e ρ H (fun v H₁ => intW v fun i => Q (.int (-i)) H₁) X) := rfl
theorem W_not {e : _} : W C (.not e) ρ H Q X = (W C e ρ H (fun v H₁ => truW v H₁ fun b H₂ => Q (.bool (!b)) H₂) X) := rfl
theorem W_cmp {op l r : _} : W C (.cmp op l r) ρ H Q X = (W C l ρ H (fun u H₁ => W C r ρ H₁ (fun v H₂ => cmpW C.S op u v H₂ Q) X) X) := rfl
theorem W_and {l r : _} : W C (.and l r) ρ H Q X = (W C l ρ H (fun u H₁ => truW u H₁ fun b H₂ => if b = true then W C r ρ H₂ Q X else Q (.bool b) H₂) X) := rfl
theorem W_or {l r : _} : W C (.or l r) ρ H Q X = (W C l ρ H (fun u H₁ => truW u H₁ fun b H₂ => if b = true then Q (.bool b) H₂ else W C r ρ H₂ Q X) X) := rfl
theorem W_ife {c t e : _} : W C (.ife c t e) ρ H Q X = (W C c ρ H (fun u H₁ => truW u H₁ fun b H₂ => if b = true then W C t ρ H₂ Q X else W C e ρ H₂ Q X) X) := rfl
theorem W_idx {e i : _} : W C (.idx e i) ρ H Q X = (W C e ρ H (fun u H₁ => W C i ρ H₁ (fun v H₂ => idxW C.S u v H₂ Q) X) X) := rfl
theorem W_slAll {e : _} : W C (.slAll e) ρ H Q X = (W C e ρ H (fun u H₁ => sliceW C.S (fun xs => xs) u H₁ Q) X) := rfl
theorem W_slTo {e k : _} : W C (.slTo e k) ρ H Q X = (W C e ρ H (fun u H₁ => W C k ρ H₁ (fun v H₂ => intW v fun i => sliceW C.S (fun xs => xs.take (cutAt i xs.length)) u H₂ Q) X) X) := rfl
theorem W_slFrom {e k : _} : W C (.slFrom e k) ρ H Q X = (W C e ρ H (fun u H₁ => W C k ρ H₁ (fun v H₂ => intW v fun i => sliceW C.S (fun xs => xs.drop (cutAt i xs.length)) u H₂ Q) X) X) := rfl
theorem W_tup {es : _} : W C (.tup es) ρ H Q X = (WArgs C es ρ H (fun vs H₁ => ∀ l, Fresh H₁ l → Q (.ref l) ((l, .tup vs) :: H₁)) X) := rfl
theorem W_lst0 : W C .lst0 ρ H Q X = (∀ l, Fresh H l → Q (.ref l) ((l, .li []) :: H)) := rfl
theorem W_lst1 {e : _} : W C (.lst1 e) ρ H Q X = (W C e ρ H (fun v H₁ => ∀ l, Fresh H₁ l → match v with
      | .int i => Q (.ref l) ((l, .li [i]) :: H₁)
      | .str x => Q (.ref l) ((l, .ls [x]) :: H₁)
      | _ => False) X) := rfl
theorem W_call {f es : _} : W C (.call f es) ρ H Q X = (WArgs C es ρ H (fun vs H₁ => C.fn f vs H₁ Q X) X) := rfl
theorem W_len {e : _} : W C (.len e) ρ H Q X = (W C e ρ H (fun v H₁ => lenW C.S v H₁ Q) X) := rfl
theorem W_max {a b : _} : W C (.max a b) ρ H Q X = (W C a ρ H (fun u H₁ => W C b ρ H₁ (fun v H₂ => intW u fun i => intW v fun j => Q (.int (max i j)) H₂) X) X) := rfl
theorem W_min {a b : _} : W C (.min a b) ρ H Q X = (W C a ρ H (fun u H₁ => W C b ρ H₁ (fun v H₂ => intW u fun i => intW v fun j => Q (.int (min i j)) H₂) X) X) := rfl
theorem W_abs {e : _} : W C (.abs e) ρ H Q X = (W C e ρ H (fun v H₁ => intW v fun i => Q (.int i.natAbs) H₁) X) := rfl
theorem W_strOf {e : _} : W C (.strOf e) ρ H Q X = (W C e ρ H (fun v H₁ => intW v fun i => i.natAbs < 2 ^ 1000 ∧ Q (.str (Str.ofString (toString i))) H₁) X) := rfl
theorem W_typeOf {e : _} : W C (.typeOf e) ρ H Q X = (W C e ρ H (fun v H₁ => typW C.S v H₁ Q) X) := rfl
theorem W_boolOf {e : _} : W C (.boolOf e) ρ H Q X = (W C e ρ H (fun v H₁ => truW v H₁ fun b H₂ => Q (.bool b) H₂) X) := rfl
theorem W_append {o x : _} : W C (.append o x) ρ H Q X = (W C o ρ H (fun u H₁ => apW u H₁ (W C x ρ H₁ (fun v H₂ => appW u v H₂ Q) X)) X) := rfl
theorem W_zfill {o n : _} : W C (.zfill o n) ρ H Q X = (W C o ρ H (fun u H₁ => strW u fun _ => W C n ρ H₁ (fun v H₂ => zfillW u v H₂ Q) X) X) := rfl
theorem W_join {o e : _} : W C (.join o e) ρ H Q X = (W C o ρ H (fun u H₁ => strW u fun _ => W C e ρ H₁ (fun v H₂ => joinW C.S u v H₂ Q) X) X) := rfl
theorem W_allInt {e : _} : W C (.allInt e) ρ H Q X = (W C e ρ H (fun v H₁ => ∃ a xs, v = .ref a ∧ Has C.S H₁ a (.li xs) ∧ xs.length ≤ BIG ∧ Q (.bool true) H₁) X) := rfl
end
section
variable {C : Cx} {ρ : AM} {H : AH} {Q : List AV → AH → Prop} {X : XV}
theorem WArgs_nil : WArgs C .nil ρ H Q X = (Q [] H) := rfl
theorem WArgs_cons {e es : _} : WArgs C (.cons e es) ρ H Q X = (W C e ρ H (fun v H₁ => WArgs C es ρ H₁ (fun vs H₂ => Q (v :: vs) H₂) X) X) := rfl
end
section
variable {C : Cx} {ρ : AM} {H : AH} {Qn : QN} {Qr : QV} {X : XS}
theorem WS_skip : WS C .skip ρ H Qn Qr X = (Qn ρ H) := rfl
theorem WS_seq {a b : _} : WS C (.seq a b) ρ H Qn Qr X = (WS C a ρ H (seqK (WS C b) Qn Qr X) Qr X) := rfl
theorem WS_assign {x e : _} : WS C (.assign x e) ρ H Qn Qr X = (W C e ρ H (fun v H₁ => Qn (mset ρ x v) H₁) (fun c H₁ => X c ρ H₁)) := rfl
theorem WS_aug {x op e : _} : WS C (.aug x op e) ρ H Qn Qr X = (∃ u, ρ x = some u ∧ W C e ρ H (fun v H₁ => augW op u v H₁ fun r H₂ => Qn (mset ρ x r) H₂) (fun c H₁ => X c ρ H₁)) := rfl
theorem WS_setidx {o i e : _} : WS C (.setidx o i e) ρ H Qn Qr X = (W C e ρ H (fun v H₁ => W C o ρ H₁ (fun u H₂ => W C i ρ H₂ (fun k H₃ => setW u k v H₃ fun H₄ => Qn ρ H₄) (fun c H₁ => X c ρ H₁)) (fun c H₁ => X c ρ H₁)) (fun c H₁ => X c ρ H₁)) := rfl
theorem WS_unpack {x y e : _} : WS C (.unpack x y e) ρ H Qn Qr X = (W C e ρ H (fun v H₁ => ∃ a u w, v = .ref a ∧ Has C.S H₁ a (.tup [u, w]) ∧ Qn (mset (mset ρ x u) y w) H₁) (fun c H₁ => X c ρ H₁)) := rfl
theorem WS_swap {x y a b : _} : WS C (.swap x y a b) ρ H Qn Qr X = (W C a ρ H (fun u H₁ => W C b ρ H₁ (fun w H₂ => Qn (mset (mset ρ y w) x u) H₂) (fun c H₁ => X c ρ H₁)) (fun c H₁ => X c ρ H₁)) := rfl
theorem WS_expr {e : _} : WS C (.expr e) ρ H Qn Qr X = (W C e ρ H (fun v H₁ => (∀ a, v ≠ .ref a) ∧ Qn ρ H₁) (fun c H₁ => X c ρ H₁)) := rfl
theorem WS_ite {c t e : _} : WS C (.ite c t e) ρ H Qn Qr X = (W C c ρ H (fun u H₁ => truW u H₁ fun b H₂ => if b = true then WS C t ρ H₂ Qn Qr X else WS C e ρ H₂ Qn Qr X) (fun c H₁ => X c ρ H₁)) := rfl
theorem WS_ret {e : _} : WS C (.ret e) ρ H Qn Qr X = (W C e ρ H Qr (fun c H₁ => X c ρ H₁)) := rfl
theorem WS_whl {c b : _} : WS C (.whl c b) ρ H Qn Qr X = (whlW (W C c) (WS C b) ρ H Qn Qr) := rfl
theorem WS_for1 {x e b : _} : WS C (.for1 x e b) ρ H Qn Qr X = (W C e ρ H (fun v H₁ => intW v fun n => -BIG ≤ n ∧ n ≤ BIG ∧ loopW x n.toNat (fun k => .int k) (fun _ => True) (WS C b) ρ H₁ Qn Qr) (fun c H₁ => X c ρ H₁)) := rfl
theorem WS_for2 {x lo hi b : _} : WS C (.for2 x lo hi b) ρ H Qn Qr X = (W C lo ρ H (fun u H₁ => W C hi ρ H₁ (fun v H₂ => intW u fun i => intW v fun j => -BIG ≤ i ∧ i ≤ BIG ∧ -BIG ≤ j ∧ j ≤ BIG ∧
      loopW x (j - i).toNat (fun k => .int (i + k)) (fun _ => True) (WS C b) ρ H₂ Qn Qr) (fun c H₁ => X c ρ H₁)) (fun c H₁ => X c ρ H₁)) := rfl
theorem WS_forDown {x e b : _} : WS C (.forDown x e b) ρ H Qn Qr X = (W C e ρ H (fun v H₁ => intW v fun n => -BIG ≤ n ∧ n ≤ BIG ∧ loopW x (n + 1).toNat (fun k => .int (n - k)) (fun _ => True) (WS C b) ρ H₁ Qn Qr) (fun c H₁ => X c ρ H₁)) := rfl
theorem WS_forList {x e b : _} : WS C (.forList x e b) ρ H Qn Qr X = (W C e ρ H (fun v H₁ => ∃ a xs, v = .ref a ∧ xs.length ≤ BIG ∧
      loopW x xs.length (fun k => .int (xs.getD k 0)) (fun H₂ => Has C.S H₂ a (.li xs)) (WS C b) ρ H₁ Qn Qr) (fun c H₁ => X c ρ H₁)) := rfl
theorem WS_raise {c u0 : _} : WS C (.raise c u0) ρ H Qn Qr X = (X c ρ H) := rfl
theorem WS_try1 {b c h : _} : WS C (.try1 b c h) ρ H Qn Qr X = (WS C b ρ H Qn Qr (fun k ρ₁ H₁ => k = c ∧ WS C h ρ₁ H₁ Qn Qr X)) := rfl
end

/-! the words on known values -/
section
variable {S H : AH} {Q : QV} {a b : Int} {c d : Bool} {x y : Str} {s t : String} {T : Bool → AH → Prop} {P : Int → Prop}
theorem op_add : opW S .Add (.int a) (.int b) H Q = Q (.int (a + b)) H := rfl
theorem op_sub : opW S .Sub (.int a) (.int b) H Q = Q (.int (a - b)) H := rfl
theorem op_mul : opW S .Mult (.int a) (.int b) H Q = (MulOk a b ∧ Q (.int (a * b)) H) := rfl
theorem op_div : opW S .FloorDiv (.int a) (.int b) H Q = (0 < b ∧ Q (.int (a / b)) H) := rfl
theorem op_mod : opW S .Mod (.int a) (.int b) H Q = (0 < b ∧ Q (.int (a % b)) H) := rfl
theorem op_pow : opW S .Pow (.int a) (.int b) H Q = (PowOk a b ∧ Q (.int (a ^ b.toNat)) H) := rfl
theorem aug_add : augW .Add (.int a) (.int b) H Q = Q (.int (a + b)) H := rfl
theorem aug_sub : augW .Sub (.int a) (.int b) H Q = Q (.int (a - b)) H := rfl
theorem cmp_lt : cmpW S .Lt (.int a) (.int b) H Q = Q (.bool (decide (a < b))) H := rfl
theorem cmp_le : cmpW S .LtE (.int a) (.int b) H Q = Q (.bool (decide (a ≤ b))) H := rfl
theorem cmp_gt : cmpW S .Gt (.int a) (.int b) H Q = Q (.bool (decide (b < a))) H := rfl
theorem cmp_ge : cmpW S .GtE (.int a) (.int b) H Q = Q (.bool (decide (b ≤ a))) H := rfl
theorem cmp_eq : cmpW S .Eq (.int a) (.int b) H Q = Q (.bool (decide (a = b))) H := rfl
theorem cmp_ne : cmpW S .NotEq (.int a) (.int b) H Q = Q (.bool (!decide (a = b))) H := rfl
theorem cmp_eqb : cmpW S .Eq (.bool c) (.bool d) H Q = Q (.bool (c == d)) H := rfl
theorem cmp_neb : cmpW S .NotEq (.bool c) (.bool d) H Q = Q (.bool (c != d)) H := rfl
theorem cmp_isb : cmpW S .Is (.bool c) (.bool d) H Q = Q (.bool (c == d)) H := rfl
theorem cmp_isnotb : cmpW S .IsNot (.bool c) (.bool d) H Q = Q (.bool (c != d)) H := rfl
theorem cmp_isn : cmpW S .Is .none (.bool d) H Q = Q (.bool false) H := rfl
theorem cmp_isnotn : cmpW S .IsNot .none (.bool d) H Q = Q (.bool true) H := rfl
theorem cmp_ist : cmpW S .Is (.typ s) (.typ t) H Q = Q (.bool (s == t)) H := rfl
theorem cmp_isnott : cmpW S .IsNot (.typ s) (.typ t) H Q = Q (.bool (s != t)) H := rfl
theorem cmp_eqs : cmpW S .Eq (.str x) (.str y) H Q = Q (.bool (x == y)) H := rfl
theorem cmp_nes : cmpW S .NotEq (.str x) (.str y) H Q = Q (.bool (x != y)) H := rfl
theorem tru_b : truW (.bool c) H T = T c H := rfl
theorem int_i : intW (.int a) P = P a := rfl
theorem str_i {P : Str → Prop} : strW (.str x) P = P x := rfl
end

theorem mset_eq (ρ : AM) (x : String) (v : AV) (y : String) : mset ρ x v y = if y = x then some v else ρ y := rfl
theorem bind_cons (p : String) (ps : List String) (v : AV) (vs : List AV) : bindM (p :: ps) (v :: vs) = mset (bindM ps vs) p v := rfl
theorem bind_nil : bindM [] [] = fun _ => none := rfl
theorem ex_eq {a : AV} {p : AV → Prop} : (∃ v, some a = some v ∧ p v) = p a := by simp
theorem ap_li {a : Nat} {xs : List Int} {H : AH} {K : Prop} : apW (.ref a) ((a, .li xs) :: H) K = K := by
  unfold apW
  refine propext ⟨fun h => h.2, fun h => ⟨⟨a, _, rfl, .head _, .inl ⟨_, rfl⟩⟩, h⟩⟩
theorem ap_ls {a : Nat} {xs : List Str} {H : AH} {K : Prop} : apW (.ref a) ((a, .ls xs) :: H) K = K := by
  unfold apW
  refine propext ⟨fun h => h.2, fun h => ⟨⟨a, _, rfl, .head _, .inr ⟨_, rfl⟩⟩, h⟩⟩
theorem apW_ {a : Nat} {xs : List Int} {H : AH} {K : Prop} (hm : (a, .li xs) ∈ H) (h : K) : apW (.ref a) H K := ⟨⟨a, _, rfl, hm, .inl ⟨_, rfl⟩⟩, h⟩
theorem not_ref_none : (∀ a, AV.none ≠ AV.ref a) = True := by simp
/-- the equations that a step of the walk uses -/
theorem wE : type_of% (And.intro @W_int (And.intro @W_str (And.intro @W_bool (And.intro @W_none (And.intro @W_typ (And.intro @W_loc (And.intro @W_glob (And.intro @W_bin (And.intro @W_neg (And.intro @W_not (And.intro @W_cmp (And.intro @W_and (And.intro @W_or (And.intro @W_ife (And.intro @W_idx (And.intro @W_slAll (And.intro @W_slTo (And.intro @W_slFrom (And.intro @W_tup (And.intro @W_lst0 (And.intro @W_lst1 (And.intro @W_call (And.intro @W_len (And.intro @W_max (And.intro @W_min (And.intro @W_abs (And.intro @W_strOf (And.intro @W_typeOf (And.intro @W_boolOf (And.intro @W_append (And.intro @W_zfill (And.intro @W_join (And.intro @W_allInt (And.intro @WArgs_nil (And.intro @WArgs_cons (And.intro @WS_skip (And.intro @WS_seq (And.intro @WS_assign (And.intro @WS_aug (And.intro @WS_setidx (And.intro @WS_unpack (And.intro @WS_swap (And.intro @WS_expr (And.intro @WS_ite (And.intro @WS_ret (And.intro @WS_whl (And.intro @WS_for1 (And.intro @WS_for2 (And.intro @WS_forDown (And.intro @WS_forList (And.intro @WS_raise (And.intro @WS_try1 (And.intro @op_add (And.intro @op_sub (And.intro @op_mul (And.intro @op_div (And.intro @op_mod (And.intro @op_pow (And.intro @aug_add (And.intro @aug_sub (And.intro @cmp_lt (And.intro @cmp_le (And.intro @cmp_gt (And.intro @cmp_ge (And.intro @cmp_eq (And.intro @cmp_ne (And.intro @cmp_eqb (And.intro @cmp_neb (And.intro @cmp_isb (And.intro @cmp_isnotb (And.intro @cmp_isn (And.intro @cmp_isnotn (And.intro @cmp_ist (And.intro @cmp_isnott (And.intro @cmp_eqs (And.intro @cmp_nes (And.intro @tru_b (And.intro @int_i (And.intro @str_i (And.intro @mset_eq (And.intro @bind_cons (And.intro @bind_nil (And.intro @ex_eq (And.intro @ap_li (And.intro @ap_ls @not_ref_none))))))))))))))))))))))))))))))))))))))))))))))))))))))))))))))))))))))))))))))))))))) := (And.intro @W_int (And.intro @W_str (And.intro @W_bool (And.intro @W_none (And.intro @W_typ (And.intro @W_loc (And.intro @W_glob (And.intro @W_bin (And.intro @W_neg (And.intro @W_not (And.intro @W_cmp (And.intro @W_and (And.intro @W_or (And.intro @W_ife (And.intro @W_idx (And.intro @W_slAll (And.intro @W_slTo (And.intro @W_slFrom (And.intro @W_tup (And.intro @W_lst0 (And.intro @W_lst1 (And.intro @W_call (And.intro @W_len (And.intro @W_max (And.intro @W_min (And.intro @W_abs (And.intro @W_strOf (And.intro @W_typeOf (And.intro @W_boolOf (And.intro @W_append (And.intro @W_zfill (And.intro @W_join (And.intro @W_allInt (And.intro @WArgs_nil (And.intro @WArgs_cons (And.intro @WS_skip (And.intro @WS_seq (And.intro @WS_assign (And.intro @WS_aug (And.intro @WS_setidx (And.intro @WS_unpack (And.intro @WS_swap (And.intro @WS_expr (And.intro @WS_ite (And.intro @WS_ret (And.intro @WS_whl (And.intro @WS_for1 (And.intro @WS_for2 (And.intro @WS_forDown (And.intro @WS_forList (And.intro @WS_raise (And.intro @WS_try1 (And.intro @op_add (And.intro @op_sub (And.intro @op_mul (And.intro @op_div (And.intro @op_mod (And.intro @op_pow (And.intro @aug_add (And.intro @aug_sub (And.intro @cmp_lt (And.intro @cmp_le (And.intro @cmp_gt (And.intro @cmp_ge (And.intro @cmp_eq (And.intro @cmp_ne (And.intro @cmp_eqb (And.intro @cmp_neb (And.intro @cmp_isb (And.intro @cmp_isnotb (And.intro @cmp_isn (And.intro @cmp_isnotn (And.intro @cmp_ist (And.intro @cmp_isnott (And.intro @cmp_eqs (And.intro @cmp_nes (And.intro @tru_b (And.intro @int_i (And.intro @str_i (And.intro @mset_eq (And.intro @bind_cons (And.intro @bind_nil (And.intro @ex_eq (And.intro @ap_li (And.intro @ap_ls @not_ref_none)))))))))))))))))))))))))))))))))))))))))))))))))))))))))))))))))))))))))))))))))))))
end
section
open PySem
theorem getD_out {xs : List Int} {k : Nat} (h : xs.length ≤ k) : xs.getD k 0 = 0 := by
  rw [List.getD_eq_getElem?_getD, List.getElem?_eq_none h]; rfl
theorem val_take_succ' (xs : List Int) (k : Nat) : val (xs.take (k + 1)) = val (xs.take k) + 10000 ^ k * xs.getD k 0 := by
  by_cases h : k < xs.length
  · exact val_take_succ xs k h
  · rw [getD_out (by omega), List.take_of_length_le (by omega), List.take_of_length_le (by omega)]; omega
theorem len1000 {n : Nat} (h : n ≤ 1000) : n ≤ BIG := by unfold BIG; omega
theorem pow_cast (k : Nat) : ((10000 ^ k : Nat) : Int) = (10000 : Int) ^ k := by simp
theorem top0_snoc {xs : List Int} {c : Int} (h : c ≠ 0) : Top0 (xs ++ [c]) := by
  refine .inr ?_
  simp [List.getD_eq_getElem?_getD, h]

def b_add : PS :=
  (.seq (.assign "total" .lst0)
  (.seq (.assign "carry" (.int 0))
  (.seq (.for1 "i" (.max (.len (.loc "a")) (.len (.loc "b"))) (.seq (.assign "t" (.loc "carry"))
  (.seq (.ite (.cmp .Lt (.loc "i") (.len (.loc "a"))) (.aug "t" .Add (.idx (.loc "a") (.loc "i"))) .skip)
  (.seq (.ite (.cmp .Lt (.loc "i") (.len (.loc "b"))) (.aug "t" .Add (.idx (.loc "b") (.loc "i"))) .skip)
  (.seq (.expr (.append (.loc "total") (.bin .Mod (.loc "t") (.glob "BASE"))))
  (.assign "carry" (.bin .FloorDiv (.loc "t") (.glob "BASE"))))))))
  (.seq (.ite (.cmp .Gt (.loc "carry") (.int 0)) (.expr (.append (.loc "total") (.loc "carry"))) .skip)
  (.ret (.loc "total"))))))

end
section
open PySem
def b_trimmed : PS :=
  (.seq (.assign "n" (.len (.loc "a")))
  (.seq (.whl (.and (.cmp .Gt (.loc "n") (.int 0)) (.cmp .Eq (.idx (.loc "a") (.bin .Sub (.loc "n") (.int 1))) (.int 0))) (.aug "n" .Sub (.int 1)))
  (.ret (.slTo (.loc "a") (.loc "n")))))

def b_from_int : PS :=
  (.seq (.assign "limbs" .lst0)
  (.seq (.whl (.cmp .Gt (.loc "n") (.int 0)) (.seq (.expr (.append (.loc "limbs") (.bin .Mod (.loc "n") (.glob "BASE"))))
  (.assign "n" (.bin .FloorDiv (.loc "n") (.glob "BASE")))))
  (.ret (.loc "limbs"))))

def b_to_int : PS :=
  (.seq (.assign "n" (.int 0))
  (.seq (.forDown "i" (.bin .Sub (.len (.loc "a")) (.int 1)) (.assign "n" (.bin .Add (.bin .Mult (.loc "n") (.glob "BASE")) (.idx (.loc "a") (.loc "i")))))
  (.ret (.loc "n"))))

def b_is_natural : PS :=
  (.seq (.forList "limb" (.loc "a") (.ite (.or (.cmp .Lt (.loc "limb") (.int 0)) (.cmp .GtE (.loc "limb") (.glob "BASE"))) (.ret (.bool false)) .skip))
  (.ret (.or (.cmp .Eq (.len (.loc "a")) (.int 0)) (.cmp .NotEq (.idx (.loc "a") (.bin .Sub (.len (.loc "a")) (.int 1))) (.int 0)))))

def b_compare : PS :=
  (.seq (.ite (.cmp .NotEq (.len (.loc "a")) (.len (.loc "b"))) (.ret (.ife (.cmp .Lt (.len (.loc "a")) (.len (.loc "b"))) (.neg (.int 1)) (.int 1))) .skip)
  (.seq (.forDown "i" (.bin .Sub (.len (.loc "a")) (.int 1)) (.ite (.cmp .NotEq (.idx (.loc "a") (.loc "i")) (.idx (.loc "b") (.loc "i"))) (.ret (.ife (.cmp .Lt (.idx (.loc "a") (.loc "i")) (.idx (.loc "b") (.loc "i"))) (.neg (.int 1)) (.int 1))) .skip))
  (.ret (.int 0))))

theorem cutAt_nat (n : Nat) (k : Int) (h0 : 0 ≤ k) (h1 : k ≤ n) : cutAt k n = k.toNat := by
  unfold cutAt; rw [if_neg (by omega)]; omega

theorem trimmed_spec (w : Wd) (hd : w.Def "trimmed" ["a"] b_trimmed) {lv : Nat} {a : Nat} {xs : List Int} {H : AH} {Q : QV} {X : XV}
    (ha : Has w.S H a (.li xs)) (hx : Lim xs) (hm : xs.length ≤ BIG)
    (hQ : ∀ l, Fresh H l → Q (.ref l) ((l, .li (dig (val xs).toNat)) :: H)) : w.fn (lv + 1) "trimmed" [.ref a] H Q X := by
  refine hd.step rfl ?_
  unfold b_trimmed
  simp only [wE, String.reduceEq, ↓reduceIte, true_and, Bool.false_eq_true, decide_eq_true_eq, Bool.not_eq_true', decide_eq_false_iff_not, ite_not]
  refine lenW_ints ha hm ?_
  (refine seqK_ ?_; simp only [wE, String.reduceEq, ↓reduceIte, true_and, Bool.false_eq_true, decide_eq_true_eq, Bool.not_eq_true', decide_eq_false_iff_not, ite_not])
  refine whlW_ (fun n ρ H' => H' = H ∧ ρ "a" = some (.ref a) ∧ ρ "n" = some (.int n) ∧ n ≤ xs.length ∧ ∀ k, n ≤ k → k < xs.length → xs.getD k 0 = 0) xs.length ⟨rfl, rfl, rfl, Nat.le_refl _, fun k h1 h2 => by omega⟩ ?_
  rintro n ρ H' ⟨rfl, h1, h2, h3, h4⟩
  have fin : (n = 0 ∨ xs.getD (n - 1) 0 ≠ 0) → seqK (WS { S := w.S, G := w.G, fn := w.fn lv } (PS.ret ((PE.loc "a").slTo (PE.loc "n")))) (fun _ H' => Weak (Q .none) H') (fun v H' => Weak (Q v) H') (fun c _ H' => Weak (X c) H') ρ H' := by
    intro hz
    (refine seqK_ ?_; simp only [wE, String.reduceEq, ↓reduceIte, true_and, Bool.false_eq_true, decide_eq_true_eq, Bool.not_eq_true', decide_eq_false_iff_not, ite_not, h1, h2])
    refine sliceW_ ha hm fun l hl => weak_of ?_
    rw [cutAt_nat _ _ (by omega) (by omega), show ((n : Int)).toNat = n by omega, trim_eq hx h3 h4 hz]
    exact hQ l hl
  simp only [wE, String.reduceEq, ↓reduceIte, true_and, Bool.false_eq_true, decide_eq_true_eq, Bool.not_eq_true', decide_eq_false_iff_not, ite_not, h1, h2]
  split
  · refine idxW_ints ha hm (by omega) (by omega) ?_
    simp only [wE, String.reduceEq, ↓reduceIte, true_and, Bool.false_eq_true, decide_eq_true_eq, Bool.not_eq_true', decide_eq_false_iff_not, ite_not]
    rw [show ((n : Int) - 1).toNat = n - 1 by omega]
    split
    · refine invW_ (n - 1) (by omega) ⟨rfl, h1, ?_, by omega, fun k h5 h6 => ?_⟩
      · show some (AV.int ((n : Int) - 1)) = _
        rw [show ((n - 1 : Nat) : Int) = (n : Int) - 1 by omega]
      · rcases Nat.lt_or_ge k n with h7 | h7
        · rw [show k = n - 1 by omega]; assumption
        · exact h4 k h7 h6
    · exact fin (.inr ‹_›)
  · exact fin (.inl (by omega))

end
section
open PySem
/-- what compare says -/
def cmpN (m n : Nat) : Int := if m < n then -1 else if m = n then 0 else 1

def b_sub : PS :=
  (.seq (.ite (.cmp .Lt (.call "compare" (.cons (.loc "a") (.cons (.loc "b") .nil))) (.int 0)) (.raise "ValueError" (Str.ofString "cannot take a greater natural from a lesser one")) .skip)
  (.seq (.assign "rest" .lst0)
  (.seq (.assign "borrow" (.int 0))
  (.seq (.for1 "i" (.len (.loc "a")) (.seq (.assign "t" (.bin .Sub (.idx (.loc "a") (.loc "i")) (.loc "borrow")))
  (.seq (.ite (.cmp .Lt (.loc "i") (.len (.loc "b"))) (.aug "t" .Sub (.idx (.loc "b") (.loc "i"))) .skip)
  (.seq (.assign "borrow" (.int 0))
  (.seq (.ite (.cmp .Lt (.loc "t") (.int 0)) (.seq (.aug "t" .Add (.glob "BASE"))
  (.assign "borrow" (.int 1))) .skip)
  (.expr (.append (.loc "rest") (.loc "t"))))))))
  (.ret (.call "trimmed" (.cons (.loc "rest") .nil)))))))

end
section
open PySem
def b_mul_small : PS :=
  (.seq (.ite (.cmp .Eq (.loc "d") (.int 0)) (.ret .lst0) .skip)
  (.seq (.assign "product" .lst0)
  (.seq (.assign "carry" (.int 0))
  (.seq (.forList "limb" (.loc "a") (.seq (.assign "t" (.bin .Add (.bin .Mult (.loc "limb") (.loc "d")) (.loc "carry")))
  (.seq (.expr (.append (.loc "product") (.bin .Mod (.loc "t") (.glob "BASE"))))
  (.assign "carry" (.bin .FloorDiv (.loc "t") (.glob "BASE"))))))
  (.seq (.ite (.cmp .Gt (.loc "carry") (.int 0)) (.expr (.append (.loc "product") (.loc "carry"))) .skip)
  (.ret (.loc "product")))))))

def b_shifted : PS :=
  (.seq (.ite (.cmp .Eq (.len (.loc "a")) (.int 0)) (.ret .lst0) .skip)
  (.ret (.bin .Add (.bin .Mult (.lst1 (.int 0)) (.loc "k")) (.loc "a"))))

def b_split_at : PS :=
  (.ret (.tup (.cons (.call "trimmed" (.cons (.slTo (.loc "a") (.loc "k")) .nil)) (.cons (.slFrom (.loc "a") (.loc "k")) .nil))))

/-- the cut falls at j limbs -/
theorem split_at_spec (w : Wd) (hd : w.Def "split_at" ["a", "k"] b_split_at) (ht : w.Def "trimmed" ["a"] b_trimmed) {lv : Nat} {a m : Nat} {k : Int} {H : AH} {Q : QV} {X : XV}
    (ha : Has w.S H a (.li (dig m))) (hm : (dig m).length ≤ 1000)
    (hQ : ∀ t l1 l2, Fresh H t → Fresh H l1 → Fresh H l2 → Q (.ref t) ((t, .tup [.ref l1, .ref l2]) :: (l1, .li (dig (m % 10000 ^ cutAt k (dig m).length))) :: (l2, .li (dig (m / 10000 ^ cutAt k (dig m).length))) :: H)) :
    w.fn (lv + 2) "split_at" [.ref a, .int k] H Q X := by
  refine hd.step rfl ?_
  unfold b_split_at
  simp only [wE, String.reduceEq, ↓reduceIte, true_and, Bool.false_eq_true, decide_eq_true_eq, Bool.not_eq_true', decide_eq_false_iff_not, ite_not]
  refine sliceW_ ha (len1000 hm) fun l hl => ?_
  refine trimmed_spec w ht Has.head ((lim_dig m).take _) (by unfold BIG; rw [List.length_take]; omega) fun l1 hl1 => ?_
  rw [dig_take, show (((m % 10000 ^ cutAt k (dig m).length : Nat) : Int)).toNat = m % 10000 ^ cutAt k (dig m).length from rfl]
  refine sliceW_ (Has.cons (Has.cons ha)) (len1000 hm) fun l2 hl2 => ?_
  intro t hft
  rw [dig_drop]
  refine weak_sub (fun p hp => ?_) (hQ t l1 l2 hft.tail.tail.tail hl1.tail hl2.tail.tail)
  rcases List.mem_cons.mp hp with rfl | hp
  · exact .head _
  rcases List.mem_cons.mp hp with rfl | hp
  · exact .tail _ (.tail _ (.head _))
  rcases List.mem_cons.mp hp with rfl | hp
  · exact .tail _ (.head _)
  · exact .tail _ (.tail _ (.tail _ (.tail _ hp)))
end
section
open PySem
def b_mul_school : PS :=
  (.seq (.assign "row" (.bin .Mult (.lst1 (.int 0)) (.bin .Add (.len (.loc "a")) (.len (.loc "b")))))
  (.seq (.for1 "i" (.len (.loc "a")) (.seq (.assign "carry" (.int 0))
  (.seq (.for1 "j" (.len (.loc "b")) (.seq (.assign "t" (.bin .Add (.bin .Add (.idx (.loc "row") (.bin .Add (.loc "i") (.loc "j"))) (.bin .Mult (.idx (.loc "a") (.loc "i")) (.idx (.loc "b") (.loc "j")))) (.loc "carry")))
  (.seq (.setidx (.loc "row") (.bin .Add (.loc "i") (.loc "j")) (.bin .Mod (.loc "t") (.glob "BASE")))
  (.assign "carry" (.bin .FloorDiv (.loc "t") (.glob "BASE"))))))
  (.setidx (.loc "row") (.bin .Add (.loc "i") (.len (.loc "b"))) (.loc "carry")))))
  (.ret (.call "trimmed" (.cons (.loc "row") .nil)))))

end
section
open PySem PySem.W PySem.Spec PySem.Calls PyProof.Rows
/-! what an abstract value, object, map, ledger says of the real ones -/
def AV.R : AV → Value → Prop
  | .int i, v => ∃ t, v = .int i t
  | .bool b, v => v = .bool b
  | .none, v => v = .none
  | .str x, v => ∃ t, v = .str x t
  | .ref a, v => v = .ref a
  | .typ n, v => v = .type n
inductive AllR : List AV → List Value → Prop
  | nil : AllR [] []
  | cons {a : AV} {v : Value} {as : List AV} {vs : List Value} : a.R v → AllR as vs → AllR (a :: as) (v :: vs)
theorem all1 {as : List AV} {vs : List Value} {a : AV} (h : AllR [a] vs) : ∃ v, vs = [v] ∧ a.R v := by
  cases h with | cons h1 h2 => cases h2; exact ⟨_, rfl, h1⟩
theorem all2 {vs : List Value} {a b : AV} (h : AllR [a, b] vs) : ∃ u v, vs = [u, v] ∧ a.R u ∧ b.R v := by
  cases h with | cons h1 h2 => cases h2 with | cons h3 h4 => cases h4; exact ⟨_, _, rfl, h1, h3⟩

abbrev tupOf (its : Array Value) (n : Nat) : Obj := { cls := .type "tuple", data := .seq its n }
def AO.R : AO → Obj → Prop
  | .li xs, o => ∃ vs n, o = listOf (List.toArray vs) n ∧ IntsAre vs xs
  | .ls xs, o => ∃ vs n, o = listOf (List.toArray vs) n ∧ StrsAre vs xs
  | .tup as, o => ∃ vs n, o = tupOf (List.toArray vs) n ∧ AllR as vs
/-- the object as it is read at a heap -/
def View (h : Heap) (a : Addr) : AO → Prop
  | .li xs => ∃ vs, h.IsList a (List.toArray vs) ∧ IntsAre vs xs
  | .ls xs => ∃ vs, h.IsList a (List.toArray vs) ∧ StrsAre vs xs
  | .tup as => ∃ vs, IsTup h a (List.toArray vs) ∧ AllR as vs
theorem View.keeps {h h' : Heap} {a : Addr} {o : AO} (x : View h a o) (hk : ∀ b o, h.get? b = some o → h'.get? b = some o) : View h' a o := by
  cases o with
  | li xs => obtain ⟨vs, h1, h2⟩ := x; exact ⟨vs, h1.at fun o e => hk _ o e, h2⟩
  | ls xs => obtain ⟨vs, h1, h2⟩ := x; exact ⟨vs, h1.at fun o e => hk _ o e, h2⟩
  | tup as => obtain ⟨vs, h1, h2⟩ := x; exact ⟨vs, h1.keeps hk, h2⟩
theorem View.of {h : Heap} {a : Addr} {o : AO} {ob : Obj} (hr : o.R ob) (hg : h.get? a = some ob) : View h a o := by
  cases o with
  | li xs => obtain ⟨vs, n, rfl, h2⟩ := hr; exact ⟨vs, ⟨_, hg, rfl, _, rfl⟩, h2⟩
  | ls xs => obtain ⟨vs, n, rfl, h2⟩ := hr; exact ⟨vs, ⟨_, hg, rfl, _, rfl⟩, h2⟩
  | tup as => obtain ⟨vs, n, rfl, h2⟩ := hr; exact ⟨vs, ⟨_, hg, rfl, _, rfl⟩, h2⟩

def MRel (ρ : AM) (m : Str → Option Value) : Prop := ∀ x av, ρ x = some av → ∃ v, m (Str.ofString x) = some v ∧ av.R v
def HRel (H : AH) (news : List (Addr × Obj)) : Prop := ∀ a o, (a, o) ∈ H → ∃ ob, (a, ob) ∈ news ∧ o.R ob
def Apart (news R : List (Addr × Obj)) : Prop := ∀ p ∈ news, ∀ q ∈ R, p.1 ≠ q.1
/-- the state: the frame's map, the ledger, and what else must stand -/
def Sim (h₀ : Heap) (L : Addr) (ρ : AM) (H : AH) (R : List (Addr × Obj)) (h : Heap) : Prop :=
  ∃ m news, Fr h₀ L h m ∧ MRel ρ m ∧ News h₀ L h (news ++ R) ∧ HRel H news ∧ Apart news R

section
variable {h₀ h h' : Heap} {L : Addr} {ρ : AM} {H : AH} {R : List (Addr × Obj)}
theorem Sim.weak {H' : AH} (s : Sim h₀ L ρ H R h) (hs : ∀ p ∈ H', p ∈ H) : Sim h₀ L ρ H' R h := by
  obtain ⟨m, news, F, M, N, hr, ap⟩ := s
  exact ⟨m, news, F, M, N, fun a o hm => hr a o (hs _ hm), ap⟩
theorem Sim.keeps (s : Sim h₀ L ρ H R h) (hk : ∀ b o, h.get? b = some o → h'.get? b = some o) : Sim h₀ L ρ H R h' := by
  obtain ⟨m, news, F, M, N, hr, ap⟩ := s
  exact ⟨m, news, F.grownK hk, M, fun p hp => ⟨hk _ _ (N p hp).1, (N p hp).2⟩, hr, ap⟩
theorem Sim.view {S : AH} {a : Nat} {o : AO} (s : Sim h₀ L ρ H R h) (hS : ∀ a o, (a, o) ∈ S → View h₀ a o) (hh : Has S H a o) : View h a o := by
  obtain ⟨m, news, F, M, N, hr, ap⟩ := s
  rcases hh with hh | hh
  · exact (hS a o hh).keeps F.keep
  · obtain ⟨ob, h1, h2⟩ := hr a o hh
    exact .of h2 (N _ (List.mem_append_left _ h1)).1
/-- a new object -/
theorem Sim.push {o : AO} {ob : Obj} (s : Sim h₀ L ρ H R h) (hr : o.R ob) (hf : ob.isFreed = false) : Sim h₀ L ρ ((h.objs.size, o) :: H) R (h.push ob) := by
  obtain ⟨m, news, F, M, N, hh, ap⟩ := s
  refine ⟨m, (h.objs.size, ob) :: news, F.push _, M, ?_, fun a o' hm => ?_, fun p hp q hq => ?_⟩
  · exact News.push F N ob hf
  · rcases List.mem_cons.mp hm with e | hm
    · cases e; exact ⟨ob, .head _, hr⟩
    · obtain ⟨ob', h1, h2⟩ := hh a o' hm; exact ⟨ob', .tail _ h1, h2⟩
  · rcases List.mem_cons.mp hp with rfl | hp
    · exact Nat.ne_of_gt (Heap.lt_size (N q (List.mem_append_right _ hq)).1)
    · exact ap p hp q hq
theorem Sim.fresh (s : Sim h₀ L ρ H R h) : Fresh H h.objs.size := by
  obtain ⟨m, news, F, M, N, hr, ap⟩ := s
  intro p hp
  obtain ⟨ob, h1, _⟩ := hr p.1 p.2 hp
  exact Heap.lt_size (N _ (List.mem_append_left _ h1)).1
/-- an object of the ledger changed -/
theorem Sim.upd {a : Addr} {o : AO} {ob ob' : Obj} (s : Sim h₀ L ρ H R h) (hm : ∃ o₀, (a, o₀) ∈ H) (_hg : h.get? a = some ob) (hs : Heap.SameBut a h h') (hg' : h'.get? a = some ob') (hr : o.R ob') : Sim h₀ L ρ (hupd H a o) R h' := by
  obtain ⟨m, news, F, M, N, hh, ap⟩ := s
  obtain ⟨o₀, ho₀⟩ := hm
  obtain ⟨ob₀, h1, _⟩ := hh a o₀ ho₀
  have z := N _ (List.mem_append_left _ h1)
  refine ⟨m, news.map (fun p => if p.1 = a then (a, ob') else p), F.change hs z.2.1 z.2.2, M, fun p hp => ?_, fun b o' hb => ?_, fun p hp q hq => ?_⟩
  · rcases List.mem_append.mp hp with hp | hp
    · obtain ⟨q, hq, rfl⟩ := List.mem_map.mp hp
      by_cases e : q.1 = a
      · rw [if_pos e]; exact ⟨hg', z.2⟩
      · rw [if_neg e]
        have y := N q (List.mem_append_left _ hq)
        exact ⟨(hs.2 _ e).trans y.1, y.2⟩
    · have y := N p (List.mem_append_right _ hp)
      exact ⟨(hs.2 _ (Ne.symm (ap _ h1 p hp))).trans y.1, y.2⟩
  · obtain ⟨q, hq, e⟩ := List.mem_map.mp hb
    by_cases e' : q.1 = a
    · rw [if_pos e'] at e
      cases e
      exact ⟨ob', List.mem_map.mpr ⟨_, h1, if_pos rfl⟩, hr⟩
    · rw [if_neg e'] at e
      subst e
      obtain ⟨ob₁, h3, h4⟩ := hh b o' hq
      exact ⟨ob₁, List.mem_map.mpr ⟨_, h3, if_neg e'⟩, h4⟩
  · obtain ⟨r, hr', rfl⟩ := List.mem_map.mp hp
    by_cases e : r.1 = a
    · rw [if_pos e]; exact e ▸ ap r hr' q hq
    · rw [if_neg e]; exact ap r hr' q hq
theorem Str.ofString_inj {x y : String} (h : Str.ofString x = Str.ofString y) : x = y := by
  rw [Str.ofString_eq_toList, Str.ofString_eq_toList] at h
  have h1 := congrArg (fun s : Str => s.cps.toList) h
  simp only at h1
  have h2 : x.toList = y.toList := by
    have inj : ∀ l l' : List Char, l.map (·.toNat) = l'.map (·.toNat) → l = l' := by
      intro l
      induction l with
      | nil => intro l' e; cases l' with | nil => rfl | cons c r => simp at e
      | cons c r ih =>
        intro l' e
        cases l' with
        | nil => simp at e
        | cons c' r' =>
          simp only [List.map_cons, List.cons.injEq] at e
          rw [ih r' e.2]
          congr 1
          exact Char.ext (UInt32.toNat_inj.mp e.1)
    exact inj _ _ (by simpa using h1)
  exact String.ext h2
theorem MRel.set {m : Str → Option Value} {x : String} {av : AV} {v : Value} (M : MRel ρ m) (hr : av.R v) : MRel (mset ρ x av) (fun y => if y = Str.ofString x then some v else m y) := by
  intro y b hb
  unfold mset at hb
  by_cases e : y = x
  · rw [if_pos e] at hb; cases hb; exact ⟨v, by rw [e]; exact if_pos rfl, hr⟩
  · rw [if_neg e] at hb
    obtain ⟨v', h1, h2⟩ := M y b hb
    exact ⟨v', (if_neg (fun q => e (Str.ofString_inj q))).trans h1, h2⟩
end
end
section
open PySem PySem.W PySem.Spec PySem.Calls PyProof.Rows
structure Pm where
  prog : Program
  w : World
  K : Frag
  p : Program
  loose : List Str
  mean : ExcName → Option Value
  mg : Str → Option Value
  mb : Str → Option Value
  S : AH
  G : String → Option AV
  addr : String → Addr

/-- a frame of a def: what is around it -/
structure Fd (q : Str) (sc : Scope) where
  A : Around
  L : Addr
  fa : Addr
  cd : Value
  outer : List Env
  base : Heap
  h₀ : Heap
abbrev Fd.env {q : Str} {sc : Scope} (f : Fd q sc) : Env := envOf q sc f.L f.fa f.cd

structure Stn (P : Pm) (n : Nat) {q : Str} {sc : Scope} (f : Fd q sc) : Prop where
  at_ : ∃ A₁ : Around, f.A = A₁.deeper f.env ∧ Below A₁ f.base f.outer f.h₀
  X : P.K.In f.h₀
  T : Top P.p P.loose P.mean P.mg P.mb f.h₀
  kind : sc.kind = .function
  gen : sc.isGenerator = false
  co : sc.isCoroutine = false
  handled : f.A.handled = none
  room : f.A.depth + n + 200 < recursionLimit
  units : f.A.units + 8 * n + 100 < cLine
  stat : ∀ a o, (a, o) ∈ P.S → View f.h₀ a o
  tree : P.prog.given.tree = none
  imps : importsNone P.p = true
  root : q = Str.ofString "law" → f.base = f.h₀

/-- an exception of the class c is under way: raised in this very frame, or come out of a call -/
def Exn {q : Str} {sc : Scope} (f : Fd q sc) (ρ : AM) (R : List (Addr × Obj)) (c : String) (H : AH) (e : Value) (s : Shared) : Prop :=
  ∃ ea m news vs, e = .ref ea ∧ MRel ρ m ∧ HRel H news ∧ Apart news R ∧
    ((∃ h, Fr f.h₀ f.L h m ∧ News f.h₀ f.L h (news ++ R) ∧ Heap.MadeExcOf h s.heap ea (.type c) vs) ∨
     (∃ g t, Fr f.h₀ f.L g m ∧ RaisedK f.base (f.env :: f.outer) ea (.type c) t vs (news ++ R) s.heap ∧ g.UpToSlots s.heap))

/-- an exception of the class c has come out of a call -/
def ExnC {q : Str} {sc : Scope} (f : Fd q sc) (ρ : AM) (R : List (Addr × Obj)) (c : String) (H : AH) (e : Value) (s : Shared) : Prop :=
  ∃ ea m news vs, e = .ref ea ∧ MRel ρ m ∧ HRel H news ∧ Apart news R ∧
     (∃ g t, Fr f.h₀ f.L g m ∧ RaisedK f.base (f.env :: f.outer) ea (.type c) t vs (news ++ R) s.heap ∧ g.UpToSlots s.heap)
theorem ExnC.to {q : Str} {sc : Scope} {f : Fd q sc} {ρ : AM} {R : List (Addr × Obj)} {c : String} {H : AH} {e : Value} {s : Shared} (h : ExnC f ρ R c H e s) : Exn f ρ R c H e s := by
  obtain ⟨ea, m, news, vs, h1, h2, h3, h4, h5⟩ := h
  exact ⟨ea, m, news, vs, h1, h2, h3, h4, .inr h5⟩

def PostV {q : Str} {sc : Scope} (f : Fd q sc) (ρ : AM) (R : List (Addr × Obj)) (s : Shared) (Q : QV) (Qc : Value → Shared → Prop) : Prop :=
  ∀ v av H' h' tk, av.R v → Sim f.h₀ f.L ρ H' R h' → Q av H' → Qc v { s with heap := h', toks := tk }
def PostB {q : Str} {sc : Scope} (f : Fd q sc) (ρ : AM) (R : List (Addr × Obj)) (s : Shared) (Q : Bool → AH → Prop) (Qc : Bool → Shared → Prop) : Prop :=
  ∀ b H' h' tk, Sim f.h₀ f.L ρ H' R h' → Q b H' → Qc b { s with heap := h', toks := tk }
def PostX {q : Str} {sc : Scope} (f : Fd q sc) (ρ : AM) (R : List (Addr × Obj)) (s : Shared) (X : XV) (Ec : Value → Shared → Prop) : Prop :=
  ∀ c H' e h' tk, X c H' → ExnC f ρ R c H' e { s with heap := h', toks := tk } → Ec e { s with heap := h', toks := tk }

def CallOK (P : Pm) (n : Nat) (g : String) (vs : List AV) (H : AH) (Q : QV) (X : XV) : Prop :=
  ∀ (q : Str) (sc : Scope) (f : Fd q sc), Stn P n f → ∀ (R : List (Addr × Obj)) (ρ : AM) (s : Shared) (vals : List Value) (Qc : Value → Shared → Prop) (Ec : Value → Shared → Prop), Sim f.h₀ f.L ρ H R s.heap → AllR vs vals →
    PostV f ρ R s Q Qc → PostX f ρ R s X Ec → wpAny (model P.prog P.w) f.A (call (.ref (P.addr g)) vals) Qc Ec s
def Pm.cx (P : Pm) (n : Nat) : Cx := ⟨P.S, P.G, CallOK P n⟩

/-- e is rightly told by pe -/
def EvOK (P : Pm) (q : Str) (sc : Scope) (e : Expr) (pe : PE) : Prop :=
  ∀ (n : Nat) (f : Fd q sc), Stn P n f → ∀ (R : List (Addr × Obj)) (ρ : AM) (H : AH) (s : Shared) (Q : QV) (X : XV) (Qc : Value → Shared → Prop) (Ec : Value → Shared → Prop), Sim f.h₀ f.L ρ H R s.heap → W (P.cx n) pe ρ H Q X →
    PostV f ρ R s Q Qc → PostX f ρ R s X Ec → wpAny (model P.prog P.w) f.A (eval e f.env) Qc Ec s
def TrOK (P : Pm) (q : Str) (sc : Scope) (e : Expr) (pe : PE) : Prop :=
  ∀ (n : Nat) (f : Fd q sc), Stn P n f → ∀ (R : List (Addr × Obj)) (ρ : AM) (H : AH) (s : Shared) (Q : Bool → AH → Prop) (X : XV) (Qc : Bool → Shared → Prop) (Ec : Value → Shared → Prop), Sim f.h₀ f.L ρ H R s.heap → W (P.cx n) pe ρ H (fun u H₁ => truW u H₁ Q) X →
    PostB f ρ R s Q Qc → PostX f ρ R s X Ec → wpAny (model P.prog P.w) f.A (isTrue e f.env (eval e f.env)) Qc Ec s

section
variable {q : Str} {sc : Scope} {f : Fd q sc} {ρ : AM} {R : List (Addr × Obj)} {s : Shared} {Q : QV} {Qc : Value → Shared → Prop} {H' : AH} {h' : Heap} {tk : Nat}
theorem PostV.i (hv : PostV f ρ R s Q Qc) {i : Int} {t : Tok} (hs : Sim f.h₀ f.L ρ H' R h') (hq : Q (.int i) H') : Qc (.int i t) { s with heap := h', toks := tk } := hv _ (.int i) H' h' tk ⟨t, rfl⟩ hs hq
theorem PostV.x (hv : PostV f ρ R s Q Qc) {x : Str} {t : Tok} (hs : Sim f.h₀ f.L ρ H' R h') (hq : Q (.str x) H') : Qc (.str x t) { s with heap := h', toks := tk } := hv _ (.str x) H' h' tk ⟨t, rfl⟩ hs hq
theorem PostV.b (hv : PostV f ρ R s Q Qc) {c : Bool} (hs : Sim f.h₀ f.L ρ H' R h') (hq : Q (.bool c) H') : Qc (.bool c) { s with heap := h', toks := tk } := hv _ (.bool c) H' h' tk rfl hs hq
theorem PostV.n (hv : PostV f ρ R s Q Qc) (hs : Sim f.h₀ f.L ρ H' R h') (hq : Q .none H') : Qc .none { s with heap := h', toks := tk } := hv _ .none H' h' tk rfl hs hq
theorem PostV.r (hv : PostV f ρ R s Q Qc) {a : Addr} (hs : Sim f.h₀ f.L ρ H' R h') (hq : Q (.ref a) H') : Qc (.ref a) { s with heap := h', toks := tk } := hv _ (.ref a) H' h' tk rfl hs hq
theorem PostV.t (hv : PostV f ρ R s Q Qc) {a : String} (hs : Sim f.h₀ f.L ρ H' R h') (hq : Q (.typ a) H') : Qc (.type a) { s with heap := h', toks := tk } := hv _ (.typ a) H' h' tk rfl hs hq
/-- a new object that a rule has laid -/
theorem sim_new {h₀ h' : Heap} {L D : Addr} {H : AH} {m : Str → Option Value} {news : List (Addr × Obj)} {o : AO} {ob : Obj} (M : MRel ρ m) (hr : HRel H news) (ap : Apart news R) (F' : Fr h₀ L h' m)
    (N' : News h₀ L h' ((D, ob) :: (news ++ R))) (hD : ∀ p ∈ news ++ R, p.1 < D) (ho : o.R ob) : Sim h₀ L ρ ((D, o) :: H) R h' := by
  refine ⟨m, (D, ob) :: news, F', M, N', fun a o' hm => ?_, fun p hp q hq => ?_⟩
  · rcases List.mem_cons.mp hm with e | hm
    · cases e; exact ⟨ob, .head _, ho⟩
    · obtain ⟨ob', h1, h2⟩ := hr a o' hm; exact ⟨ob', .tail _ h1, h2⟩
  · rcases List.mem_cons.mp hp with rfl | hp
    · exact Nat.ne_of_gt (hD q (List.mem_append_right _ hq))
    · exact ap p hp q hq
theorem fresh_of {H : AH} {news : List (Addr × Obj)} {D : Addr} (hr : HRel H news) (hD : ∀ p ∈ news ++ R, p.1 < D) : Fresh H D := fun p hp => by
  obtain ⟨ob, h1, _⟩ := hr p.1 p.2 hp
  exact hD _ (List.mem_append_left _ h1)
theorem sizes {h₀ h : Heap} {L : Addr} {news : List (Addr × Obj)} (N : News h₀ L h news) : ∀ p ∈ news, p.1 < h.objs.size := fun p hp => Heap.lt_size (N p hp).1
end

section
variable {P : Pm} {q : Str} {sc : Scope} {pos : Pos}

theorem ev_int {i : Int} {k : Nat} : EvOK P q sc (.Constant (.int i) k pos) (.int i) := fun n f st R ρ H s Q X Qc Ec hs hw hv hx =>
  wpAny_Constant_int (hv.i hs hw)
theorem ev_bool {b : Bool} {k : Nat} : EvOK P q sc (.Constant (.bool b) k pos) (.bool b) := fun n f st R ρ H s Q X Qc Ec hs hw hv hx =>
  Constant_bool (hv _ (.bool b) _ _ _ rfl hs hw)
theorem ev_loc {x : String} (hl : ∀ L a cd, (envOf q sc L a cd).kindOf (Str.ofString x) = some .local := by intros; rfl) (hd : (Str.ofString x == ("__debug__" : Str)) = false := by decide) :
    EvOK P q sc (.Name (Str.ofString x) pos) (.loc x) := fun n f st R ρ H s Q X Qc Ec hs hw hv hx => by
  obtain ⟨av, h1, h2⟩ := hw
  obtain ⟨m, news, F, M, rest⟩ := id hs
  obtain ⟨v, h3, h4⟩ := M x av h1
  exact ld F h3 (hv _ _ _ _ _ h4 hs h2) st.kind (hl _ _ _) hd
theorem ev_typ {x : String} (hn : nsIn P.K mainGlobals (Str.ofString x) = some none) (hb : bootBuiltins (Str.ofString x) = some (.type x)) (hx : Str.ofString x ≠ "__name__") (hl : ∀ L a cd, (envOf q sc L a cd).kindOf (Str.ofString x) = some .globalImplicit := by intros; rfl) (hd : (Str.ofString x == ("__debug__" : Str)) = false := by decide) :
    EvOK P q sc (.Name (Str.ofString x) pos) (.typ x) := fun n f st R ρ H s Q X Qc Ec hs hw hv hx' => by
  obtain ⟨m, news, F, M, rest⟩ := id hs
  exact name_B F st.X (topRead_of st.T) hn hb hx (hv _ (.typ x) _ _ _ rfl hs hw) st.kind (hl _ _ _) hd

theorem mulOk_of {a b : Int} (h : MulOk a b) : IntMulOk a b := by
  rcases h with h | h | h
  · exact .of_right (intBits_le_64 (by omega) (by omega))
  · exact .of_left (intBits_le_64 (by omega) (by omega))
  · have h1 := intBits_le h.1
    have h2 := intBits_le h.2
    clear h
    unfold IntMulOk
    intro q
    simp only [Bool.and_eq_true] at q
    have := q.2
    unfold Builtin.Int.intTooBig bitsLine at this
    have := of_decide_eq_true this
    omega
theorem fdiv_pos {a b : Int} (h : 0 < b) : Int.fdiv a b = a / b := Int.fdiv_eq_ediv_of_nonneg a (by omega)
theorem fmod_pos {a b : Int} (h : 0 < b) : Int.fmod a b = a % b := Int.fmod_eq_emod_of_nonneg a (by omega)
theorem Stn.pylong {n : Nat} {f : Fd q sc} (st : Stn P n f) {ρ : AM} {H : AH} {R : List (Addr × Obj)} {s : Shared} (hs : Sim f.h₀ f.L ρ H R s.heap) : PylongRoom (model P.prog P.w) f.A s := by
  obtain ⟨m, news, F, rest⟩ := hs
  obtain ⟨A₁, e, B⟩ := st.at_
  refine PylongRoom.of (st.T.nolimit.keeps F.keep) (by have := st.room; unfold Builtin.pylongFrames; omega) ?_
  exact SeerAt.of (env := f.env) (l := f.outer) ((st.T.seer st.imps).keeps F.keep) st.tree (by rw [e]; exact Around.frames_deeper B.stack) st.gen st.co rfl rfl
theorem R_li {vs : List Value} {xs : List Int} {n : Nat} (h : IntsAre vs xs) : (AO.li xs).R (listOf (List.toArray vs) n) := ⟨_, _, rfl, h⟩
theorem R_tup {vs : List Value} {as : List AV} {n : Nat} (h : AllR as vs) : (AO.tup as).R (tupOf (List.toArray vs) n) := ⟨_, _, rfl, h⟩
theorem big_line {n : Nat} (h : n ≤ BIG) : n ≤ sizeLine := by unfold BIG at h; rw [sizeLine_eq]; omega
theorem ints_rep {x : Int} {t : Tok} (n : Nat) : IntsAre (List.replicate n (Value.int x t)) (List.replicate n x) := by
  induction n with
  | zero => exact .nil
  | succ n ih => exact .cons _ _ ih

/-- one word of two values -/
theorem op_sound {n : Nat} {f : Fd q sc} (st : Stn P n f) {R : List (Addr × Obj)} {ρ : AM} {H : AH} {s : Shared} {Q : QV} {Qc : Value → Shared → Prop} {Ec : Value → Shared → Prop} {op : Operator} {a b : AV} {u v : Value}
    (hs : Sim f.h₀ f.L ρ H R s.heap) (ha : a.R u) (hb : b.R v) (hw : opW P.S op a b H Q) (hv : PostV f ρ R s Q Qc) : wpAny (model P.prog P.w) f.A (binaryOp op u v) Qc Ec s := by
  unfold opW at hw
  split at hw
  · obtain ⟨t, rfl⟩ := ha; obtain ⟨t', rfl⟩ := hb
    exact add_int (hv.i hs hw)
  · obtain ⟨t, rfl⟩ := ha; obtain ⟨t', rfl⟩ := hb
    exact sub_int (hv.i hs hw)
  · obtain ⟨t, rfl⟩ := ha; obtain ⟨t', rfl⟩ := hb
    exact mul_int (hv.i hs hw.2) (mulOk_of hw.1)
  · obtain ⟨t, rfl⟩ := ha; obtain ⟨t', rfl⟩ := hb
    exact floordiv_int (by omega) (hv.i hs (by rw [fdiv_pos hw.1]; exact hw.2)) (.inr (st.pylong hs))
  · obtain ⟨t, rfl⟩ := ha; obtain ⟨t', rfl⟩ := hb
    exact mod_int' (by omega) (hv.i hs (by rw [fmod_pos hw.1]; exact hw.2))
  · obtain ⟨t, rfl⟩ := ha; obtain ⟨t', rfl⟩ := hb
    exact pow_int_small hw.1.1 hw.1.2.1 hw.1.2.2 (hv.i hs hw.2)
  · obtain ⟨xs, ys, h1, h2, h3, h4⟩ := hw
    cases ha; cases hb
    obtain ⟨vs, l1, i1⟩ := hs.view st.stat h1
    obtain ⟨ws, l2, i2⟩ := hs.view st.stat h2
    obtain ⟨m, news, F, M, N, hr, ap⟩ := id hs
    refine add_lists F N l1 l2 (fun h' F' N' => ?_) (big_line (by rw [i1.length, i2.length]; exact h3))
    exact hv.r (sim_new M hr ap F' N' (sizes N) (R_li (i1.append i2))) (h4 _ (fresh_of hr (sizes N)))
  · obtain ⟨x, h1, h0, h3, h4⟩ := hw
    cases ha
    obtain ⟨t, rfl⟩ := hb
    obtain ⟨m, news, F, M, N, hr, ap⟩ := id hs
    obtain ⟨ob, hm, vs, c, rfl, hi⟩ := hr _ _ h1
    obtain ⟨y, t2, i0⟩ : ∃ y t2, vs = [Value.int y t2] ∧ y = x := by
      cases hi with | cons n t2 r => cases r; exact ⟨_, _, rfl, rfl⟩
    obtain ⟨rfl, rfl⟩ := i0
    refine mul_list F N (N _ (List.mem_append_left _ hm)).1 (by omega) (by unfold BIG at h3; omega) (by unfold BIG at h3; simp; omega) (fun h' F' N' => ?_)
    rw [listMul_foldl_if] at N'
    refine hv.r (sim_new M hr ap F' N' (sizes N) (R_li ?_)) (h4 _ (fresh_of hr (sizes N)))
    simp only [List.flatten_replicate_singleton]
    exact ints_rep _
  · exact hw.elim

theorem ev_bin {l r : Expr} {op : Operator} {pl pr : PE} (hl : EvOK P q sc l pl) (hr : EvOK P q sc r pr) : EvOK P q sc (.BinOp l op r pos) (.bin op pl pr) := fun n f st R ρ H s Q X Qc Ec hs hw hv hx =>
  wpAny_BinOp (hl n f st R ρ H s _ _ _ _ hs hw (fun u a H₁ h₁ t₁ ha hs₁ hw₁ => hr n f st R ρ H₁ _ _ _ _ _ hs₁ hw₁ (fun v b H₂ h₂ t₂ hb hs₂ hw₂ => op_sound st hs₂ ha hb hw₂ hv) hx) hx)
theorem tru_sound {f : Fd q sc} {R : List (Addr × Obj)} {ρ : AM} {H : AH} {s : Shared} {Q : Bool → AH → Prop} {Qc : Bool → Shared → Prop} {Ec : Value → Shared → Prop} {a : AV} {u : Value} (hs : Sim f.h₀ f.L ρ H R s.heap) (ha : a.R u) (hw : truW a H Q)
    (hv : PostB f ρ R s Q Qc) : wpAny (model P.prog P.w) f.A (truthy u) Qc Ec s := by
  cases a with
  | bool b => cases ha; exact wpAny_truthy_bool (hv _ _ _ _ hs hw)
  | _ => exact hw.elim
/-- equal data, read at a heap -/
theorem aeq_reads {S H : AH} {h : Heap} (hv : ∀ a o, Has S H a o → View h a o) : ∀ {k : Nat} {a b : AV} {c : Bool}, AEq S H k a b c → ∀ {u v : Value}, a.R u → b.R v →
    ∃ da db as bs, Reads h u da as ∧ Reads h v db bs ∧ PyData.canLay0 da = true ∧ PyData.canLay0 db = true ∧ PyData.depth da ≤ k + 2 ∧ PyData.depth db ≤ k + 2 ∧ SeqAt.noMix da db = true ∧ PySem.Spec.same da db = c := by
  intro k a b c hh
  induction hh with
  | int i j =>
    rintro u v ⟨t, rfl⟩ ⟨t', rfl⟩
    refine ⟨.int i, .int j, [], [], .int _ _, .int _ _, ?_, ?_, ?_, ?_, ?_, ?_⟩ <;> simp [PyData.canLay0, PyData.depth, SeqAt.noMix, PySem.Spec.same]
    by_cases e : i = j <;> simp [e]
  | li h1 h2 =>
    rename_i a b k xs ys
    rintro u v rfl rfl
    obtain ⟨vs, l1, i1⟩ := hv _ _ h1
    obtain ⟨ws, l2, i2⟩ := hv _ _ h2
    have d1 := PyProof.Rows.depthAll_ints xs
    have d2 := PyProof.Rows.depthAll_ints ys
    refine ⟨_, _, _, _, reads_of_ints l1 i1, reads_of_ints l2 i2, ?_, ?_, ?_, ?_, ?_, ?_⟩
    · simp only [PyData.canLay0]; exact canLayAll0_ints xs
    · simp only [PyData.canLay0]; exact canLayAll0_ints ys
    · simp only [PyData.depth]; omega
    · simp only [PyData.depth]; omega
    · simp only [SeqAt.noMix]; exact noMix_ints xs ys
    · simp only [PySem.Spec.same]; exact same_ints xs ys
  | tup2 h1 h2 _ _ ih1 ih2 =>
    rintro u v rfl rfl
    obtain ⟨vs, l1, i1⟩ := hv _ _ h1
    obtain ⟨ws, l2, i2⟩ := hv _ _ h2
    obtain ⟨v1, v2, rfl, p1, p2⟩ := all2 i1
    obtain ⟨w1, w2, rfl, q1, q2⟩ := all2 i2
    obtain ⟨da, db, as, bs, r1, r2, c1, c2, e1, e2, n1, s1⟩ := ih1 p1 q1
    obtain ⟨da', db', as', bs', r1', r2', c1', c2', e1', e2', n1', s1'⟩ := ih2 p2 q2
    obtain ⟨o, ho, hc, m, hd⟩ := l1
    obtain ⟨o', ho', hc', m', hd'⟩ := l2
    refine ⟨.tuple [da, da'], .tuple [db, db'], _, _, .tuple ho hc hd (.cons r1 (.cons r1' .nil)), .tuple ho' hc' hd' (.cons r2 (.cons r2' .nil)), ?_, ?_, ?_, ?_, ?_, ?_⟩
    · simp only [PyData.canLay0, PyData.canLayAll0, c1, c1', Bool.and_true]
    · simp only [PyData.canLay0, PyData.canLayAll0, c2, c2', Bool.and_true]
    · simp only [PyData.depth, PyData.depthAll]; omega
    · simp only [PyData.depth, PyData.depthAll]; omega
    · simp only [SeqAt.noMix, SeqAt.noMixAll, n1, n1', Bool.and_true]
    · simp only [PySem.Spec.same, PySem.Spec.sameAll, s1, s1', Bool.and_true]
theorem is_b {a b : Bool} : (Value.bool a == Value.bool b) = (a == b) := by cases a <;> cases b <;> rfl
theorem is_t {a b : String} : (Value.type a == Value.type b) = (a == b) := by
  by_cases h : a = b
  · subst h; simp
  · rw [beq_eq_false_iff_ne.mpr h, beq_eq_false_iff_ne.mpr fun e => h (Value.type.inj e)]
theorem is_nb {b : Bool} : (Value.none == Value.bool b) = false := by cases b <;> rfl
theorem cmp_sound {n : Nat} {f : Fd q sc} (st : Stn P n f) {R : List (Addr × Obj)} {ρ : AM} {H : AH} {s : Shared} {Q : QV} {Qc : Value → Shared → Prop} {Ec : Value → Shared → Prop} {op : CmpOp} {a b : AV} {u v : Value}
    (hs : Sim f.h₀ f.L ρ H R s.heap) (ha : a.R u) (hb : b.R v) (hw : cmpW P.S op a b H Q) (hv : PostV f ρ R s Q Qc) : wpAny (model P.prog P.w) f.A (compareOp op u v) Qc Ec s := by
  unfold cmpW at hw
  split at hw
  · obtain ⟨t, rfl⟩ := ha; obtain ⟨t', rfl⟩ := hb; exact lt_int (hv.b hs hw)
  · obtain ⟨t, rfl⟩ := ha; obtain ⟨t', rfl⟩ := hb; exact le_int (hv.b hs hw)
  · obtain ⟨t, rfl⟩ := ha; obtain ⟨t', rfl⟩ := hb; exact gt_int (hv.b hs hw)
  · obtain ⟨t, rfl⟩ := ha; obtain ⟨t', rfl⟩ := hb; exact ge_int (hv.b hs hw)
  · obtain ⟨t, rfl⟩ := ha; obtain ⟨t', rfl⟩ := hb; exact eq_int (hv.b hs hw)
  · obtain ⟨t, rfl⟩ := ha; obtain ⟨t', rfl⟩ := hb; exact ne_int (hv.b hs hw)
  · cases ha; cases hb; exact eq_bool (hv.b hs hw)
  · cases ha; cases hb; exact ne_bool (hv.b hs hw)
  · obtain ⟨t, rfl⟩ := ha; obtain ⟨t', rfl⟩ := hb; exact PyProof.Rows.eq_str (hv.b hs hw)
  · obtain ⟨t, rfl⟩ := ha; obtain ⟨t', rfl⟩ := hb; exact PyProof.Rows.ne_str (hv.b hs hw)
  · obtain ⟨c, h1, h2⟩ := hw
    obtain ⟨da, db, as, bs, r1, r2, c1, c2, e1, e2, n1, s1⟩ := aeq_reads (fun a o hh => hs.view st.stat hh) h1 ha hb
    exact eq_dataH_same r1 r2 (Bool.and_eq_true_iff.mpr ⟨c1, decide_eq_true (by omega)⟩) (Bool.and_eq_true_iff.mpr ⟨c2, decide_eq_true (by omega)⟩) (by have := st.units; omega) n1 (by rw [s1]; exact hv.b hs h2)
  · obtain ⟨c, h1, h2⟩ := hw
    obtain ⟨da, db, as, bs, r1, r2, c1, c2, e1, e2, n1, s1⟩ := aeq_reads (fun a o hh => hs.view st.stat hh) h1 ha hb
    exact ne_dataH_same r1 r2 (Bool.and_eq_true_iff.mpr ⟨c1, decide_eq_true (by omega)⟩) (Bool.and_eq_true_iff.mpr ⟨c2, decide_eq_true (by omega)⟩) (by have := st.units; omega) n1 (by rw [s1]; exact hv.b hs h2)
  · cases ha; cases hb; exact wpAny_is_plain rfl (by rw [is_b]; exact hv.b hs hw)
  · cases ha; cases hb; exact wpAny_isNot_plain rfl (by rw [is_b]; exact hv.b hs hw)
  · cases ha; cases hb; exact wpAny_is_plain rfl (by rw [is_nb]; exact hv.b hs hw)
  · cases ha; cases hb; exact wpAny_isNot_plain rfl (by rw [is_nb]; exact hv.b hs hw)
  · cases ha; cases hb; exact wpAny_is_plain rfl (by rw [is_t]; exact hv.b hs hw)
  · cases ha; cases hb; exact wpAny_isNot_plain rfl (by rw [is_t]; exact hv.b hs hw)
  · exact hw.elim
theorem tr_cmp {l r : Expr} {op : CmpOp} {pl pr : PE} (hl : EvOK P q sc l pl) (hr : EvOK P q sc r pr) (hm : behindInMarks op r = false := by with_unfolding_all rfl) : TrOK P q sc (.Compare l [op] [r] pos) (.cmp op pl pr) := fun n f st R ρ H s Q X Qc Ec hs hw hv hx =>
  wpAny_isTrue_Compare1 (hl n f st R ρ H s _ _ _ _ hs hw (fun u a H₁ h₁ t₁ ha hs₁ hw₁ => hr n f st R ρ H₁ _ _ _ _ _ hs₁ hw₁ (fun v b H₂ h₂ t₂ hb hs₂ hw₂ => cmp_sound st hs₂ ha hb hw₂ fun c d H₃ h₃ t₃ hc hs₃ hw₃ => tru_sound (f := f) hs₃ hc hw₃ hv) hx) hx) hm
end
end
section
open PySem PySem.W PySem.Spec PySem.Calls PyProof.Rows
def ArgsOK (P : Pm) (q : Str) (sc : Scope) (es : List Expr) (pes : PEs) : Prop :=
  ∀ (n : Nat) (f : Fd q sc), Stn P n f → ∀ (R : List (Addr × Obj)) (ρ : AM) (H : AH) (s : Shared) (Q : List AV → AH → Prop) (X : XV) (Qc : List Value → Shared → Prop) (Ec : Value → Shared → Prop) (pos : Pos), Sim f.h₀ f.L ρ H R s.heap → WArgs (P.cx n) pes ρ H Q X →
    (∀ vs as H' h' tk, AllR as vs → vs.length = es.length → Sim f.h₀ f.L ρ H' R h' → Q as H' → Qc vs { s with heap := h', toks := tk }) → PostX f ρ R s X Ec → wpAny (model P.prog P.w) f.A (spliced (backTo pos (starEach es f.env))) Qc Ec s

theorem AllR.len {as : List AV} {vs : List Value} (h : AllR as vs) : vs.length = as.length := by
  induction h with
  | nil => rfl
  | cons _ _ ih => simp [ih]
theorem AllR.get {as : List AV} {vs : List Value} (h : AllR as vs) : ∀ {k : Nat} {av : AV}, as[k]? = some av → ∃ v, vs[k]? = some v ∧ av.R v := by
  induction h with
  | nil => intro k av e; simp at e
  | cons ha hr ih =>
    intro k av e
    cases k with
    | zero => simp at e; subst e; exact ⟨_, rfl, ha⟩
    | succ k => obtain ⟨v, e2, e3⟩ := ih (k := k) (av := av) (by simpa using e); exact ⟨v, by simpa using e2, e3⟩

section
variable {P : Pm} {q : Str} {sc : Scope} {pos : Pos}

theorem tr_and1 {e : Expr} {pe : PE} (he : TrOK P q sc e pe) : TrOK P q sc (.BoolOp .And [e] pos) pe := fun n f st R ρ H s Q X Qc Ec hs hw hv hx =>
  isTrue_and (he n f st R ρ H s Q X _ _ hs hw (fun b H' h' tk hs' hq => by
    cases b with
    | true => exact isTrue_and_nil (hv _ _ _ _ hs' hq)
    | false => exact hv _ _ _ _ hs' hq) hx)
theorem tr_and {e₁ e₂ : Expr} {rest : List Expr} {p₁ p₂ : PE} (h₁ : TrOK P q sc e₁ p₁) (h₂ : TrOK P q sc (.BoolOp .And (e₂ :: rest) pos) p₂) : TrOK P q sc (.BoolOp .And (e₁ :: e₂ :: rest) pos) (.and p₁ p₂) := fun n f st R ρ H s Q X Qc Ec hs hw hv hx =>
  isTrue_and (h₁ n f st R ρ H s _ X _ _ hs hw (fun b H' h' tk hs' hq => by
    cases b with
    | true => exact h₂ n f st R ρ H' _ Q X Qc Ec hs' hq hv hx
    | false => exact hv _ _ _ _ hs' hq) hx)
theorem idx_sound {n : Nat} {f : Fd q sc} (st : Stn P n f) {R : List (Addr × Obj)} {ρ : AM} {H : AH} {s : Shared} {Q : QV} {Qc : Value → Shared → Prop} {Ec : Value → Shared → Prop} {a b : AV} {u v : Value} {value slice : Expr}
    (hs : Sim f.h₀ f.L ρ H R s.heap) (ha : a.R u) (hb : b.R v) (hw : idxW P.S a b H Q) (hv : PostV f ρ R s Q Qc) (hsl : ∀ o i, subscripted slice false o i = operate [o, i] (getItem o i)) : wpAny (model P.prog P.w) f.A (subscriptTail value slice u v) Qc Ec s := by
  unfold idxW at hw
  split at hw
  · cases ha
    obtain ⟨t, rfl⟩ := hb
    obtain ⟨o, h1, h2⟩ := hw
    have vw := hs.view st.stat h1
    cases o with
    | li xs =>
      obtain ⟨h0, h3, h4, h5⟩ := h2
      obtain ⟨vs, hl, hi⟩ := vw
      obtain ⟨t', hx⟩ := hi.get _ _ (ints_getD h0 h3)
      exact tail_any hl.typeIs slot_list_getitem.lookup (wpAny_getItem_list hl h0 (by omega) (by simpa using hx) (hv.i hs h5)) (hsl _ _)
    | tup as =>
      obtain ⟨h0, h3, h4, av, h5, h6⟩ := h2
      obtain ⟨vs, hl, hi⟩ := vw
      rename_i i
      have hlen := hi.len
      obtain ⟨v, e1, e2⟩ := hi.get h5
      have hj : seqIndex? i (List.toArray vs).size = some i.toNat := by
        unfold seqIndex?
        simp only [List.size_toArray]
        rw [if_neg (show ¬ i < 0 by omega), decide_eq_true h0, decide_eq_true (show i < (vs.length : Int) by omega)]
        rfl
      exact tail_any hl.typeIs slot_tuple_getitem.lookup (getItem_tuple hl (by omega) (by omega) hj (by simpa using e1) (hv _ av _ _ _ e2 hs h6)) (hsl _ _)
    | ls xs => exact h2.elim
  · exact hw.elim
theorem ev_idx {e i : Expr} {pe pi : PE} (he : EvOK P q sc e pe) (hi : EvOK P q sc i pi) (hsl : ∀ o v, subscripted i false o v = operate [o, v] (getItem o v) := by intros; with_unfolding_all rfl) : EvOK P q sc (.Subscript e i pos) (.idx pe pi) := fun n f st R ρ H s Q X Qc Ec hs hw hv hx =>
  Subscript_ (he n f st R ρ H s _ _ _ _ hs hw (fun u a H₁ h₁ t₁ ha hs₁ hw₁ => hi n f st R ρ H₁ _ _ _ _ _ hs₁ hw₁ (fun v b H₂ h₂ t₂ hb hs₂ hw₂ => idx_sound st hs₂ ha hb hw₂ hv hsl) hx) hx)

theorem args_nil' : ArgsOK P q sc [] .nil := fun n f st R ρ H s Q X Qc Ec pos hs hw hv hx => spliced_none (hv _ _ _ _ _ .nil rfl hs hw)
theorem args_cons' {e : Expr} {es : List Expr} {pe : PE} {pes : PEs} (he : EvOK P q sc e pe) (hes : ArgsOK P q sc es pes) (hse : ∀ f : Fd q sc, starEach (e :: es) f.env = (false, eval e f.env) :: starEach es f.env := by intro _; rfl) : ArgsOK P q sc (e :: es) (.cons pe pes) := fun n f st R ρ H s Q X Qc Ec pos hs hw hv hx =>
  spliced_more (he n f st R ρ H s _ _ _ _ hs hw (fun u a H₁ h₁ t₁ ha hs₁ hw₁ => hes n f st R ρ H₁ _ _ X _ _ pos hs₁ hw₁ (fun vs as H₂ h₂ t₂ has hl₂ hs₂ hw₂ => hv _ _ _ _ _ (.cons ha has) (by simp [hl₂]) hs₂ hw₂) hx) hx) (hse f)
theorem ev_tup {es : List Expr} {pes : PEs} {k : Nat} (hes : ArgsOK P q sc es pes) (hz : es.length ≤ 100 := by decide) : EvOK P q sc (.Tuple es k pos) (.tup pes) := fun n f st R ρ H s Q X Qc Ec hs hw hv hx => by
  refine Tuple_ (hes n f st R ρ H s _ _ _ _ pos hs hw (fun vs as H₁ h₁ t₁ has hl hs₁ hw₁ => ?_) hx)
  obtain ⟨m, news, F, M, N, hr, ap⟩ := id hs₁
  exact newTuple_N F N (fun h' F' N' => hv.r (sim_new M hr ap F' N' (sizes N) (R_tup has)) (hw₁ _ (fresh_of hr (sizes N)))) (by rw [sizeLine_eq]; omega)
theorem ev_lst0 : EvOK P q sc (.List [] pos) .lst0 := fun n f st R ρ H s Q X Qc Ec hs hw hv hx => by
  refine List_ (spliced_none ?_)
  obtain ⟨m, news, F, M, N, hr, ap⟩ := id hs
  exact newList_N F N (fun h' F' N' => hv.r (sim_new M hr ap F' N' (sizes N) (R_li .nil)) (hw _ (fresh_of hr (sizes N)))) (by rw [sizeLine_eq]; simp)
/-- a call of a def of the text -/
theorem ev_call {g : String} {e : Expr} {es : List Expr} {p : Pos} {pes : PEs} (hes : ArgsOK P q sc (e :: es) pes) (hn : nsIn P.K mainGlobals (Str.ofString g) = some (some (.ref (P.addr g)))) (hk : keepIn P.K (.ref (P.addr g)) = true)
    (hl : ∀ L a cd, (envOf q sc L a cd).kindOf (Str.ofString g) = some .globalImplicit := by intros; rfl) (hd : (Str.ofString g == ("__debug__" : Str)) = false := by decide)
    (hse : ∀ f : Fd q sc, starEach (e :: es) f.env = (false, eval e f.env) :: starEach es f.env := by intro _; rfl) (hpl : ∀ f : Fd q sc, (backTo pos (starEach es f.env)).any (·.1) = false := by intro _; rfl) :
    EvOK P q sc (.Call (.Name (Str.ofString g) p) (e :: es) [] pos) (.call g pes) := fun n f st R ρ H s Q X Qc Ec hs hw hv hx => by
  obtain ⟨m, news, F, M, rest⟩ := id hs
  refine wpAny_Call_NameR (name_K F st.X (topRead_of st.T) hn ?_ st.kind (hl _ _ _) hd)
  refine callWith_K st.X hk (hes n f st R ρ H s _ _ _ _ pos hs hw (fun vs as H₁ h₁ t₁ has hl₁ hs₁ hw₁ => ?_) hx) (hse f) (hpl f)
  obtain ⟨m₁, news₁, F₁, rest₁⟩ := id hs₁
  exact ⟨st.X.keeps F₁.keep, hw₁ q sc f st R ρ _ _ Qc Ec hs₁ has (fun v av H' h' tk hr hs' hq => hv v av H' h' tk hr hs' hq) hx⟩

/-- a call of a built-in function with one argument, two -/
theorem ev_bi {g : String} {e : Expr} {es : List Expr} {p : Pos} {pe : PE} {pes : PEs} (hes : ArgsOK P q sc (e :: es) pes) (hn : nsIn P.K mainGlobals (Str.ofString g) = some none) (hb : bootBuiltins (Str.ofString g) = some (.builtin g)) (hx : Str.ofString g ≠ "__name__")
    (hw' : ∀ n ρ H Q X, W (P.cx n) pe ρ H Q X → ∃ Q', WArgs (P.cx n) pes ρ H Q' X ∧ ∀ (f : Fd q sc), Stn P n f → ∀ (R : List (Addr × Obj)) (s : Shared) (vs : List Value) (as : List AV) (H' : AH) (Qc : Value → Shared → Prop) (Ec : Value → Shared → Prop), AllR as vs → Sim f.h₀ f.L ρ H' R s.heap → Q' as H' → PostV f ρ R s Q Qc → wpAny (model P.prog P.w) f.A (call (.builtin g) vs) Qc Ec s)
    (hl : ∀ L a cd, (envOf q sc L a cd).kindOf (Str.ofString g) = some .globalImplicit := by intros; rfl) (hd : (Str.ofString g == ("__debug__" : Str)) = false := by decide)
    (hse : ∀ f : Fd q sc, starEach (e :: es) f.env = (false, eval e f.env) :: starEach es f.env := by intro _; rfl) (hpl : ∀ f : Fd q sc, (backTo pos (starEach es f.env)).any (·.1) = false := by intro _; rfl) :
    EvOK P q sc (.Call (.Name (Str.ofString g) p) (e :: es) [] pos) pe := fun n f st R ρ H s Q X Qc Ec hs hw hv hx' => by
  obtain ⟨m, news, F, M, rest⟩ := id hs
  refine wpAny_Call_NameR (name_B F st.X (topRead_of st.T) hn hb hx ?_ st.kind (hl _ _ _) hd)
  obtain ⟨Q', h1, h2⟩ := hw' n ρ H Q X hw
  exact PyProof.Rows.callWith_builtin1 (hes n f st R ρ H s _ _ _ _ pos hs h1 (fun vs as H₁ h₁ t₁ has hl₁ hs₁ hw₁ => h2 f st R _ vs as H₁ Qc Ec has hs₁ hw₁ hv) hx') (hse f) (hpl f)
theorem ev_ty {g : String} {e : Expr} {es : List Expr} {p : Pos} {pe : PE} {pes : PEs} (hes : ArgsOK P q sc (e :: es) pes) (hn : nsIn P.K mainGlobals (Str.ofString g) = some none) (hb : bootBuiltins (Str.ofString g) = some (.type g)) (hx : Str.ofString g ≠ "__name__")
    (hw' : ∀ n ρ H Q X, W (P.cx n) pe ρ H Q X → ∃ Q', WArgs (P.cx n) pes ρ H Q' X ∧ ∀ (f : Fd q sc), Stn P n f → ∀ (R : List (Addr × Obj)) (s : Shared) (vs : List Value) (as : List AV) (H' : AH) (Qc : Value → Shared → Prop) (Ec : Value → Shared → Prop), AllR as vs → Sim f.h₀ f.L ρ H' R s.heap → Q' as H' → PostV f ρ R s Q Qc → wpAny (model P.prog P.w) f.A (call (.type g) vs) Qc Ec s)
    (hl : ∀ L a cd, (envOf q sc L a cd).kindOf (Str.ofString g) = some .globalImplicit := by intros; rfl) (hd : (Str.ofString g == ("__debug__" : Str)) = false := by decide)
    (hse : ∀ f : Fd q sc, starEach (e :: es) f.env = (false, eval e f.env) :: starEach es f.env := by intro _; rfl) (hpl : ∀ f : Fd q sc, (backTo pos (starEach es f.env)).any (·.1) = false := by intro _; rfl) :
    EvOK P q sc (.Call (.Name (Str.ofString g) p) (e :: es) [] pos) pe := fun n f st R ρ H s Q X Qc Ec hs hw hv hx' => by
  obtain ⟨m, news, F, M, rest⟩ := id hs
  refine wpAny_Call_NameR (name_B F st.X (topRead_of st.T) hn hb hx ?_ st.kind (hl _ _ _) hd)
  obtain ⟨Q', h1, h2⟩ := hw' n ρ H Q X hw
  exact Pv.callWith_type1 (hes n f st R ρ H s _ _ _ _ pos hs h1 (fun vs as H₁ h₁ t₁ has hl₁ hs₁ hw₁ => h2 f st R _ vs as H₁ Qc Ec has hs₁ hw₁ hv) hx') (hse f) (hpl f)
end
end
section
open PySem PySem.W PySem.Spec PySem.Calls PyProof.Rows
section
variable {P : Pm} {q : Str} {sc : Scope} {pos : Pos}

theorem cut_clip (k : Int) (n : Nat) : clipAt n k = cutAt k n := by
  unfold clipAt cutAt
  split <;> omega
theorem pick_to {vs : List Value} {xs : List Int} (hi : IntsAre vs xs) (k : Int) : IntsAre (slicePick vs.toArray none (some k) none).toList (xs.take (cutAt k xs.length)) := by
  rw [slicePick_plain]
  simp only [Option.elim, List.size_toArray, List.drop_zero, Nat.sub_zero, hi.length, cut_clip]
  exact hi.take _
theorem pick_from {vs : List Value} {xs : List Int} (hi : IntsAre vs xs) (k : Int) : IntsAre (slicePick vs.toArray (some k) none none).toList (xs.drop (cutAt k xs.length)) := by
  rw [slicePick_plain]
  simp only [Option.elim, List.size_toArray, hi.length, cut_clip]
  rw [List.take_of_length_le (by rw [List.length_drop, hi.length]; exact Nat.le_refl _)]
  exact hi.drop _

theorem slice_sound {n : Nat} {f : Fd q sc} (st : Stn P n f) {R : List (Addr × Obj)} {ρ : AM} {H : AH} {s : Shared} {Q : QV} {Qc : Value → Shared → Prop} {a : AV} {u vl vu : Value} {pick : List Int → List Int} {lo hi : Option Int}
    (hs : Sim f.h₀ f.L ρ H R s.heap) (ha : a.R u) (hw : sliceW P.S pick a H Q) (hv : PostV f ρ R s Q Qc) (pl : IsPart vl lo) (pu : IsPart vu hi)
    (hp : ∀ (vs : List Value) (xs : List Int), IntsAre vs xs → IntsAre (slicePick vs.toArray lo hi none).toList (pick xs)) :
    ∃ l items lo hi, u = .ref l ∧ s.heap.IsList l items ∧ items.size ≤ sizeLine ∧ IsPart vl lo ∧ IsPart vu hi ∧
        Qc (.ref (s.heap.objs.size + 1)) { s with heap := (s.heap.push { cls := .type "slice", data := .fields #[vl, vu, .none] }).push { cls := .type "list", data := .seq (slicePick items lo hi none) } } := by
  cases a with
  | ref a =>
    cases ha
    obtain ⟨xs, h1, h2, h3⟩ := hw
    obtain ⟨vs, hl, hi'⟩ := hs.view st.stat h1
    refine ⟨a, _, lo, hi, rfl, hl, by simp only [List.size_toArray, hi'.length]; exact big_line h2, pl, pu, ?_⟩
    have hs1 : Sim f.h₀ f.L ρ H R (s.heap.push { cls := .type "slice", data := .fields #[vl, vu, .none] }) := hs.keeps fun b o e => Heap.get?_push_of_some _ e
    have hs2 := hs1.push (o := .li (pick xs)) (ob := { cls := .type "list", data := .seq (slicePick vs.toArray lo hi none) }) ⟨_, 0, by simp, hp vs xs hi'⟩ rfl
    rw [Heap.size_push] at hs2
    have hf := hs1.fresh
    rw [Heap.size_push] at hf
    exact hv.r hs2 (h3 _ hf)
  | _ => exact hw.elim
theorem ev_slAll {e : Expr} {pe : PE} {p : Pos} (he : EvOK P q sc e pe) (ht : ∀ o r, letTemporaryGo e o r = pure () := by intro _ _; rfl) : EvOK P q sc (.Subscript e (.Slice none none none p) pos) (.slAll pe) := fun n f st R ρ H s Q X Qc Ec hs hw hv hx =>
  wpAny_Subscript_list_slice (he n f st R ρ H s _ _ _ _ hs hw (fun u a H₁ h₁ t₁ ha hs₁ hw₁ => evalPart_none_step (evalPart_none_step (slice_sound st hs₁ ha hw₁ hv .none .none fun vs xs hi => by rw [slicePick_all]; exact hi))) hx) ht
theorem ev_slTo {e k : Expr} {pe pk : PE} {p : Pos} (he : EvOK P q sc e pe) (hk : EvOK P q sc k pk) (ht : ∀ o r, letTemporaryGo e o r = pure () := by intro _ _; rfl) : EvOK P q sc (.Subscript e (.Slice none (some k) none p) pos) (.slTo pe pk) := fun n f st R ρ H s Q X Qc Ec hs hw hv hx =>
  wpAny_Subscript_list_slice (he n f st R ρ H s _ _ _ _ hs hw (fun u a H₁ h₁ t₁ ha hs₁ hw₁ => evalPart_none_step (evalPart_some_step (hk n f st R ρ H₁ _ _ _ _ _ hs₁ hw₁ (fun v b H₂ h₂ t₂ hb hs₂ hw₂ => by
    cases b with
    | int i => obtain ⟨t, rfl⟩ := hb; exact slice_sound st hs₂ ha hw₂ hv .none (.int _ _) fun vs xs hi => pick_to hi i
    | _ => exact hw₂.elim) hx))) hx) ht
theorem ev_slFrom {e k : Expr} {pe pk : PE} {p : Pos} (he : EvOK P q sc e pe) (hk : EvOK P q sc k pk) (ht : ∀ o r, letTemporaryGo e o r = pure () := by intro _ _; rfl) : EvOK P q sc (.Subscript e (.Slice (some k) none none p) pos) (.slFrom pe pk) := fun n f st R ρ H s Q X Qc Ec hs hw hv hx =>
  wpAny_Subscript_list_slice (he n f st R ρ H s _ _ _ _ hs hw (fun u a H₁ h₁ t₁ ha hs₁ hw₁ => evalPart_some_step (hk n f st R ρ H₁ _ _ _ _ _ hs₁ hw₁ (fun v b H₂ h₂ t₂ hb hs₂ hw₂ => by
    cases b with
    | int i => obtain ⟨t, rfl⟩ := hb; exact evalPart_none_step (slice_sound st hs₂ ha hw₂ hv (.int _ _) .none fun vs xs hi => pick_from hi i)
    | _ => exact hw₂.elim) hx)) hx) ht

theorem len_sound {n : Nat} {f : Fd q sc} (st : Stn P n f) {R : List (Addr × Obj)} {ρ : AM} {H : AH} {s : Shared} {Q : QV} {Qc : Value → Shared → Prop} {Ec : Value → Shared → Prop} {a : AV} {u : Value}
    (hs : Sim f.h₀ f.L ρ H R s.heap) (ha : a.R u) (hw : lenW P.S a H Q) (hv : PostV f ρ R s Q Qc) : wpAny (model P.prog P.w) f.A (call (.builtin "len") [u]) Qc Ec s := by
  cases a with
  | ref a =>
    cases ha
    obtain ⟨o, h1, h2⟩ := hw
    have vw := hs.view st.stat h1
    cases o with
    | li xs =>
      obtain ⟨vs, hl, hi⟩ := vw
      have hl' := hi.length
      refine call_len_list hl (by have := h2.1; unfold BIG at this; simp only [List.size_toArray]; omega) ?_
      simp only [List.size_toArray, hl']
      exact hv.i hs h2.2
    | tup as =>
      obtain ⟨vs, hl, hi⟩ := vw
      have hl' := hi.len
      refine PyProof.Rows.len_tuple hl (by have := h2.1; unfold BIG at this; simp only [List.size_toArray]; omega) ?_
      simp only [List.size_toArray, hl']
      exact hv.i hs h2.2
    | ls xs => exact h2.elim
  | _ => exact hw.elim
theorem ev_len {e : Expr} {p : Pos} {pe : PE} (he : EvOK P q sc e pe) (hn : nsIn P.K mainGlobals (Str.ofString "len") = some none) (hl : ∀ L a cd, (envOf q sc L a cd).kindOf (Str.ofString "len") = some .globalImplicit := by intros; rfl)
    (hse : ∀ f : Fd q sc, starEach [e] f.env = (false, eval e f.env) :: starEach [] f.env := by intro _; rfl) :
    EvOK P q sc (.Call (.Name (Str.ofString "len") p) [e] [] pos) (.len pe) :=
  ev_bi (args_cons' he args_nil' hse) hn boot_len (by decide) (fun n ρ H Q X hw => ⟨fun as H' => match as with | [a] => lenW P.S a H' Q | _ => False, hw, fun f st R s vs as H' Qc Ec has hs hq hv => by
    match as, hq with
    | [a], hq =>
      obtain ⟨v, rfl, hr⟩ := all1 (as := []) has
      exact len_sound st hs hr hq hv⟩) hl (by decide) hse
theorem ev_abs {e : Expr} {p : Pos} {pe : PE} (he : EvOK P q sc e pe) (hn : nsIn P.K mainGlobals (Str.ofString "abs") = some none) (hl : ∀ L a cd, (envOf q sc L a cd).kindOf (Str.ofString "abs") = some .globalImplicit := by intros; rfl)
    (hse : ∀ f : Fd q sc, starEach [e] f.env = (false, eval e f.env) :: starEach [] f.env := by intro _; rfl) :
    EvOK P q sc (.Call (.Name (Str.ofString "abs") p) [e] [] pos) (.abs pe) :=
  ev_bi (args_cons' he args_nil' hse) hn boot_abs (by decide) (fun n ρ H Q X hw => ⟨fun as H' => match as with | [a] => intW a fun i => Q (.int i.natAbs) H' | _ => False, hw, fun f st R s vs as H' Qc Ec has hs hq hv => by
    match as, hq with
    | [a], hq =>
      obtain ⟨v, rfl, hr⟩ := all1 (as := []) has
      cases a with
      | int i =>
        obtain ⟨t, rfl⟩ := hr
        refine call_abs_int fun u tk => ?_
        rw [show (if i < 0 then -i else i) = (i.natAbs : Int) by split <;> omega]
        exact hv.i hs hq
      | _ => exact hq.elim⟩) hl (by decide) hse
theorem ev_min {e g : Expr} {p : Pos} {pe pg : PE} (he : EvOK P q sc e pe) (hg : EvOK P q sc g pg) (hn : nsIn P.K mainGlobals (Str.ofString "min") = some none) (hl : ∀ L a cd, (envOf q sc L a cd).kindOf (Str.ofString "min") = some .globalImplicit := by intros; rfl)
    (hse : ∀ f : Fd q sc, starEach [e, g] f.env = (false, eval e f.env) :: starEach [g] f.env := by intro _; rfl) (hse2 : ∀ f : Fd q sc, starEach [g] f.env = (false, eval g f.env) :: starEach [] f.env := by intro _; rfl) (hpl : ∀ f : Fd q sc, (backTo pos (starEach [g] f.env)).any (·.1) = false := by intro _; rfl) :
    EvOK P q sc (.Call (.Name (Str.ofString "min") p) [e, g] [] pos) (.min pe pg) :=
  ev_bi (args_cons' he (args_cons' hg args_nil' hse2) hse) hn (by decide +kernel) (by decide) (fun n ρ H Q X hw => ⟨fun as H' => match as with | [a, b] => (intW a fun i => intW b fun j => Q (.int (min i j)) H') | _ => False, hw, fun f st R s vs as H' Qc Ec has hs hq hv => by
    match as, hq with
    | [a, b], hq =>
      obtain ⟨u, v, rfl, hr, hr2⟩ := all2 has
      cases a with
      | int i => cases b with
        | int j =>
          obtain ⟨t, rfl⟩ := hr; obtain ⟨t', rfl⟩ := hr2
          obtain ⟨m, news, F, M, N, hh, ap⟩ := id hs
          refine min_two_N st.handled F N fun h' tk F' N' => ?_
          rw [show (if j < i then j else i) = min i j by split <;> omega]
          exact hv.i ⟨m, news, F', M, N', hh, ap⟩ hq
        | _ => exact hq.elim
      | _ => exact hq.elim⟩) hl (by decide) hse hpl
theorem typ_sound {n : Nat} {f : Fd q sc} (st : Stn P n f) {R : List (Addr × Obj)} {ρ : AM} {H : AH} {s : Shared} {Q : QV} {Qc : Value → Shared → Prop} {Ec : Value → Shared → Prop} {a : AV} {u : Value}
    (hs : Sim f.h₀ f.L ρ H R s.heap) (ha : a.R u) (hw : typW P.S a H Q) (hv : PostV f ρ R s Q Qc) : wpAny (model P.prog P.w) f.A (call (.type "type") [u]) Qc Ec s := by
  cases a with
  | int i => obtain ⟨t, rfl⟩ := ha; exact call_type_of (typeIs_int _ _ _) (by decide) (hv.t hs hw)
  | bool b => cases ha; exact call_type_of (PySem.typeIs_bool _ _) (by decide) (hv.t hs hw)
  | str x => obtain ⟨t, rfl⟩ := ha; exact call_type_of (typeIs_str _ _ _) (by decide) (hv.t hs hw)
  | ref a =>
    cases ha
    obtain ⟨o, h1, h2⟩ := hw
    have vw := hs.view st.stat h1
    cases o with
    | li xs => obtain ⟨vs, hl, hi⟩ := vw; exact call_type_of hl.typeIs (by decide) (hv.t hs h2)
    | tup as => obtain ⟨vs, hl, hi⟩ := vw; exact call_type_of hl.typeIs (by decide) (hv.t hs h2)
    | ls xs => obtain ⟨vs, hl, hi⟩ := vw; exact call_type_of hl.typeIs (by decide) (hv.t hs h2)
  | _ => exact hw.elim
theorem ev_type {e : Expr} {p : Pos} {pe : PE} (he : EvOK P q sc e pe) (hn : nsIn P.K mainGlobals (Str.ofString "type") = some none) (hl : ∀ L a cd, (envOf q sc L a cd).kindOf (Str.ofString "type") = some .globalImplicit := by intros; rfl)
    (hse : ∀ f : Fd q sc, starEach [e] f.env = (false, eval e f.env) :: starEach [] f.env := by intro _; rfl) :
    EvOK P q sc (.Call (.Name (Str.ofString "type") p) [e] [] pos) (.typeOf pe) :=
  ev_ty (args_cons' he args_nil' hse) hn (by decide +kernel) (by decide) (fun n ρ H Q X hw => ⟨fun as H' => match as with | [a] => typW P.S a H' Q | _ => False, hw, fun f st R s vs as H' Qc Ec has hs hq hv => by
    match as, hq with
    | [a], hq =>
      obtain ⟨v, rfl, hr⟩ := all1 (as := []) has
      exact typ_sound st hs hr hq hv⟩) hl (by decide) hse
theorem app_sound {f : Fd q sc} {R : List (Addr × Obj)} {ρ : AM} {H : AH} {s : Shared} {Q : QV} {Qc : Value → Shared → Prop} {Ec : Value → Shared → Prop} {a : Addr} {b : AV} {v : Value}
    (hs : Sim f.h₀ f.L ρ H R s.heap) (hb : b.R v) (hw : appW (.ref a) b H Q) (hv : PostV f ρ R s Q Qc) : wpAny (model P.prog P.w) f.A (call (.builtin "list.append") [.ref a, v]) Qc Ec s := by
  obtain ⟨m, news, F, M, N, hr, ap⟩ := id hs
  cases b with
  | int i =>
    obtain ⟨t, rfl⟩ := hb
    obtain ⟨xs, h1, h2, h3⟩ := hw
    obtain ⟨ob, hm, vs, c, rfl, hi⟩ := hr _ _ h1
    have hg := (N _ (List.mem_append_left _ hm)).1
    refine append_at hg (fun h' hs' ho' => hv.n (hs.upd (o := .li (xs ++ [i])) ⟨_, h1⟩ hg hs' ho' ⟨vs ++ [.int i t], c + 1, by simp, hi.append (.cons _ _ .nil)⟩) h3) (by simp only [List.size_toArray, hi.length]; exact big_line h2)
  | str x =>
    obtain ⟨t, rfl⟩ := hb
    obtain ⟨xs, h1, h2, h3⟩ := hw
    obtain ⟨ob, hm, vs, c, rfl, hi⟩ := hr _ _ h1
    have hg := (N _ (List.mem_append_left _ hm)).1
    have happ : ∀ {vs ws : List Value} {ns ms : List Str}, StrsAre vs ns → StrsAre ws ms → StrsAre (vs ++ ws) (ns ++ ms) := by
      intro vs ws ns ms h k
      induction h with
      | nil => exact k
      | cons y t _ ih => exact .cons y t ih
    have hlen : vs.length = xs.length := by
      clear h1 h2 h3 hm hg hs
      induction hi with
      | nil => rfl
      | cons _ _ _ ih => simp [ih]
    refine append_at hg (fun h' hs' ho' => hv.n (hs.upd (o := .ls (xs ++ [x])) ⟨_, h1⟩ hg hs' ho' ⟨vs ++ [.str x t], c + 1, by simp, happ hi (.cons _ _ .nil)⟩) h3) (by simp only [List.size_toArray, hlen]; exact big_line h2)
  | _ => exact hw.elim
theorem app_plain {f : Fd q sc} {R : List (Addr × Obj)} {ρ : AM} {H : AH} {h : Heap} {a : Addr} {o : AO} (hs : Sim f.h₀ f.L ρ H R h) (hm : (a, o) ∈ H) (hl : (∃ xs, o = .li xs) ∨ ∃ xs, o = .ls xs) : ∃ its, PlainL h a its := by
  obtain ⟨m, news, F, M, N, hr, ap⟩ := hs
  obtain ⟨ob, h1, h2⟩ := hr _ _ hm
  have hg := (N _ (List.mem_append_left _ h1)).1
  rcases hl with ⟨xs, rfl⟩ | ⟨xs, rfl⟩
  · obtain ⟨vs, c, rfl, hi⟩ := h2
    exact ⟨_, _, _, hg, rfl, rfl, rfl⟩
  · obtain ⟨vs, c, rfl, hi⟩ := h2
    exact ⟨_, _, _, hg, rfl, rfl, rfl⟩
theorem ev_append {o e : Expr} {apos : Pos} {po pe : PE} (ho : EvOK P q sc o po) (he : EvOK P q sc e pe) (hbase : ∀ f : Fd q sc, attributeBase o "append" f.env (eval o f.env) = eval o f.env := by intro _; rfl)
    (hfew : ∀ f : Fd q sc, ((backTo pos (starEach [e] f.env)).all (fun x => !x.1) && (backToKw pos (keywordEach [] f.env)).all (fun x => x.1.isSome) && decide (([e] : List Expr).length + ([] : List Keyword).length + (if ([] : List Keyword).isEmpty then 0 else 1) < 30)) = true := by intro _; rfl)
    (hline : (apos.endLine == pos.line) = true := by rfl) (htrees : ∀ f : Fd q sc, backTo pos (starEach [e] f.env) = [(false, eval e f.env)] := by intro _; rfl) :
    EvOK P q sc (.Call (.Attribute o "append" apos) [e] [] pos) (.append po pe) := fun n f st R ρ H s Q X Qc Ec hs hw hv hx => by
  refine wpAny_Call_append (hbase f) (hfew f) hline (htrees f) (ho n f st R ρ H s _ _ _ _ hs hw (fun u a H₁ h₁ t₁ ha hs₁ hw₁ => ?_) hx)
  obtain ⟨⟨b, ob, rfl, hm, hl⟩, hw₂⟩ := hw₁
  cases ha
  obtain ⟨its, hp⟩ := app_plain (f := f) hs₁ hm hl
  exact ⟨b, its, rfl, hp, he n f st R ρ H₁ _ _ _ _ _ hs₁ hw₂ (fun v c H₂ h₂ t₂ hb hs₂ hw₃ => app_sound (f := f) hs₂ hb hw₃ hv) hx⟩
end
end
section
open PySem PySem.W PySem.Spec PySem.Calls PyProof.Rows
def PostF {q : Str} {sc : Scope} (f : Fd q sc) (R : List (Addr × Obj)) (s : Shared) (Qn : QN) (Qr : QV) (Fc : Flow → Shared → Prop) : Prop :=
  (∀ ρ' H' h' tk, Sim f.h₀ f.L ρ' H' R h' → Qn ρ' H' → Fc .next { s with heap := h', toks := tk }) ∧
  (∀ v av ρ' H' h' tk, av.R v → Sim f.h₀ f.L ρ' H' R h' → Qr av H' → Fc (.ret v) { s with heap := h', toks := tk })
def PostXS {q : Str} {sc : Scope} (f : Fd q sc) (R : List (Addr × Obj)) (s : Shared) (X : XS) (Ec : Value → Shared → Prop) : Prop :=
  ∀ c ρ' H' e h' tk, X c ρ' H' → Exn f ρ' R c H' e { s with heap := h', toks := tk } → Ec e { s with heap := h', toks := tk }
theorem PostXS.at {q : Str} {sc : Scope} {f : Fd q sc} {R : List (Addr × Obj)} {s : Shared} {X : XS} {Ec : Value → Shared → Prop} (h : PostXS f R s X Ec) (ρ : AM) : PostX f ρ R s (fun c H => X c ρ H) Ec := fun c H' e h' tk hx he => h c ρ H' e h' tk hx he.to

def StOK (P : Pm) (q : Str) (sc : Scope) (st : Stmt) (ps : PS) : Prop :=
  ∀ (n : Nat) (f : Fd q sc), Stn P n f → ∀ (R : List (Addr × Obj)) (ρ : AM) (H : AH) (s : Shared) (Qn : QN) (Qr : QV) (X : XS) (Fc : Flow → Shared → Prop) (Ec : Value → Shared → Prop), Sim f.h₀ f.L ρ H R s.heap → WS (P.cx n) ps ρ H Qn Qr X →
    PostF f R s Qn Qr Fc → PostXS f R s X Ec → wpAny (model P.prog P.w) f.A (exec st f.env) Fc Ec s
def ExOK (P : Pm) (q : Str) (sc : Scope) (ss : List Stmt) (ps : PS) : Prop :=
  ∀ (n : Nat) (f : Fd q sc), Stn P n f → ∀ (R : List (Addr × Obj)) (ρ : AM) (H : AH) (s : Shared) (Qn : QN) (Qr : QV) (X : XS) (Fc : Flow → Shared → Prop) (Ec : Value → Shared → Prop), Sim f.h₀ f.L ρ H R s.heap → WS (P.cx n) ps ρ H Qn Qr X →
    PostF f R s Qn Qr Fc → PostXS f R s X Ec → wpAny (model P.prog P.w) f.A (execs ss f.env) Fc Ec s

section
variable {P : Pm} {q : Str} {sc : Scope} {pos : Pos}
theorem ex_nil : ExOK P q sc [] .skip := fun n f st R ρ H s Qn Qr X Fc Ec hs hw hf hx => wpAny_execs_nil (hf.1 _ _ _ _ hs hw)
theorem ex_one {s₁ : Stmt} {p₁ : PS} (h₁ : StOK P q sc s₁ p₁) : ExOK P q sc [s₁] p₁ := fun n f st R ρ H s Qn Qr X Fc Ec hs hw hf hx =>
  wpAny_execs_cons (h₁ n f st R ρ H s Qn Qr X _ Ec hs hw ⟨fun ρ' H' h' tk hs' hq => wpAny_execs_nil (hf.1 _ _ _ _ hs' hq), fun v av ρ' H' h' tk hr hs' hq => hf.2 _ _ _ _ _ _ hr hs' hq⟩ hx)
theorem ex_cons {s₁ : Stmt} {ss : List Stmt} {p₁ ps : PS} (h₁ : StOK P q sc s₁ p₁) (h₂ : ExOK P q sc ss ps) : ExOK P q sc (s₁ :: ss) (.seq p₁ ps) := fun n f st R ρ H s Qn Qr X Fc Ec hs hw hf hx =>
  wpAny_execs_cons (h₁ n f st R ρ H s _ Qr X _ Ec hs hw ⟨fun ρ' H' h' tk hs' hq => h₂ n f st R ρ' H' _ Qn Qr X Fc Ec hs' hq ⟨fun _ _ _ _ a b => hf.1 _ _ _ _ a b, fun _ _ _ _ _ _ a b c => hf.2 _ _ _ _ _ _ a b c⟩ (fun _ _ _ _ _ _ a b => hx _ _ _ _ _ _ a b), fun v av ρ' H' h' tk hr hs' hq => hf.2 _ _ _ _ _ _ hr hs' hq⟩ hx)

theorem st_ret {e : Expr} {pe : PE} (he : EvOK P q sc e pe) : StOK P q sc (.Return (some e) pos) (.ret pe) := fun n f st R ρ H s Qn Qr X Fc Ec hs hw hf hx =>
  wpAny_Return_some (he n f st R ρ H s _ _ _ _ hs hw (fun v av H' h' tk hr hs' hq => hf.2 _ _ _ _ _ _ hr hs' hq) (hx.at ρ))
theorem store_sound {n : Nat} {f : Fd q sc} (st : Stn P n f) {R : List (Addr × Obj)} {ρ : AM} {H : AH} {s : Shared} {x : String} {av : AV} {v : Value} {Q : Unit → Shared → Prop} {Ec : Value → Shared → Prop} (hs : Sim f.h₀ f.L ρ H R s.heap) (hr : av.R v)
    (h : ∀ h' tk, Sim f.h₀ f.L (mset ρ x av) H R h' → Q () { s with heap := h', toks := tk }) (hl : ∀ L a cd, (envOf q sc L a cd).kindOf (Str.ofString x) = some .local) : wpAny (model P.prog P.w) f.A (storeName f.env (Str.ofString x) v) Q Ec s := by
  obtain ⟨m, news, F, M, N, hh, ap⟩ := hs
  exact stN F N (fun h' F' N' => h h' _ ⟨_, news, F', M.set hr, N', hh, ap⟩) st.kind (hl _ _ _)
theorem st_assign {x : String} {e : Expr} {pe : PE} {px : Pos} (he : EvOK P q sc e pe) (hl : ∀ L a cd, (envOf q sc L a cd).kindOf (Str.ofString x) = some .local := by intros; rfl)
    (hsw : ∀ f : Fd q sc, swapsWith e (some (.Name (Str.ofString x) px)) pos.line f.env = pure false := by intro _; rfl) : StOK P q sc (.Assign [.Name (Str.ofString x) px] e pos) (.assign x pe) := fun n f st R ρ H s Qn Qr X Fc Ec hs hw hf hx =>
  wpAny_Assign_Name (he n f st R ρ H s _ _ _ _ hs hw (fun v av H' h' tk hr hs' hq => store_sound st hs' hr (fun h'' tk' hs'' => hf.1 _ _ _ _ hs'' hq) hl) (hx.at ρ)) (hsw f)
theorem aug_sound {n : Nat} {f : Fd q sc} (st : Stn P n f) {R : List (Addr × Obj)} {ρ : AM} {H : AH} {s : Shared} {Q : QV} {Qc : Value → Shared → Prop} {Ec : Value → Shared → Prop} {op : Operator} {a b : AV} {u v : Value}
    (hs : Sim f.h₀ f.L ρ H R s.heap) (ha : a.R u) (hb : b.R v) (hw : augW op a b H Q) (hv : PostV f ρ R s Q Qc) : wpAny (model P.prog P.w) f.A (inplaceOp op u v) Qc Ec s := by
  unfold augW at hw
  split at hw
  · obtain ⟨t, rfl⟩ := ha; obtain ⟨t', rfl⟩ := hb; exact iadd_int (hv.i hs hw)
  · obtain ⟨t, rfl⟩ := ha; obtain ⟨t', rfl⟩ := hb; exact isub_int (hv.i hs hw)
  · exact hw.elim
theorem st_aug {x : String} {op : Operator} {e : Expr} {pe : PE} {px : Pos} (he : EvOK P q sc e pe) (hl : ∀ L a cd, (envOf q sc L a cd).kindOf (Str.ofString x) = some .local := by intros; rfl) :
    StOK P q sc (.AugAssign (.Name (Str.ofString x) px) op e pos) (.aug x op pe) := fun n f st R ρ H s Qn Qr X Fc Ec hs hw hf hx => by
  obtain ⟨av, h1, hw⟩ := hw
  obtain ⟨m, news, F, M, rest⟩ := id hs
  obtain ⟨v, h3, h4⟩ := M x av h1
  refine wpAny_AugAssign_Name (ldn F h3 ?_ st.kind (hl _ _ _))
  exact he n f st R ρ H s _ _ _ _ hs hw (fun u b H₁ h₁ t₁ hb hs₁ hw₁ => aug_sound st hs₁ h4 hb hw₁ fun r c H₂ h₂ t₂ hc hs₂ hw₂ => store_sound st hs₂ hc (fun h'' tk' hs'' => hf.1 _ _ _ _ hs'' hw₂) hl) (hx.at ρ)
theorem st_expr {e : Expr} {pe : PE} (he : EvOK P q sc e pe) (hi : ∀ f : Fd q sc, interactive f.env = false := by intro _; rfl) (hsw : ∀ f : Fd q sc, swapsWith e none pos.line f.env = pure false := by intro _; rfl) :
    StOK P q sc (.Expr e pos) (.expr pe) := fun n f st R ρ H s Qn Qr X Fc Ec hs hw hf hx =>
  wpAny_Expr_any (he n f st R ρ H s _ _ _ _ hs hw (fun v av H' h' tk hr hs' hq => hf.1 _ _ _ _ hs' hq.2) (hx.at ρ)) (hi f) (hsw f)
theorem st_if {c : Expr} {t e : List Stmt} {pc : PE} {pt pe : PS} (hc : TrOK P q sc c pc) (ht : ExOK P q sc t pt) (he : ExOK P q sc e pe) : StOK P q sc (.If c t e pos) (.ite pc pt pe) := fun n f st R ρ H s Qn Qr X Fc Ec hs hw hf hx =>
  wpAny_If (hc n f st R ρ H s _ _ _ _ hs hw (fun b H' h' tk hs' hq => by
    cases b with
    | true => exact ht n f st R ρ H' _ Qn Qr X Fc Ec hs' hq ⟨fun _ _ _ _ a b => hf.1 _ _ _ _ a b, fun _ _ _ _ _ _ a b c => hf.2 _ _ _ _ _ _ a b c⟩ (fun _ _ _ _ _ _ a b => hx _ _ _ _ _ _ a b)
    | false => exact he n f st R ρ H' _ Qn Qr X Fc Ec hs' hq ⟨fun _ _ _ _ a b => hf.1 _ _ _ _ a b, fun _ _ _ _ _ _ a b c => hf.2 _ _ _ _ _ _ a b c⟩ (fun _ _ _ _ _ _ a b => hx _ _ _ _ _ _ a b)) (hx.at ρ))
end
end
section
open PySem PySem.W PySem.Spec PySem.Calls PyProof.Rows
section
variable {h₀ h h' : Heap} {L I : Addr} {ρ : AM} {H : AH} {R : List (Addr × Obj)} {io io' : Obj}
theorem Sim.pushR (s : Sim h₀ L ρ H R h) (hf : io.isFreed = false) : Sim h₀ L ρ H ((h.objs.size, io) :: R) (h.push io) := by
  obtain ⟨m, news, F, M, N, hr, ap⟩ := s
  refine ⟨m, news, F.push _, M, fun p hp => ?_, hr, fun p hp q hq => ?_⟩
  · have N' := News.push F N io hf
    rcases List.mem_append.mp hp with hp | hp
    · exact N' p (.tail _ (List.mem_append_left _ hp))
    · rcases List.mem_cons.mp hp with rfl | hp
      · exact N' _ (.head _)
      · exact N' p (.tail _ (List.mem_append_right _ hp))
  · rcases List.mem_cons.mp hq with rfl | hq
    · exact Nat.ne_of_lt (Heap.lt_size (N p (List.mem_append_left _ hp)).1)
    · exact ap p hp q hq
theorem Sim.popR (s : Sim h₀ L ρ H ((I, io) :: R) h) : Sim h₀ L ρ H R h := by
  obtain ⟨m, news, F, M, N, hr, ap⟩ := s
  exact ⟨m, news, F, M, fun p hp => N p ((List.mem_append.mp hp).elim (List.mem_append_left _) fun h => List.mem_append_right _ (.tail _ h)), hr, fun p hp q hq => ap p hp q (.tail _ hq)⟩
theorem Sim.atR (s : Sim h₀ L ρ H ((I, io) :: R) h) : h.get? I = some io := by
  obtain ⟨m, news, F, M, N, hr, ap⟩ := s
  exact (N (I, io) (List.mem_append_right _ (.head _))).1
theorem Sim.setR (s : Sim h₀ L ρ H ((I, io) :: R) h) (hI : ∀ q ∈ R, q.1 ≠ I) (hs : Heap.SameBut I h h') (hg : h'.get? I = some io') : Sim h₀ L ρ H ((I, io') :: R) h' := by
  obtain ⟨m, news, F, M, N, hr, ap⟩ := s
  have z := N (I, io) (List.mem_append_right _ (.head _))
  refine ⟨m, news, F.change hs z.2.1 z.2.2, M, fun p hp => ?_, hr, fun p hp q hq => ?_⟩
  · rcases List.mem_append.mp hp with hp | hp
    · have y := N p (List.mem_append_left _ hp)
      exact ⟨(hs.2 _ (ap p hp _ (.head _))).trans y.1, y.2⟩
    · rcases List.mem_cons.mp hp with rfl | hp
      · exact ⟨hg, z.2⟩
      · have y := N p (List.mem_append_right _ (.tail _ hp))
        exact ⟨(hs.2 _ (hI p hp)).trans y.1, y.2⟩
  · rcases List.mem_cons.mp hq with rfl | hq
    · exact ap p hp (I, io) (.head _)
    · exact ap p hp q (.tail _ hq)
theorem Sim.endR (s : Sim h₀ L ρ H ((I, io) :: R) h) (hI : ∀ q ∈ R, q.1 ≠ I) (he : Heap.ExtBut I h h') : Sim h₀ L ρ H R h' := by
  obtain ⟨m, news, F, M, N, hr, ap⟩ := s
  have z := N (I, io) (List.mem_append_right _ (.head _))
  refine ⟨m, news, ⟨F.ns.at' fun o e => he _ o (Ne.symm z.2.1) e, fun b o e => he b o (fun q => ?_) (F.keep b o e), F.above⟩, M, fun p hp => ?_, hr, fun p hp q hq => ap p hp q (.tail _ hq)⟩
  · rw [q, z.2.2] at e; cases e
  · rcases List.mem_append.mp hp with hp | hp
    · have y := N p (List.mem_append_left _ hp)
      exact ⟨he _ _ (ap p hp _ (.head _)) y.1, y.2⟩
    · have y := N p (List.mem_append_right _ (.tail _ hp))
      exact ⟨he _ _ (hI p hp) y.1, y.2⟩
theorem Sim.ltR (s : Sim h₀ L ρ H R h) : ∀ q ∈ R, q.1 ≠ h.objs.size := by
  obtain ⟨m, news, F, M, N, hr, ap⟩ := s
  exact fun q hq => Nat.ne_of_lt (Heap.lt_size (N q (List.mem_append_right _ hq)).1)
end

section
variable {P : Pm} {q : Str} {sc : Scope} {pos : Pos}

/-- a for loop over an iterator that is at hand -/
theorem for_sound {n : Nat} {f : Fd q sc} (st : Stn P n f) {R : List (Addr × Obj)} {ρ : AM} {H : AH} {s : Shared} {Qn : QN} {Qr : QV} {Fc : Flow → Shared → Prop} {Ec : Value → Shared → Prop} {x : String} {px : Pos} {body : List Stmt} {pb : PS} {cnt : Nat} {it : Nat → AV} {g : AH → Prop} {I : Addr} {io : Obj}
    (Io : Nat → Obj → Prop) (hb : ExOK P q sc body pb) (hl : ∀ L a cd, (envOf q sc L a cd).kindOf (Str.ofString x) = some .local) (hI : ∀ q ∈ R, q.1 ≠ I) (hio : Io 0 io)
    (item : ∀ k io ρ H (s' : Shared) (Q : Option Value → Shared → Prop) (E : Value → Shared → Prop), k < cnt → Io k io → Sim f.h₀ f.L ρ H ((I, io) :: R) s'.heap → g H →
      (∀ v h' tk io', (it k).R v → Io (k + 1) io' → Heap.SameBut I s'.heap h' → h'.get? I = some io' → Q (some v) { s' with heap := h', toks := tk }) → wpAny (model P.prog P.w) f.A (pyNext (.ref I)) Q E s')
    (done : ∀ io ρ H (s' : Shared) (Q : Option Value → Shared → Prop) (E : Value → Shared → Prop), Io cnt io → Sim f.h₀ f.L ρ H ((I, io) :: R) s'.heap → g H →
      (∀ h', Heap.ExtBut I s'.heap h' → Q none { s' with heap := h' }) → wpAny (model P.prog P.w) f.A (pyNext (.ref I)) Q E s')
    (hs : Sim f.h₀ f.L ρ H ((I, io) :: R) s.heap) (hw : loopW x cnt it g (WS (P.cx n) pb) ρ H Qn Qr) (hf : PostF f R s Qn Qr Fc) :
    codeAny (model P.prog P.w) f.A (.forLoop (.Name (Str.ofString x) px) (.ref I) body [] f.env) (fun r s' => match r with | .ok fl => Fc fl s' | .error e => cameBackBy (model P.prog P.w) f.A f.env Ec e s') s := by
  obtain ⟨J, j0, jg, js, je⟩ := hw
  refine codeAny_forLoop (fun m s' => ∃ k ρ₁ H₁ h' tk io₁, m = cnt + 1 - k ∧ k ≤ cnt ∧ s' = { s with heap := h', toks := tk } ∧ Sim f.h₀ f.L ρ₁ H₁ ((I, io₁) :: R) h' ∧ Io k io₁ ∧ J k ρ₁ H₁) ?_ (cnt + 1) ⟨0, ρ, H, s.heap, s.toks, io, rfl, Nat.zero_le _, rfl, hs, hio, j0⟩
  rintro m s' ⟨k, ρ₁, H₁, h', tk, io₁, rfl, hk, rfl, hs₁, hi₁, hj⟩
  have hg := jg k ρ₁ H₁ hk hj
  rcases Nat.lt_or_ge k cnt with hlt | hge
  · refine item k io₁ ρ₁ H₁ _ _ _ hlt hi₁ hs₁ hg fun v h₂ tk₂ io₂ hr hi₂ hsb hat => ?_
    have hs₂ := hs₁.setR hI hsb hat
    refine wpAny_assign_Name (store_sound st hs₂ hr (fun h₃ tk₃ hs₃ => ?_) hl)
    refine hb n f st ((I, io₂) :: R) _ H₁ _ _ Qr (fun _ _ _ => False) _ _ hs₃ (js k ρ₁ H₁ hlt hj) ⟨fun ρ' H' h'' tk' hs'' hq => ?_, fun v av ρ' H' h'' tk' hr hs'' hq => ?_⟩ (fun c ρ' H' e h'' tk' hx => hx.elim)
    · obtain ⟨H₂, hsub, hj₂⟩ := hq
      exact ⟨cnt + 1 - (k + 1), by omega, k + 1, ρ', H₂, h'', tk', io₂, rfl, hlt, rfl, hs''.weak hsub, hi₂, hj₂⟩
    · exact hf.2 v av ρ' H' h'' tk' hr hs''.popR hq
  · have e : k = cnt := by omega
    subst e
    refine done io₁ ρ₁ H₁ _ _ _ hi₁ hs₁ hg fun h₂ he => wpAny_execs_nil ?_
    exact hf.1 ρ₁ H₁ h₂ tk (hs₁.endR hI he) (je ρ₁ H₁ hj)

theorem while_sound {n : Nat} {f : Fd q sc} (st : Stn P n f) {R : List (Addr × Obj)} {ρ : AM} {H : AH} {s : Shared} {Qn : QN} {Qr : QV} {Fc : Flow → Shared → Prop} {Ec : Value → Shared → Prop} {c : Expr} {pc : PE} {body : List Stmt} {pb : PS} (hc : TrOK P q sc c pc) (hb : ExOK P q sc body pb)
    (hs : Sim f.h₀ f.L ρ H R s.heap) (hw : whlW (W (P.cx n) pc) (WS (P.cx n) pb) ρ H Qn Qr) (hf : PostF f R s Qn Qr Fc) :
    codeAny (model P.prog P.w) f.A (.whileLoop c body [] f.env) (fun r s' => match r with | .ok fl => Fc fl s' | .error e => cameBackBy (model P.prog P.w) f.A f.env Ec e s') s := by
  obtain ⟨J, ⟨n₀, j0⟩, js⟩ := hw
  refine codeAny_whileLoop (fun m s' => ∃ ρ₁ H₁ h' tk, s' = { s with heap := h', toks := tk } ∧ Sim f.h₀ f.L ρ₁ H₁ R h' ∧ J m ρ₁ H₁) ?_ n₀ ⟨ρ, H, s.heap, s.toks, rfl, hs, j0⟩
  rintro m s' ⟨ρ₁, H₁, h', tk, rfl, hs₁, hj⟩
  refine hc n f st R ρ₁ H₁ _ _ (fun _ _ => False) _ _ hs₁ (js m ρ₁ H₁ hj) (fun b H₂ h₂ tk₂ hs₂ hq => ?_) (fun c H' e h'' tk' hx => hx.elim)
  cases b with
  | true =>
    refine hb n f st R ρ₁ H₂ _ _ Qr (fun _ _ _ => False) _ _ hs₂ hq ⟨fun ρ' H' h'' tk' hs'' hq => ?_, fun v av ρ' H' h'' tk' hr hs'' hq => ?_⟩ (fun c ρ' H' e h'' tk' hx => hx.elim)
    · obtain ⟨H₃, hsub, k, hk, hj₂⟩ := hq
      exact ⟨k, hk, ρ', H₃, h'', tk', rfl, hs''.weak hsub, hj₂⟩
    · exact hf.2 v av ρ' H' h'' tk' hr hs'' hq
  | false => exact wpAny_execs_nil (hf.1 ρ₁ H₂ h₂ tk₂ hs₂ hq)
theorem st_while {c : Expr} {body : List Stmt} {pc : PE} {pb : PS} (hc : TrOK P q sc c pc) (hb : ExOK P q sc body pb) : StOK P q sc (.While c body [] pos) (.whl pc pb) := fun n f st R ρ H s Qn Qr X Fc Ec hs hw hf hx =>
  wpAny_While (while_sound st hc hb hs hw hf)

theorem range_item {n : Nat} {f : Fd q sc} (st : Stn P n f) {R : List (Addr × Obj)} {I : Addr} {a c : Int} {cnt : Nat} {g : AH → Prop} : ∀ k io ρ H (s' : Shared) (Q : Option Value → Shared → Prop) (E : Value → Shared → Prop), k < cnt → (fun k (io : Obj) => ∀ h : Heap, h.get? I = some io → IsRangeIter h I (a + (k : Nat) * c) ((cnt : Int) - (k : Nat)) c) k io → Sim f.h₀ f.L ρ H ((I, io) :: R) s'.heap → g H →
      (∀ v h' tk io', (AV.int (a + (k : Int) * c)).R v → (fun k (io : Obj) => ∀ h : Heap, h.get? I = some io → IsRangeIter h I (a + (k : Nat) * c) ((cnt : Int) - (k : Nat)) c) (k + 1) io' → Heap.SameBut I s'.heap h' → h'.get? I = some io' → Q (some v) { s' with heap := h', toks := tk }) → wpAny (model P.prog P.w) f.A (pyNext (.ref I)) Q E s' := by
  intro k io ρ H s' Q E hk hio hs _ hQ
  have hit := hio _ hs.atR
  refine wpAny_pyNext_range_item hit (by omega) fun h' hit' hsb => ?_
  have e1 : a + ((k + 1 : Nat) : Int) * c = a + (k : Int) * c + c := by rw [Int.natCast_add, Int.add_mul, Int.natCast_one, Int.one_mul, Int.add_assoc]
  have e2 : (cnt : Int) - ((k + 1 : Nat) : Int) = (cnt : Int) - (k : Int) - 1 := by omega
  refine hQ _ h' _ _ ⟨_, rfl⟩ (fun h₂ hg => ?_) hsb hit'
  show IsRangeIter h₂ I (a + ((k + 1 : Nat) : Int) * c) ((cnt : Int) - ((k + 1 : Nat) : Int)) c
  rw [e1, e2]
  exact hg
theorem range_done {n : Nat} {f : Fd q sc} (st : Stn P n f) {R : List (Addr × Obj)} {I : Addr} {a c : Int} {cnt : Nat} {g : AH → Prop} : ∀ io ρ H (s' : Shared) (Q : Option Value → Shared → Prop) (E : Value → Shared → Prop), (fun k (io : Obj) => ∀ h : Heap, h.get? I = some io → IsRangeIter h I (a + (k : Nat) * c) ((cnt : Int) - (k : Nat)) c) cnt io → Sim f.h₀ f.L ρ H ((I, io) :: R) s'.heap → g H →
      (∀ h', Heap.ExtBut I s'.heap h' → Q none { s' with heap := h' }) → wpAny (model P.prog P.w) f.A (pyNext (.ref I)) Q E s' := by
  intro io ρ H s' Q E hio hs _ hQ
  exact wpAny_pyNext_range_end st.handled (hio _ hs.atR) (by omega) hQ

/-- a loop over a range object that is at hand -/
theorem for_range {n : Nat} {f : Fd q sc} (st : Stn P n f) {R : List (Addr × Obj)} {ρ : AM} {H : AH} {s : Shared} {Qn : QN} {Qr : QV} {Fc : Flow → Shared → Prop} {Ec : Value → Shared → Prop} {x : String} {px : Pos} {body : List Stmt} {pb : PS} {cnt : Nat} {r : Addr} {a b c : Int} {t u v : Tok}
    (hb : ExOK P q sc body pb) (hl : ∀ L a cd, (envOf q sc L a cd).kindOf (Str.ofString x) = some .local) (hr : IsRange s.heap r a b c t u v) (hsm : Builtin.Range.small a b c = true) (hn : Builtin.Range.rangeSize a b c = (cnt : Int))
    (hs : Sim f.h₀ f.L ρ H R s.heap) (hw : loopW x cnt (fun k => .int (a + (k : Int) * c)) (fun _ => True) (WS (P.cx n) pb) ρ H Qn Qr) (hf : PostF f R s Qn Qr Fc) :
    wpAny (model P.prog P.w) f.A (pyIter (.ref r)) (fun it s₂ => codeAny (model P.prog P.w) f.A (.forLoop (.Name (Str.ofString x) px) it body [] f.env) (fun r s' => match r with | .ok fl => Fc fl s' | .error e => cameBackBy (model P.prog P.w) f.A f.env Ec e s') s₂) Ec s := by
  refine wpAny_pyIter_range hr hsm ?_
  refine for_sound st (R := R) (I := s.heap.objs.size) (s := { s with heap := _ }) (fun k (io : Obj) => ∀ h : Heap, h.get? s.heap.objs.size = some io → IsRangeIter h s.heap.objs.size (a + (k : Nat) * c) ((cnt : Int) - (k : Nat)) c) hb hl hs.ltR ?_ (range_item st) (range_done st) (hs.pushR rfl) hw hf
  intro h hg
  show IsRangeIter h _ (a + ((0 : Nat) : Int) * c) ((cnt : Int) - ((0 : Nat) : Int)) c
  rw [← hn, show a + ((0 : Nat) : Int) * c = a by simp, show Builtin.Range.rangeSize a b c - ((0 : Nat) : Int) = Builtin.Range.rangeSize a b c by simp]
  exact hg
theorem loop_congr {x : String} {cnt : Nat} {it it' : Nat → AV} {g : AH → Prop} {body : AM → AH → QN → QV → XS → Prop} {ρ : AM} {H : AH} {Qn : QN} {Qr : QV} (e : it = it') (h : loopW x cnt it g body ρ H Qn Qr) : loopW x cnt it' g body ρ H Qn Qr := e ▸ h
theorem st_for1 {x : String} {e : Expr} {body : List Stmt} {pe : PE} {pb : PS} {px p p2 : Pos} (he : EvOK P q sc e pe) (hb : ExOK P q sc body pb) (hn : nsIn P.K mainGlobals (Str.ofString "range") = some none) (hl : ∀ L a cd, (envOf q sc L a cd).kindOf (Str.ofString x) = some .local := by intros; rfl)
    (hlr : ∀ L a cd, (envOf q sc L a cd).kindOf (Str.ofString "range") = some .globalImplicit := by intros; rfl) (hse : ∀ f : Fd q sc, starEach [e] f.env = (false, eval e f.env) :: starEach [] f.env := by intro _; rfl) :
    StOK P q sc (.For (.Name (Str.ofString x) px) (.Call (.Name (Str.ofString "range") p) [e] [] p2) body [] pos) (.for1 x pe pb) := fun n f st R ρ H s Qn Qr X Fc Ec hs hw hf hx => by
  obtain ⟨m, news, F, M, rest⟩ := id hs
  refine wpAny_For (wpAny_Call_NameR (name_B F st.X (topRead_of st.T) hn (by decide +kernel : bootBuiltins (Str.ofString "range") = some (.type "range")) (by decide) ?_ st.kind (hlr _ _ _) (by decide)))
  refine Pv.callWith_type1 (spliced_more (he n f st R ρ H s _ _ _ _ hs hw (fun u a H₁ h₁ t₁ ha hs₁ hw₁ => spliced_none ?_) (hx.at ρ)) (hse f)) (hse f)
  cases a with
  | int i =>
    obtain ⟨t, rfl⟩ := ha
    obtain ⟨hlo, hi, hw₁⟩ := hw₁
    unfold BIG at hi hlo
    refine call_range_1 (for_range st (cnt := i.toNat) hb hl (IsRange.new ..) (small_one (by decide) (by decide) (by omega) (by omega)) (by rw [rangeSize_one]; split <;> omega) (hs₁.keeps fun b o e => Heap.get?_push_of_some _ e) (loop_congr ?_ hw₁) hf)
    funext k; rw [Int.mul_one, Int.zero_add]
  | _ => exact hw₁.elim
end
end
section
open PySem PySem.W PySem.Spec PySem.Calls PyProof.Rows
theorem bindM_rel : ∀ {ps : List String} {as : List AV} {vs : List Value}, AllR as vs → vs.length = ps.length → ps.Nodup → MRel (bindM ps as) (fun y => ((ps.map Str.ofString).zip vs).reverse.lookup y)
  | [], _, _, h, hl, _ => by
    intro x av e
    cases h with
    | nil => exact absurd e (by unfold bindM; simp)
    | cons _ _ => simp at hl
  | p :: ps, _, _, h, hl, hn => by
    cases h with
    | nil => simp at hl
    | cons ha hr =>
      rename_i a v as vs
      intro x av e
      have ih := bindM_rel (ps := ps) hr (by simpa using hl) (List.nodup_cons.mp hn).2
      simp only [List.map_cons, List.zip_cons_cons, List.reverse_cons, List.lookup_append]
      have e' : (if x = p then some a else bindM ps as x) = some av := e
      by_cases hx : x = p
      · rw [if_pos hx] at e'
        cases e'
        subst hx
        have hno : ((ps.map Str.ofString).zip vs).reverse.lookup (Str.ofString x) = none := by
          rw [List.lookup_eq_none_iff]
          intro y hy
          have h1 := List.mem_reverse.mp hy
          have h2 := (List.of_mem_zip h1).1
          obtain ⟨z, hz, e2⟩ := List.mem_map.mp h2
          rw [← e2]
          simp only [beq_eq_false_iff_ne, ne_eq, bne_iff_ne]
          intro q
          exact (List.nodup_cons.mp hn).1 (Str.ofString_inj q ▸ hz)
        refine ⟨v, ?_, ha⟩
        rw [hno]
        simp [List.lookup]
      · rw [if_neg hx] at e'
        obtain ⟨v', h1, h2⟩ := ih x av e'
        have h1' : ((ps.map Str.ofString).zip vs).reverse.lookup (Str.ofString x) = some v' := h1
        exact ⟨v', by rw [h1']; rfl, h2⟩

theorem call_sound {P : Pm} {n : Nat} {g : String} {ps : List String} {pb : PS} {as : List AV} {H : AH} {Q : QV} {X : XV}
    {name qual : Str} {params : Arguments} {body : List Stmt} {scope : Scope} {dV kV doc pm cdv ct oc : Value} {an od : Option Addr} {osl : Array (Option Value)}
    (ho : P.K.lookup (P.addr g) = some ⟨oc, od, .func (fnOf name qual params body scope dV kV doc pm an cdv ct), osl⟩) (hcd : codeIn P.K cdv qual = true)
    (hbind : ∀ (s : Shared) (vs : List Value), vs.length = ps.length → BindsTo s (fnOf name qual params body scope dV kV doc pm an cdv ct) ⟨vs, []⟩ ((ps.map Str.ofString).zip vs)) (hnd : ps.Nodup)
    (hloc : ∀ p ∈ ps, scope.names.lookup (Str.ofString p) = some .local) (hco : scope.isCoroutine = false) (hgen : scope.isGenerator = false) (hk : scope.kind = .function) (hcell : ∀ x ∈ scope.names, x.2 ≠ .cell)
    (hb : ExOK P qual scope body pb) (hql : qual ≠ Str.ofString "law") (hl : as.length = ps.length)
    (hw : WS (P.cx n) pb (bindM ps as) H (fun _ H' => Weak (Q .none) H') (fun v H' => Weak (Q v) H') (fun c _ H' => Weak (X c) H')) : CallOK P (n + 1) g as H Q X := by
  intro q sc f st R ρ s vals Qc Ec hs has hv hx
  obtain ⟨m, news, F, M, N, hr, ap⟩ := id hs
  obtain ⟨A₁, eA, B⟩ := st.at_
  have hlen : vals.length = ps.length := by rw [has.len, hl]
  have frames : f.A.frames = some (f.env :: f.outer) := by rw [eA]; exact Around.frames_deeper B.stack
  refine wpAny_call (code_def B F st.X N st.T frames rfl st.kind ho hcd (by have := st.room; omega) (hbind s vals hlen) ?_ ?_ hco hgen hk hcell)
  · intro y hy
    obtain ⟨z, hz, e⟩ := List.mem_map.mp (List.of_mem_zip hy).1
    rw [← e]; exact hloc z hz
  · intro gr L' h₁ FG F' N' B' X' T'
    let f' : Fd qual scope := { A := f.A.deeper (envOf qual scope L' (P.addr g) cdv), L := L', fa := P.addr g, cd := cdv, outer := f.env :: f.outer, base := f.base, h₀ := gr }
    have st' : Stn P n f' := {
      at_ := ⟨f.A, rfl, B'⟩
      X := X'
      T := T'
      kind := hk
      gen := hgen
      co := hco
      handled := st.handled
      room := by have := st.room; show f.A.depth + 1 + n + 200 < recursionLimit; omega
      units := by have := st.units; show f.A.units + 3 + 8 * n + 100 < cLine; omega
      stat := fun a o hm => (st.stat a o hm).keeps FG.keep
      tree := st.tree
      imps := st.imps
      root := fun e => absurd e hql }
    have sim' : Sim gr L' (bindM ps as) H R h₁ := ⟨_, news, F', bindM_rel has hlen hnd, N', hr, ap⟩
    have leave : ∀ (v : Value) (av : AV) (ρ' : AM) (H' : AH) (h' : Heap) (tk : Nat), av.R v → Sim gr L' ρ' H' R h' → Weak (Q av) H' →
        LeaveK f.h₀ f.L m gr (fun r s' => match r with | .ok (.ret v) => Qc v s' | .ok _ => False | .error e => Ec e s') v { s with heap := h', toks := tk } := by
      rintro v av ρ' H' h' tk hrv ⟨m', news', F'', M'', N'', hr'', ap''⟩ ⟨H₂, hsub, hq⟩
      exact ⟨L', m', news' ++ R, F'', N'', fun F₀ N₀ => hv v av H₂ h' tk hrv ⟨m, news', F₀, M, N₀, fun a o hm => hr'' a o (hsub _ hm), ap''⟩ hq⟩
    refine hb n f' st' R (bindM ps as) H _ _ _ _ _ _ sim' hw ⟨fun ρ' H' h' tk hs' hq => ?_, fun v av ρ' H' h' tk hrv hs' hq => ?_⟩ ?_
    · exact leave .none .none ρ' H' h' tk rfl hs' hq
    · exact leave v av ρ' H' h' tk hrv hs' hq
    · rintro c ρ' H' e h' tk ⟨H₂, hsub, hxc⟩ ⟨ea, m', news', vs', rfl, M', hr', ap', hcase⟩
      have hr₂ : HRel H₂ news' := fun a o hm => hr' a o (hsub _ hm)
      rcases hcase with ⟨h, Fh, Nh, hmade⟩ | ⟨g₂, t, Fg, hR, hup⟩
      · exact leave_raiseK B' hmade Fh Nh (fun h'' t hR hup => hx c H₂ _ h'' tk hxc ⟨ea, m, news', vs', rfl, M, hr₂, ap', ⟨gr, t, FG, hR, hup⟩⟩) hk
      · exact leave_onK B' Fg hR hup (fun h'' hR' hup' => hx c H₂ _ h'' tk hxc ⟨ea, m, news', vs', rfl, M, hr₂, ap', ⟨gr, t, FG, hR', hup'⟩⟩)
end
section
open PySem PySem.W PySem.Spec PySem.Calls PyProof.Rows
/-- the i-th statement of a text, a def: its body, its scope, its parameters -/
def bdAt (p : Program) (i : Nat) : List Stmt := match p.main.body[i]? with
  | some (.FunctionDef _ _ b _ _ _ _ _ _ _) => b
  | _ => []
def scAt (p : Program) (i : Nat) : Scope := match p.main.body[i]? with
  | some (.FunctionDef _ _ _ _ _ _ sc _ _ _) => sc
  | _ => { kind := .function, names := [], isGenerator := false, isCoroutine := false, more := [] }
theorem Stn.less {P : Pm} {n n' : Nat} {q : Str} {sc : Scope} {f : Fd q sc} (st : Stn P n' f) (h : n ≤ n') : Stn P n f := { st with
  room := by have := st.room; omega
  units := by have := st.units; omega }
def Pm.wd (P : Pm) : Wd where
  S := P.S
  G := P.G
  fn := CallOK P
  mono := fun h c q sc f st => c q sc f (st.less h)

end
section
open PySem PySem.W PySem.Spec PySem.Calls PyProof.Rows
section
variable {P : Pm} {q : Str} {sc : Scope} {pos : Pos}

theorem Sim.more {h₀ h h' : Heap} {L : Addr} {ρ : AM} {H : AH} {R : List (Addr × Obj)} (s : Sim h₀ L ρ H R h) (he : Heap.ExtBut h.objs.size h h') : Sim h₀ L ρ H R h' := by
  obtain ⟨m, news, F, M, N, hr, ap⟩ := s
  exact ⟨m, news, F.extBut he (Nat.le_refl _), M, N.extBut he (Nat.le_refl _), hr, ap⟩

theorem st_unpack {x y : String} {e : Expr} {pe : PE} {px py tp : Pos} {k : Nat} (he : EvOK P q sc e pe) (hlx : ∀ L a cd, (envOf q sc L a cd).kindOf (Str.ofString x) = some .local := by intros; rfl) (hly : ∀ L a cd, (envOf q sc L a cd).kindOf (Str.ofString y) = some .local := by intros; rfl)
    (hsw : ∀ f : Fd q sc, swapsWithSole [.Tuple [.Name (Str.ofString x) px, .Name (Str.ofString y) py] k tp] e pos.line f.env = pure false := by intro _; rfl)
    (hss : ∀ f : Fd q sc, swappedStores [.Tuple [.Name (Str.ofString x) px, .Name (Str.ofString y) py] k tp] e f.env = pure none := by intro _; rfl) :
    StOK P q sc (.Assign [.Tuple [.Name (Str.ofString x) px, .Name (Str.ofString y) py] k tp] e pos) (.unpack x y pe) := fun n f st R ρ H s Qn Qr X Fc Ec hs hw hf hx => by
  refine Assign_Tuple (he n f st R ρ H s _ _ _ _ hs hw (fun v av H' h' tk hr hs' hq => ?_) (hx.at ρ)) (hsw f) (hss f)
  obtain ⟨a, u, w, rfl, hh, hq⟩ := hq
  cases hr
  obtain ⟨vs, hT, hall⟩ := hs'.view st.stat hh
  obtain ⟨v1, v2, rfl, r1, r2⟩ := all2 hall
  refine assign_Tuple_tuple st.handled hT rfl rfl fun h'' hex => ?_
  refine assignInOrder_cons (assign_Name (store_sound st (hs'.more hex) r1 (fun h₃ t₃ hs₃ => ?_) hlx))
  refine assignInOrder_cons (assign_Name (store_sound st hs₃ r2 (fun h₄ t₄ hs₄ => ?_) hly))
  exact assignInOrder_nil (hf.1 _ _ _ _ hs₄ hq)

/-! try, in the frame of the law -/
def PostXC {q : Str} {sc : Scope} (f : Fd q sc) (R : List (Addr × Obj)) (s : Shared) (X : XS) (Ec : Value → Shared → Prop) : Prop :=
  ∀ c ρ' H' e h' tk, X c ρ' H' → ExnC f ρ' R c H' e { s with heap := h', toks := tk } → Ec e { s with heap := h', toks := tk }
theorem PostXC.at {f : Fd q sc} {R : List (Addr × Obj)} {s : Shared} {X : XS} {Ec : Value → Shared → Prop} (h : PostXC f R s X Ec) (ρ : AM) : PostX f ρ R s (fun c H => X c ρ H) Ec := fun c H' e h' tk hx he => h c ρ H' e h' tk hx he
/-- a statement that raises in calls alone -/
def StC (P : Pm) (q : Str) (sc : Scope) (st : Stmt) (ps : PS) : Prop :=
  ∀ (n : Nat) (f : Fd q sc), Stn P n f → ∀ (R : List (Addr × Obj)) (ρ : AM) (H : AH) (s : Shared) (Qn : QN) (Qr : QV) (X : XS) (Fc : Flow → Shared → Prop) (Ec : Value → Shared → Prop), Sim f.h₀ f.L ρ H R s.heap → WS (P.cx n) ps ρ H Qn Qr X →
    PostF f R s Qn Qr Fc → PostXC f R s X Ec → wpAny (model P.prog P.w) f.A (exec st f.env) Fc Ec s
/-- a suite of a handler, that raises nothing -/
def HdOK (P : Pm) (q : Str) (sc : Scope) (ss : List Stmt) (ps : PS) : Prop :=
  ∀ (A : Around) (n : Nat) (f : Fd q sc), Stn P n f → ∀ (R : List (Addr × Obj)) (ρ : AM) (H : AH) (s : Shared) (Qn : QN) (Qr : QV) (X : XS) (Fc : Flow → Shared → Prop) (Ec : Value → Shared → Prop), Sim f.h₀ f.L ρ H R s.heap → WS (P.cx n) ps ρ H Qn Qr X →
    PostF f R s Qn Qr Fc → wpAny (model P.prog P.w) A (execs ss f.env) Fc Ec s
/-- the name of a built-in class is the class -/
structure FreeName (P : Pm) (x : Str) : Prop where
  h1 : x ∉ startupNames
  h2 : x ∉ P.loose
  h3 : x ∉ (recsOf P.p).map (·.name)
  h4 : x ∉ (litsOf P.p).map (·.1)
  h4c : x ∉ (clssOf P.p P.loose).map (·.name)
  hn : x ≠ "__name__"

end
end
section
open PySem PySem.W PySem.Spec PySem.Calls PyProof.Rows
section
variable {P : Pm} {q : Str} {sc : Scope} {pos : Pos}
end
end
section
open PySem PySem.W PySem.Spec PySem.Calls PyProof.Rows
/-! expressions that leave the frame's map as it was -/
def SimM (h₀ : Heap) (L : Addr) (m : Str → Option Value) (ρ : AM) (H : AH) (h : Heap) : Prop :=
  ∃ news, Fr h₀ L h m ∧ MRel ρ m ∧ News h₀ L h (news ++ []) ∧ HRel H news ∧ Apart news []
theorem SimM.to {h₀ : Heap} {L : Addr} {m : Str → Option Value} {ρ : AM} {H : AH} {h : Heap} (s : SimM h₀ L m ρ H h) : Sim h₀ L ρ H [] h := let ⟨n, r⟩ := s; ⟨m, n, r⟩
theorem simM_new {h₀ h' : Heap} {L D : Addr} {ρ : AM} {H : AH} {m : Str → Option Value} {news : List (Addr × Obj)} {o : AO} {ob : Obj} (M : MRel ρ m) (hr : HRel H news) (F' : Fr h₀ L h' m)
    (N' : News h₀ L h' ((D, ob) :: (news ++ []))) (ho : o.R ob) : SimM h₀ L m ρ ((D, o) :: H) h' := by
  refine ⟨(D, ob) :: news, F', M, N', fun a o' hm => ?_, fun p hp q hq => nomatch hq⟩
  rcases List.mem_cons.mp hm with e | hm
  · cases e; exact ⟨ob, .head _, ho⟩
  · obtain ⟨ob', h1, h2⟩ := hr a o' hm; exact ⟨ob', .tail _ h1, h2⟩
section
variable {P : Pm} {q : Str} {sc : Scope} {pos : Pos}
def EvM (P : Pm) (q : Str) (sc : Scope) (e : Expr) (pe : PE) : Prop :=
  ∀ (n : Nat) (f : Fd q sc), Stn P n f → ∀ (m : Str → Option Value) (ρ : AM) (H : AH) (s : Shared) (Q : QV) (X : XV) (Qc : Value → Shared → Prop) (Ec : Value → Shared → Prop), SimM f.h₀ f.L m ρ H s.heap → W (P.cx n) pe ρ H Q X →
    (∀ v av H' h' tk, av.R v → SimM f.h₀ f.L m ρ H' h' → Q av H' → Qc v { s with heap := h', toks := tk }) → wpAny (model P.prog P.w) f.A (eval e f.env) Qc Ec s
theorem em_loc {x : String} (hl : ∀ L a cd, (envOf q sc L a cd).kindOf (Str.ofString x) = some .local := by intros; rfl) (hd : (Str.ofString x == ("__debug__" : Str)) = false := by decide) :
    EvM P q sc (.Name (Str.ofString x) pos) (.loc x) := fun n f st m ρ H s Q X Qc Ec hs hw hv => by
  obtain ⟨av, h1, h2⟩ := hw
  obtain ⟨news, F, M, rest⟩ := id hs
  obtain ⟨v, h3, h4⟩ := M x av h1
  exact ld F h3 (hv _ _ _ _ _ h4 hs h2) st.kind (hl _ _ _) hd
theorem em_cat {l r : Expr} {pl pr : PE} (hl : EvM P q sc l pl) (hr : EvM P q sc r pr) : EvM P q sc (.BinOp l .Add r pos) (.bin .Add pl pr) := fun n f st m ρ H s Q X Qc Ec hs hw hv => by
  refine wpAny_BinOp (hl n f st m ρ H s _ _ _ _ hs hw (fun u a H₁ h₁ t₁ ha hs₁ hw₁ => hr n f st m ρ H₁ _ _ _ _ _ hs₁ hw₁ (fun v b H₂ h₂ t₂ hb hs₂ hw₂ => ?_)))
  unfold opW at hw₂
  split at hw₂ <;> try (first | exact hw₂.elim | contradiction)
  · obtain ⟨t, rfl⟩ := ha; obtain ⟨t', rfl⟩ := hb
    exact add_int (hv _ (.int _) _ _ _ ⟨_, rfl⟩ hs₂ hw₂)
  · obtain ⟨xs, ys, h1, h2, h3, h4⟩ := hw₂
    cases ha; cases hb
    obtain ⟨vs, l1, i1⟩ := hs₂.to.view st.stat h1
    obtain ⟨ws, l2, i2⟩ := hs₂.to.view st.stat h2
    obtain ⟨news, F, M, N, hr, ap⟩ := id hs₂
    refine add_lists F N l1 l2 (fun h' F' N' => ?_) (big_line (by rw [i1.length, i2.length]; exact h3))
    exact hv _ (.ref _) _ _ _ rfl (simM_new M hr F' N' (R_li (i1.append i2))) (h4 _ (fresh_of hr (sizes N)))
end

/-! a generator expression at the end of the law: the law's code keeps a record of it, so the frame's ground grows -/
section
variable {P : Pm} {sc : Scope} {pos : Pos}
/-- the rest of the law, told by ps; it ends in True -/
def ExL (P : Pm) (sc : Scope) (ss : List Stmt) (ps : PS) : Prop :=
  ∀ (n : Nat) (f : Fd (Str.ofString "law") sc), Stn P n f → ∀ (c Pa bm : Addr) (ob : Obj), Based f.h₀ f.h₀ c Pa #[] → f.cd = .ref c → BMod f.h₀ mainGlobals P.mg bm ob →
    ∀ (ρ : AM) (H : AH) (s : Shared) (Fc : Flow → Shared → Prop) (Ec : Value → Shared → Prop), Sim f.h₀ f.L ρ H [] s.heap → AllBare s.gens → WS (P.cx n) ps ρ H (fun _ _ => False) (fun v _ => v = .bool true) (fun _ _ _ => False) →
    (∀ (h₀' : Heap) (ps' : Array Value) (s' : Shared) (m' : Str → Option Value), Based f.h₀ h₀' c Pa ps' → Fr h₀' f.L s'.heap m' → AllBare s'.gens → s'.os = s.os → Fc (.ret (.bool true)) s') →
    wpAny (model P.prog P.w) f.A (execs ss f.env) Fc Ec s
theorem exl_cons {s₁ : Stmt} {ss : List Stmt} {p₁ ps : PS} (h₁ : StOK P (Str.ofString "law") sc s₁ p₁) (h₂ : ExL P sc ss ps) : ExL P sc (s₁ :: ss) (.seq p₁ ps) := fun n f st c Pa bm ob B hcd M ρ H s Fc Ec hs hg hw hend =>
  wpAny_execs_cons (h₁ n f st [] ρ H s _ _ _ _ Ec hs hw ⟨fun ρ' H' h' tk hs' hq => h₂ n f st c Pa bm ob B hcd M ρ' H' _ Fc Ec hs' hg hq fun h₀' ps' s' m' b f' g o => hend h₀' ps' s' m' b f' g o, fun v av ρ' H' h' tk hr hs' hq => by
    have hq' : av = .bool true := hq
    subst hq'
    cases hr
    obtain ⟨m', news', F', _⟩ := hs'
    exact hend _ _ _ m' B F' hg rfl⟩ (fun c ρ' H' e h' tk hx => hx.elim))

theorem exl_all {x : String} {e : Expr} {pe : PE} {px ap gp p1 p2 p3 p4 p5 p6 p7 p8 p9 p10 p11 : Pos} {k1 k2 : Nat} {gs : Scope} (he : EvM P (Str.ofString "law") sc e pe)
    (hna : nsIn P.K mainGlobals (Str.ofString "all") = some none) (hnt : nsIn P.K mainGlobals (Str.ofString "type") = some none) (hni : nsIn P.K mainGlobals (Str.ofString "int") = some none)
    (hl : ∀ L a cd, (envOf (Str.ofString "law") sc L a cd).kindOf (Str.ofString "all") = some .globalImplicit := by intros; rfl)
    (hk : gs.kind = .function := by rfl) (hco : gs.isCoroutine = false := by rfl) (hclos : ∀ f : Fd (Str.ofString "law") sc, closureFor gs f.env = pure [] := by intro _; rfl) (hcell : ∀ y ∈ gs.names, y.2 ≠ .cell := by decide)
    (h0 : gs.names.lookup (".0" : Str) = some NameKind.local := by rfl) (hxl : gs.names.lookup (Str.ofString x) = some NameKind.local := by rfl) (htl : gs.names.lookup (Str.ofString "type") = some NameKind.globalImplicit := by rfl) (hil : gs.names.lookup (Str.ofString "int") = some NameKind.globalImplicit := by rfl)
    (hfold : ∀ (f : Fd (Str.ofString "law") sc) v, genFold e f.env v = pure v := by intro _ _; rfl)
    (hx : (Str.ofString x == ("__debug__" : Str)) = false := by decide) :
    ExL P sc [.If (.UnaryOp .Not (.Call (.Name (Str.ofString "all") p1) [.GeneratorExp (.Compare (.Call (.Name (Str.ofString "type") p2) [.Name (Str.ofString x) p3] [] p4) [.Is] [.Name (Str.ofString "int") p5] p6) [⟨.Name (Str.ofString x) px, e, [], 0⟩] gs gp] [] ap) p7)
        [.Return (some (.Constant (.bool false) k1 p8)) p9] [] pos, .Return (some (.Constant (.bool true) k2 p10)) p11]
      (.seq (.ite (.not (.allInt pe)) (.ret (.bool false)) .skip) (.ret (.bool true))) := fun n f st c Pa bm ob B hcd M ρ H s Fc Ec hs hg hw hend => by
  have T := topRead_of st.T
  refine wpAny_execs_cons (wpAny_If (isTrue_not (isTrue_plain ?_ rfl)))
  obtain ⟨m, news, F, MR, N, hr, ap'⟩ := id hs
  refine wpAny_Call_NameR (name_B F st.X T hna (v := .builtin "all") (by decide +kernel) (by decide) ?_ st.kind (hl _ _ _) (by decide))
  refine PyProof.Rows.callWith_builtin1 (spliced_more ?_ rfl) rfl rfl
  refine GeneratorExp_DF (K := ItemKind.int) (L := f.L) (m := m) (pz := fun _ => true) (d := fun _ => PyData.bool true) (cl := []) B M hcd rfl st.handled hco (hclos f) hcell h0 hxl hk (by have := st.room; omega) ?_ (hfold f)
  refine he n f st m ρ H s _ _ _ _ ⟨news, F, MR, N, hr, ap'⟩ hw (fun v av H₁ h₁ t₁ hav hs₁ hw₁ => ?_)
  obtain ⟨a, xs, rfl, hh, hlen, hq⟩ := hw₁
  cases hav
  obtain ⟨vs, hL, hI⟩ := hs₁.to.view st.stat hh
  obtain ⟨news₁, F₁, MR₁, N₁, hr₁, ap₁⟩ := id hs₁
  have hLs : f.L < h₁.objs.size := by
    obtain ⟨o, es, ep, ho, _⟩ := F₁.ns
    exact Heap.lt_size ho
  refine ⟨a, vs, xs, f.L, rfl, hL, hI.areOf, F₁, hg, st.T.nolimit.keeps F₁.keep, Nat.le_refl _, hLs, ?_, ?_, ?_⟩
  · intro c' C A' E' a' v u m₂ _ _ _ _ _ _ _ _ _
    exact wpAny_pure ⟨rfl, u.heap, u.toks, rfl, fun _ _ e => e⟩
  · intro c' C A' E' a' v u m₂ hA hD hU hmem hka _ F₂ hm₂ hLC hkeep
    obtain ⟨t, rfl⟩ := hka
    have G₂ : u.heap.Ns mainGlobals P.mg := (LGe.ns_regrown B T.g).keeps F₂.keep
    have B₂ : u.heap.Ns builtinsNs P.mb := (LGe.ns_regrown B T.b).keeps F₂.keep
    refine wpAny_Compare1 ?_ (by with_unfolding_all rfl)
    refine wpAny_Call_NameR ?_
    refine Calls.Name_function_global hk ?_ (Calls.loadGlobal_builtin (v := .type "type") G₂ (mg_none_of st.X T.g hnt) B₂ ((T.builtins _ (by decide)).trans (by decide +kernel)) ?_) (by decide)
    · exact htl
    refine Pv.callWith_type1 (spliced_more (ldVarG F₂ hm₂ (spliced_none ?_) hk ?_ hx) rfl) rfl rfl
    · refine call_type_of (typeIs_int _ _ _) (by decide) ?_
      refine Calls.Name_function_global hk ?_ (Calls.loadGlobal_builtin (v := .type "int") G₂ (mg_none_of st.X T.g hni) B₂ ((T.builtins _ (by decide)).trans (by decide +kernel)) ?_) (by decide)
      · exact hil
      exact wpAny_is_plain rfl (by rw [is_t]; exact ⟨.bool true, u.heap, u.toks, rfl, fun _ _ e => e⟩)
    · exact hxl
  · intro c' a' s₅ B' F' G' hos hk' X
    refine spliced_none ?_
    refine all_genD F' G' X (Nat.le_refl _) fun s' F'' G'' hos' hk'' => ?_
    have e : ((List.filter (fun _ => true) xs).all fun _ => true) = true := by simp
    rw [e]
    refine wpAny_truthy_bool ?_
    rw [if_neg (by decide)]
    refine wpAny_execs_nil (wpAny_execs_cons (wpAny_Return_some (Constant_bool ?_)))
    exact hend _ _ s' m B' F'' G'' (hos'.trans hos)

theorem law_finalG {body : List Stmt} {pb : PS} {s₁ : Shared} {h₁ : Heap} {tk : Nat} {cd : Value} {fa L l c Pa bm : Addr} {ob : Obj} {m : Str → Option Value} {Fc : Flow → Shared → Prop} {Ec : Value → Shared → Prop}
    (hb : ExL P sc body pb) (hX : P.K.In s₁.heap) (hT : Top P.p P.loose P.mean P.mg P.mb s₁.heap) (K0 : Below callerA s₁.heap [] s₁.heap) (F : Fr s₁.heap L h₁ m) (hm : m (Str.ofString "script") = some (.ref l))
    (hB : Based s₁.heap s₁.heap c Pa #[]) (hcd : cd = .ref c) (hM : BMod s₁.heap mainGlobals P.mg bm ob) (hg : AllBare s₁.gens)
    (hS : ∀ a o, (a, o) ∈ P.S → View s₁.heap a o) (kind : sc.kind = .function) (gen : sc.isGenerator = false) (co : sc.isCoroutine = false) (tree : P.prog.given.tree = none) (imps : importsNone P.p = true)
    (hw : WS (P.cx 60) pb (bindM ["script"] [.ref l]) [] (fun _ _ => False) (fun v _ => v = .bool true) (fun _ _ _ => False))
    (hend : ∀ (h₀' : Heap) (ps' : Array Value) (s' : Shared) (m' : Str → Option Value), Based s₁.heap h₀' c Pa ps' → Fr h₀' L s'.heap m' → AllBare s'.gens → s'.os = s₁.os → Fc (.ret (.bool true)) s') :
    wpAny (model P.prog P.w) (callerA.deeper (envOf (Str.ofString "law") sc L fa cd)) (execs body (envOf (Str.ofString "law") sc L fa cd)) Fc Ec { s₁ with heap := h₁, toks := tk } := by
  let f : Fd (Str.ofString "law") sc := { A := callerA.deeper (envOf (Str.ofString "law") sc L fa cd), L := L, fa := fa, cd := cd, outer := [], base := s₁.heap, h₀ := s₁.heap }
  have st : Stn P 60 f := {
    at_ := ⟨callerA, rfl, K0⟩
    X := hX
    T := hT
    kind := kind
    gen := gen
    co := co
    handled := rfl
    room := by show 301 + 1 + 60 + 200 < 1000; decide
    units := by show 4 + 3 + 8 * 60 + 100 < 9900; decide
    stat := hS
    tree := tree
    imps := imps
    root := fun _ => rfl }
  refine hb 60 f st c Pa bm ob hB hcd hM _ [] _ _ _ ⟨m, [], F, ?_, fun p hp => (nomatch hp), fun a o hm => (nomatch hm), fun p hp => (nomatch hp)⟩ hg hw hend
  intro x av e
  by_cases hx : x = "script"
  · subst hx
    have e' : some (AV.ref l) = some av := e
    cases e'
    exact ⟨_, hm, rfl⟩
  · have e' : (if x = "script" then some (AV.ref l) else none) = some av := e
    rw [if_neg hx] at e'; cases e'
end
end
section
open PySem PySem.W PySem.Spec PySem.Calls PyProof.Rows
def b_law_cell : PS :=
  (.seq (.ite (.cmp .Lt (.loc "i") (.len (.loc "script"))) (.ret (.idx (.loc "script") (.loc "i"))) .skip)
  (.ret (.int 0)))

def b_law_natural : PS :=
  (.seq (.assign "limbs" .lst0)
  (.seq (.for1 "i" (.bin .Sub (.loc "n") (.int 1)) (.seq (.assign "c" (.call "_law_cell" (.cons (.loc "script") (.cons (.bin .Add (.int 4) (.loc "i")) .nil))))
  (.ite (.cmp .Eq (.bin .Mod (.loc "c") (.int 3)) (.int 0)) (.expr (.append (.loc "limbs") (.int 0))) (.expr (.append (.loc "limbs") (.bin .Mod (.loc "c") (.int 10000)))))))
  (.seq (.ite (.cmp .Gt (.loc "n") (.int 0)) (.expr (.append (.loc "limbs") (.bin .Add (.int 1) (.bin .Mod (.call "_law_cell" (.cons (.loc "script") (.cons (.int 3) .nil))) (.int 9999))))) .skip)
  (.ret (.loc "limbs")))))

def b_law_value : PS :=
  (.seq (.assign "v" (.int 0))
  (.seq (.for1 "i" (.len (.loc "limbs")) (.assign "v" (.bin .Add (.loc "v") (.bin .Mult (.idx (.loc "limbs") (.loc "i")) (.bin .Pow (.int 10000) (.loc "i"))))))
  (.ret (.loc "v"))))

def b_law_spelled : PS :=
  (.seq (.assign "limbs" .lst0)
  (.seq (.whl (.cmp .Gt (.loc "v") (.int 0)) (.seq (.expr (.append (.loc "limbs") (.bin .Mod (.loc "v") (.int 10000))))
  (.assign "v" (.bin .FloorDiv (.loc "v") (.int 10000)))))
  (.ret (.loc "limbs"))))

def b_law : PS :=
  (.seq (.assign "n" (.bin .Mod (.call "_law_cell" (.cons (.loc "script") (.cons (.int 0) .nil))) (.int 7)))
  (.seq (.assign "a" (.call "_law_natural" (.cons (.loc "script") (.cons (.loc "n") .nil))))
  (.seq (.assign "was" (.slAll (.loc "a")))
  (.seq (.assign "m" (.call "_law_cell" (.cons (.loc "script") (.cons (.int 1) .nil))))
  (.seq (.assign "k" (.bin .Mod (.loc "m") (.int 9)))
  (.seq (.ite (.cmp .Eq (.bin .Mod (.call "_law_cell" (.cons (.loc "script") (.cons (.int 2) .nil))) (.int 4)) (.int 1)) (.assign "k" (.bin .Add (.loc "n") (.abs (.loc "m")))) .skip)
  (.seq (.assign "cut" (.bin .Pow (.int 10000) (.min (.loc "k") (.loc "n"))))
  (.seq (.assign "value" (.call "_law_value" (.cons (.loc "was") .nil)))
  (.seq (.assign "got" (.call "split_at" (.cons (.loc "a") (.cons (.loc "k") .nil))))
  (.seq (.ite (.cmp .IsNot (.typeOf (.loc "got")) (.typ "tuple")) (.ret (.bool false)) .skip)
  (.seq (.ite (.cmp .NotEq (.len (.loc "got")) (.int 2)) (.ret (.bool false)) .skip)
  (.seq (.unpack "low" "high" (.loc "got"))
  (.seq (.ite (.cmp .IsNot (.typeOf (.loc "low")) (.typ "list")) (.ret (.bool false)) .skip)
  (.seq (.ite (.cmp .IsNot (.typeOf (.loc "high")) (.typ "list")) (.ret (.bool false)) .skip)
  (.seq (.ite (.cmp .NotEq (.loc "a") (.loc "was")) (.ret (.bool false)) .skip)
  (.seq (.expr (.append (.loc "a") (.int 1)))
  (.seq (.ite (.cmp .NotEq (.loc "low") (.call "_law_spelled" (.cons (.bin .Mod (.loc "value") (.loc "cut")) .nil))) (.ret (.bool false)) .skip)
  (.seq (.ite (.cmp .NotEq (.loc "high") (.call "_law_spelled" (.cons (.bin .FloorDiv (.loc "value") (.loc "cut")) .nil))) (.ret (.bool false)) .skip)
  (.seq (.ite (.not (.allInt (.bin .Add (.loc "low") (.loc "high")))) (.ret (.bool false)) .skip)
  (.ret (.bool true)))))))))))))))))))))

/-- the defs of the text, in their pure forms -/
structure Defs (w : Wd) : Prop where
  trimmed : w.Def "trimmed" ["a"] b_trimmed
  split_at : w.Def "split_at" ["a", "k"] b_split_at
  law_cell : w.Def "_law_cell" ["script", "i"] b_law_cell
  law_natural : w.Def "_law_natural" ["script", "n"] b_law_natural
  law_value : w.Def "_law_value" ["limbs"] b_law_value
  law_spelled : w.Def "_law_spelled" ["v"] b_law_spelled

structure KF (P : Pm) : Prop where
  b_abs : nsIn P.K mainGlobals (Str.ofString "abs") = some none
  b_all : nsIn P.K mainGlobals (Str.ofString "all") = some none
  b_int : nsIn P.K mainGlobals (Str.ofString "int") = some none
  t_int : bootBuiltins (Str.ofString "int") = some (.type "int")
  b_len : nsIn P.K mainGlobals (Str.ofString "len") = some none
  b_list : nsIn P.K mainGlobals (Str.ofString "list") = some none
  t_list : bootBuiltins (Str.ofString "list") = some (.type "list")
  b_min : nsIn P.K mainGlobals (Str.ofString "min") = some none
  b_range : nsIn P.K mainGlobals (Str.ofString "range") = some none
  b_tuple : nsIn P.K mainGlobals (Str.ofString "tuple") = some none
  t_tuple : bootBuiltins (Str.ofString "tuple") = some (.type "tuple")
  b_type : nsIn P.K mainGlobals (Str.ofString "type") = some none
  f_law_cell : nsIn P.K mainGlobals (Str.ofString "_law_cell") = some (some (.ref (P.addr "_law_cell"))) ∧ keepIn P.K (.ref (P.addr "_law_cell")) = true
  f_law_natural : nsIn P.K mainGlobals (Str.ofString "_law_natural") = some (some (.ref (P.addr "_law_natural"))) ∧ keepIn P.K (.ref (P.addr "_law_natural")) = true
  f_law_spelled : nsIn P.K mainGlobals (Str.ofString "_law_spelled") = some (some (.ref (P.addr "_law_spelled"))) ∧ keepIn P.K (.ref (P.addr "_law_spelled")) = true
  f_law_value : nsIn P.K mainGlobals (Str.ofString "_law_value") = some (some (.ref (P.addr "_law_value"))) ∧ keepIn P.K (.ref (P.addr "_law_value")) = true
  f_split_at : nsIn P.K mainGlobals (Str.ofString "split_at") = some (some (.ref (P.addr "split_at"))) ∧ keepIn P.K (.ref (P.addr "split_at")) = true
  f_trimmed : nsIn P.K mainGlobals (Str.ofString "trimmed") = some (some (.ref (P.addr "trimmed"))) ∧ keepIn P.K (.ref (P.addr "trimmed")) = true

theorem ok_trimmed {P : Pm} (k : KF P) : ExOK P (Str.ofString "trimmed") (scAt PySem.Challenge.pw_k8_0011 1) (bdAt PySem.Challenge.pw_k8_0011 1) b_trimmed := by
  unfold b_trimmed
  with_unfolding_all exact (ex_cons (st_assign (ev_len ev_loc k.b_len))
    (ex_cons (st_while (tr_and (tr_cmp ev_loc ev_int) (tr_and1 (tr_cmp (ev_idx ev_loc (ev_bin ev_loc ev_int)) ev_int))) (ex_one (st_aug ev_int)))
    (ex_one (st_ret (ev_slTo ev_loc ev_loc)))))

theorem ok_split_at {P : Pm} (k : KF P) : ExOK P (Str.ofString "split_at") (scAt PySem.Challenge.pw_k8_0011 2) (bdAt PySem.Challenge.pw_k8_0011 2) b_split_at := by
  unfold b_split_at
  with_unfolding_all exact (ex_one (st_ret (ev_tup (args_cons' (ev_call (args_cons' (ev_slTo ev_loc ev_loc) args_nil') k.f_trimmed.1 k.f_trimmed.2) (args_cons' (ev_slFrom ev_loc ev_loc) args_nil')))))

theorem ok_law_cell {P : Pm} (k : KF P) : ExOK P (Str.ofString "_law_cell") (scAt PySem.Challenge.pw_k8_0011 4) (bdAt PySem.Challenge.pw_k8_0011 4) b_law_cell := by
  unfold b_law_cell
  with_unfolding_all exact (ex_cons (st_if (tr_cmp ev_loc (ev_len ev_loc k.b_len)) (ex_one (st_ret (ev_idx ev_loc ev_loc))) ex_nil)
    (ex_one (st_ret ev_int)))

theorem ok_law_natural {P : Pm} (k : KF P) : ExOK P (Str.ofString "_law_natural") (scAt PySem.Challenge.pw_k8_0011 5) (bdAt PySem.Challenge.pw_k8_0011 5) b_law_natural := by
  unfold b_law_natural
  with_unfolding_all exact (ex_cons (st_assign ev_lst0)
    (ex_cons (st_for1 (ev_bin ev_loc ev_int) (ex_cons (st_assign (ev_call (args_cons' ev_loc (args_cons' (ev_bin ev_int ev_loc) args_nil')) k.f_law_cell.1 k.f_law_cell.2))
    (ex_one (st_if (tr_cmp (ev_bin ev_loc ev_int) ev_int) (ex_one (st_expr (ev_append ev_loc ev_int))) (ex_one (st_expr (ev_append ev_loc (ev_bin ev_loc ev_int))))))) k.b_range)
    (ex_cons (st_if (tr_cmp ev_loc ev_int) (ex_one (st_expr (ev_append ev_loc (ev_bin ev_int (ev_bin (ev_call (args_cons' ev_loc (args_cons' ev_int args_nil')) k.f_law_cell.1 k.f_law_cell.2) ev_int))))) ex_nil)
    (ex_one (st_ret ev_loc)))))

theorem ok_law_value {P : Pm} (k : KF P) : ExOK P (Str.ofString "_law_value") (scAt PySem.Challenge.pw_k8_0011 6) (bdAt PySem.Challenge.pw_k8_0011 6) b_law_value := by
  unfold b_law_value
  with_unfolding_all exact (ex_cons (st_assign ev_int)
    (ex_cons (st_for1 (ev_len ev_loc k.b_len) (ex_one (st_assign (ev_bin ev_loc (ev_bin (ev_idx ev_loc ev_loc) (ev_bin ev_int ev_loc))))) k.b_range)
    (ex_one (st_ret ev_loc))))

theorem ok_law_spelled {P : Pm} (k : KF P) : ExOK P (Str.ofString "_law_spelled") (scAt PySem.Challenge.pw_k8_0011 7) (bdAt PySem.Challenge.pw_k8_0011 7) b_law_spelled := by
  unfold b_law_spelled
  with_unfolding_all exact (ex_cons (st_assign ev_lst0)
    (ex_cons (st_while (tr_cmp ev_loc ev_int) (ex_cons (st_expr (ev_append ev_loc (ev_bin ev_loc ev_int)))
    (ex_one (st_assign (ev_bin ev_loc ev_int)))))
    (ex_one (st_ret ev_loc))))

theorem ok_law {P : Pm} (k : KF P) : ExL P (scAt PySem.Challenge.pw_k8_0011 8) (bdAt PySem.Challenge.pw_k8_0011 8) b_law := by
  unfold b_law
  with_unfolding_all exact (exl_cons (st_assign (ev_bin (ev_call (args_cons' ev_loc (args_cons' ev_int args_nil')) k.f_law_cell.1 k.f_law_cell.2) ev_int))
    (exl_cons (st_assign (ev_call (args_cons' ev_loc (args_cons' ev_loc args_nil')) k.f_law_natural.1 k.f_law_natural.2))
    (exl_cons (st_assign (ev_slAll ev_loc))
    (exl_cons (st_assign (ev_call (args_cons' ev_loc (args_cons' ev_int args_nil')) k.f_law_cell.1 k.f_law_cell.2))
    (exl_cons (st_assign (ev_bin ev_loc ev_int))
    (exl_cons (st_if (tr_cmp (ev_bin (ev_call (args_cons' ev_loc (args_cons' ev_int args_nil')) k.f_law_cell.1 k.f_law_cell.2) ev_int) ev_int) (ex_one (st_assign (ev_bin ev_loc (ev_abs ev_loc k.b_abs)))) ex_nil)
    (exl_cons (st_assign (ev_bin ev_int (ev_min ev_loc ev_loc k.b_min)))
    (exl_cons (st_assign (ev_call (args_cons' ev_loc args_nil') k.f_law_value.1 k.f_law_value.2))
    (exl_cons (st_assign (ev_call (args_cons' ev_loc (args_cons' ev_loc args_nil')) k.f_split_at.1 k.f_split_at.2))
    (exl_cons (st_if (tr_cmp (ev_type ev_loc k.b_type) (ev_typ k.b_tuple k.t_tuple (by decide))) (ex_one (st_ret ev_bool)) ex_nil)
    (exl_cons (st_if (tr_cmp (ev_len ev_loc k.b_len) ev_int) (ex_one (st_ret ev_bool)) ex_nil)
    (exl_cons (st_unpack ev_loc)
    (exl_cons (st_if (tr_cmp (ev_type ev_loc k.b_type) (ev_typ k.b_list k.t_list (by decide))) (ex_one (st_ret ev_bool)) ex_nil)
    (exl_cons (st_if (tr_cmp (ev_type ev_loc k.b_type) (ev_typ k.b_list k.t_list (by decide))) (ex_one (st_ret ev_bool)) ex_nil)
    (exl_cons (st_if (tr_cmp ev_loc ev_loc) (ex_one (st_ret ev_bool)) ex_nil)
    (exl_cons (st_expr (ev_append ev_loc ev_int))
    (exl_cons (st_if (tr_cmp ev_loc (ev_call (args_cons' (ev_bin ev_loc ev_loc) args_nil') k.f_law_spelled.1 k.f_law_spelled.2)) (ex_one (st_ret ev_bool)) ex_nil)
    (exl_cons (st_if (tr_cmp ev_loc (ev_call (args_cons' (ev_bin ev_loc ev_loc) args_nil') k.f_law_spelled.1 k.f_law_spelled.2)) (ex_one (st_ret ev_bool)) ex_nil)
    (exl_all (em_cat em_loc em_loc) k.b_all k.b_type k.b_int)))))))))))))))))))
end
section
open PySem
theorem cell_spec (w : Wd) (hd : w.Def "_law_cell" ["script", "i"] b_law_cell) {lv l : Nat} {ns : List Int} {i : Int} {H : AH} {Q : QV} {X : XV}
    (hs : Has w.S H l (.li ns)) (hn : ns.length ≤ 1000) (h0 : 0 ≤ i) (hQ : ∀ c, Q (.int c) H) : w.fn (lv + 1) "_law_cell" [.ref l, .int i] H Q X := by
  refine hd.step rfl ?_
  unfold b_law_cell
  simp only [wE, String.reduceEq, ↓reduceIte, true_and, Bool.false_eq_true, decide_eq_true_eq, Bool.not_eq_true', decide_eq_false_iff_not, ite_not]
  refine lenW_ints hs (len1000 hn) ?_
  simp only [wE, String.reduceEq, ↓reduceIte, true_and, Bool.false_eq_true, decide_eq_true_eq, Bool.not_eq_true', decide_eq_false_iff_not, ite_not]
  split
  · refine idxW_ints hs (len1000 hn) h0 (by omega) ?_
    exact weak_of (hQ _)
  · (refine seqK_ ?_; simp only [wE, String.reduceEq, ↓reduceIte, true_and, Bool.false_eq_true, decide_eq_true_eq, Bool.not_eq_true', decide_eq_false_iff_not, ite_not])
    exact weak_of (hQ _)

theorem natural_spec (w : Wd) (D : Defs w) {lv l n : Nat} {ns : List Int} {H : AH} {Q : QV} {X : XV} (hs : Has w.S H l (.li ns)) (hl : ns.length ≤ 1000) (hn : n ≤ 6)
    (hQ : ∀ la N, Fresh H la → (dig N).length = n → Q (.ref la) ((la, .li (dig N)) :: H)) : w.fn (lv + 2) "_law_natural" [.ref l, .int n] H Q X := by
  refine D.law_natural.step rfl ?_
  unfold b_law_natural
  simp only [wE, String.reduceEq, ↓reduceIte, true_and, Bool.false_eq_true, decide_eq_true_eq, Bool.not_eq_true', decide_eq_false_iff_not, ite_not]
  intro la hla
  (refine seqK_ ?_; simp only [wE, String.reduceEq, ↓reduceIte, true_and, Bool.false_eq_true, decide_eq_true_eq, Bool.not_eq_true', decide_eq_false_iff_not, ite_not])
  refine ⟨by unfold BIG; omega, by unfold BIG; omega, loopW_t (fun j ρ H' => ∃ xs, H' = (la, .li xs) :: H ∧ ρ "limbs" = some (.ref la) ∧ ρ "script" = some (.ref l) ∧ ρ "n" = some (.int n) ∧ xs.length = j ∧ Lim xs) ⟨[], rfl, rfl, rfl, rfl, rfl, lim_nil⟩ ?_ ?_⟩
  · rintro j ρ H' hj ⟨xs, rfl, r1, r2, r3, h1, h2⟩
    simp only [wE, String.reduceEq, ↓reduceIte, true_and, Bool.false_eq_true, decide_eq_true_eq, Bool.not_eq_true', decide_eq_false_iff_not, ite_not, r2]
    refine cell_spec w D.law_cell (Has.cons hs) hl (by omega) fun c => ?_
    (refine seqK_ ?_; simp only [wE, String.reduceEq, ↓reduceIte, true_and, Bool.false_eq_true, decide_eq_true_eq, Bool.not_eq_true', decide_eq_false_iff_not, ite_not, r1])
    refine ⟨by decide, ?_⟩
    split
    · refine appW_head hla (by unfold BIG; omega) ?_
      simp only [wE, String.reduceEq, ↓reduceIte, true_and, Bool.false_eq_true, decide_eq_true_eq, Bool.not_eq_true', decide_eq_false_iff_not, ite_not]
      exact inv_ ⟨_, rfl, r1, r2, r3, by simp [h1], lim_append.mpr ⟨h2, lim_cons.mpr ⟨by omega, lim_nil⟩⟩⟩
    · refine ⟨by decide, appW_head hla (by unfold BIG; omega) ?_⟩
      simp only [wE, String.reduceEq, ↓reduceIte, true_and, Bool.false_eq_true, decide_eq_true_eq, Bool.not_eq_true', decide_eq_false_iff_not, ite_not]
      exact inv_ ⟨_, rfl, r1, r2, r3, by simp [h1], lim_append.mpr ⟨h2, lim_cons.mpr ⟨by omega, lim_nil⟩⟩⟩
  · rintro ρ H' ⟨xs, rfl, r1, r2, r3, h1, h2⟩
    (refine seqK_ ?_; simp only [wE, String.reduceEq, ↓reduceIte, true_and, Bool.false_eq_true, decide_eq_true_eq, Bool.not_eq_true', decide_eq_false_iff_not, ite_not, r1, r2, r3])
    split
    · refine cell_spec w D.law_cell (Has.cons hs) hl (by omega) fun c => ?_
      simp only [wE, String.reduceEq, ↓reduceIte, true_and, Bool.false_eq_true, decide_eq_true_eq, Bool.not_eq_true', decide_eq_false_iff_not, ite_not]
      refine ⟨by decide, appW_head hla (by unfold BIG; omega) ?_⟩
      simp only [wE, String.reduceEq, ↓reduceIte, true_and, Bool.false_eq_true, decide_eq_true_eq, Bool.not_eq_true', decide_eq_false_iff_not, ite_not]
      (refine seqK_ ?_; simp only [wE, String.reduceEq, ↓reduceIte, true_and, Bool.false_eq_true, decide_eq_true_eq, Bool.not_eq_true', decide_eq_false_iff_not, ite_not, r1])
      have hL : Lim (xs ++ [1 + c % 9999]) := lim_append.mpr ⟨h2, lim_cons.mpr ⟨by omega, lim_nil⟩⟩
      have e := dig_of hL (top0_snoc (by omega))
      rw [e]
      refine weak_of (hQ la _ hla ?_)
      rw [← e]
      simp [h1]
      omega
    · (refine seqK_ ?_; simp only [wE, String.reduceEq, ↓reduceIte, true_and, Bool.false_eq_true, decide_eq_true_eq, Bool.not_eq_true', decide_eq_false_iff_not, ite_not, r1])
      obtain rfl : n = 0 := by omega
      have : xs = [] := List.eq_nil_of_length_eq_zero (by omega)
      subst this
      have := hQ la 0 hla (by rw [dig_zero]; rfl)
      rw [dig_zero] at this
      exact weak_of this

theorem value_spec (w : Wd) (D : Defs w) {lv a : Nat} {xs : List Int} {H : AH} {Q : QV} {X : XV} (ha : Has w.S H a (.li xs)) (hx : Lim xs) (hl : xs.length ≤ 1000) (hQ : Q (.int (val xs)) H) : w.fn (lv + 1) "_law_value" [.ref a] H Q X := by
  refine D.law_value.step rfl ?_
  unfold b_law_value
  simp only [wE, String.reduceEq, ↓reduceIte, true_and, Bool.false_eq_true, decide_eq_true_eq, Bool.not_eq_true', decide_eq_false_iff_not, ite_not]
  (refine seqK_ ?_; simp only [wE, String.reduceEq, ↓reduceIte, true_and, Bool.false_eq_true, decide_eq_true_eq, Bool.not_eq_true', decide_eq_false_iff_not, ite_not])
  refine lenW_ints ha (len1000 hl) ?_
  simp only [wE, String.reduceEq, ↓reduceIte, true_and, Bool.false_eq_true, decide_eq_true_eq, Bool.not_eq_true', decide_eq_false_iff_not, ite_not]
  refine ⟨by unfold BIG; omega, by unfold BIG; omega, loopW_t (fun j ρ H' => H' = H ∧ ρ "limbs" = some (.ref a) ∧ ρ "v" = some (.int (val (xs.take j)))) ⟨rfl, rfl, by simp [val, mset_eq]⟩ ?_ ?_⟩
  · rintro j ρ H' hj ⟨rfl, r1, r2⟩
    have hd := hx.getD j
    simp only [wE, String.reduceEq, ↓reduceIte, true_and, Bool.false_eq_true, decide_eq_true_eq, Bool.not_eq_true', decide_eq_false_iff_not, ite_not, r1, r2]
    refine idxW_ints ha (len1000 hl) (by omega) (by omega) ?_
    simp only [wE, String.reduceEq, ↓reduceIte, true_and, Bool.false_eq_true, decide_eq_true_eq, Bool.not_eq_true', decide_eq_false_iff_not, ite_not]
    rw [show ((j : Int)).toNat = j by omega]
    refine ⟨⟨by omega, by omega, by decide⟩, .inr (.inl (by omega)), inv_ ⟨rfl, r1, ?_⟩⟩
    show some (AV.int _) = _
    rw [val_take_succ', Int.mul_comm]
  · rintro ρ H' ⟨rfl, r1, r2⟩
    rw [show ((xs.length : Int)).toNat = xs.length by omega, List.take_length] at r2
    (refine seqK_ ?_; simp only [wE, String.reduceEq, ↓reduceIte, true_and, Bool.false_eq_true, decide_eq_true_eq, Bool.not_eq_true', decide_eq_false_iff_not, ite_not, r2])
    exact weak_of hQ

theorem spelled_spec (w : Wd) (D : Defs w) {lv : Nat} {n : Int} {H : AH} {Q : QV} {X : XV}
    (hn : (dig n.toNat).length ≤ 1000) (hQ : ∀ l, Fresh H l → Q (.ref l) ((l, .li (dig n.toNat)) :: H)) : w.fn (lv + 1) "_law_spelled" [.int n] H Q X := by
  refine D.law_spelled.step rfl ?_
  unfold b_law_spelled
  simp only [wE, String.reduceEq, ↓reduceIte, true_and, Bool.false_eq_true, decide_eq_true_eq, Bool.not_eq_true', decide_eq_false_iff_not, ite_not]
  intro l hl
  (refine seqK_ ?_; simp only [wE, String.reduceEq, ↓reduceIte, true_and, Bool.false_eq_true, decide_eq_true_eq, Bool.not_eq_true', decide_eq_false_iff_not, ite_not])
  refine whlW_ (fun t ρ H' => ∃ pre k, H' = (l, .li pre) :: H ∧ ρ "limbs" = some (.ref l) ∧ ρ "v" = some (.int k) ∧ pre ++ dig k.toNat = dig n.toNat ∧ t = k.toNat) n.toNat ⟨[], n, rfl, rfl, rfl, rfl, rfl⟩ ?_
  rintro t ρ H' ⟨pre, k, rfl, h1, h2, h3, rfl⟩
  simp only [wE, String.reduceEq, ↓reduceIte, true_and, Bool.false_eq_true, decide_eq_true_eq, Bool.not_eq_true', decide_eq_false_iff_not, ite_not, h2, h1]
  split
  · have e : dig k.toNat = (k % 10000) :: dig (k / 10000).toNat := by
      rw [dig_pos (by omega), show k.toNat / 10000 = (k / 10000).toNat by omega, show ((k.toNat % 10000 : Nat) : Int) = k % 10000 by omega]
    have hlen : pre.length ≤ 1000 := by have := congrArg List.length h3; rw [List.length_append] at this; omega
    refine ⟨by omega, appW_head hl (len1000 hlen) ?_⟩
    simp only [wE, String.reduceEq, ↓reduceIte, true_and, Bool.false_eq_true, decide_eq_true_eq, Bool.not_eq_true', decide_eq_false_iff_not, ite_not]
    (refine seqK_ ?_; simp only [wE, String.reduceEq, ↓reduceIte, true_and, Bool.false_eq_true, decide_eq_true_eq, Bool.not_eq_true', decide_eq_false_iff_not, ite_not, h2])
    refine ⟨by omega, invW_ _ ?_ ⟨_, _, rfl, h1, rfl, ?_, rfl⟩⟩
    · omega
    · rw [List.append_assoc, List.singleton_append, ← e]; exact h3
  · (refine seqK_ ?_; simp only [wE, String.reduceEq, ↓reduceIte, true_and, Bool.false_eq_true, decide_eq_true_eq, Bool.not_eq_true', decide_eq_false_iff_not, ite_not, h1])
    rw [show k.toNat = 0 by omega, dig_zero, List.append_nil] at h3
    rw [h3]
    exact weak_of (hQ l hl)

theorem law_main (w : Wd) (D : Defs w) {l : Nat} {ns : List Int} (hs : (l, .li ns) ∈ w.S) (hlen : ns.length ≤ 1000) :
    WS ⟨w.S, w.G, w.fn 60⟩ b_law (bindM ["script"] [.ref l]) [] (fun _ _ => False) (fun v _ => v = .bool true) (fun _ _ _ => False) := by
  unfold b_law
  simp only [wE, String.reduceEq, ↓reduceIte, true_and, Bool.false_eq_true, decide_eq_true_eq, Bool.not_eq_true', decide_eq_false_iff_not, ite_not]
  refine cell_spec w D.law_cell (.inl hs) hlen (by decide) fun c0 => ?_
  simp only [wE, String.reduceEq, ↓reduceIte, true_and, Bool.false_eq_true, decide_eq_true_eq, Bool.not_eq_true', decide_eq_false_iff_not, ite_not]
  refine ⟨by decide, ?_⟩
  obtain ⟨n, hn⟩ := Int.eq_ofNat_of_zero_le (show 0 ≤ c0 % 7 by omega)
  have hn6 : n ≤ 6 := by omega
  rw [hn]
  (refine seqK_ ?_; simp only [wE, String.reduceEq, ↓reduceIte, true_and, Bool.false_eq_true, decide_eq_true_eq, Bool.not_eq_true', decide_eq_false_iff_not, ite_not])
  refine natural_spec w D (.inl hs) hlen hn6 fun la N hla hN => ?_
  (refine seqK_ ?_; simp only [wE, String.reduceEq, ↓reduceIte, true_and, Bool.false_eq_true, decide_eq_true_eq, Bool.not_eq_true', decide_eq_false_iff_not, ite_not])
  refine sliceW_ Has.head (by unfold BIG; omega) fun lk hlk => ?_
  (refine seqK_ ?_; simp only [wE, String.reduceEq, ↓reduceIte, true_and, Bool.false_eq_true, decide_eq_true_eq, Bool.not_eq_true', decide_eq_false_iff_not, ite_not])
  refine cell_spec w D.law_cell (.inl hs) hlen (by decide) fun m => ?_
  (refine seqK_ ?_; simp only [wE, String.reduceEq, ↓reduceIte, true_and, Bool.false_eq_true, decide_eq_true_eq, Bool.not_eq_true', decide_eq_false_iff_not, ite_not])
  refine ⟨by decide, ?_⟩
  (refine seqK_ ?_; simp only [wE, String.reduceEq, ↓reduceIte, true_and, Bool.false_eq_true, decide_eq_true_eq, Bool.not_eq_true', decide_eq_false_iff_not, ite_not])
  refine cell_spec w D.law_cell (.inl hs) hlen (by decide) fun c2 => ?_
  simp only [wE, String.reduceEq, ↓reduceIte, true_and, Bool.false_eq_true, decide_eq_true_eq, Bool.not_eq_true', decide_eq_false_iff_not, ite_not]
  refine ⟨by decide, ?_⟩
  generalize hK : seqK (WS _ (.seq (.assign "cut" _) _)) _ _ _ = K
  have fin : ∀ (k : Int) (σ : AM), 0 ≤ k → σ "k" = some (.int k) → σ "n" = some (.int n) → σ "a" = some (.ref la) → σ "was" = some (.ref lk) → K σ [(lk, .li (dig N)), (la, .li (dig N))] := by
    intro k σ hk s1 s2 s3 s4
    subst hK
    (refine seqK_ ?_; simp only [wE, String.reduceEq, ↓reduceIte, true_and, Bool.false_eq_true, decide_eq_true_eq, Bool.not_eq_true', decide_eq_false_iff_not, ite_not, s1, s2])
    refine ⟨⟨by omega, by omega, by decide⟩, ?_⟩
    have hcut : cutAt k (dig N).length = (min k n).toNat := by
      unfold cutAt; rw [if_neg (by omega), hN]; omega
    generalize hj : (min k (n : Int)).toNat = j at *
    have hj6 : j ≤ 6 := by omega
    have hp : (10000 : Int) ^ j = ((10000 ^ j : Nat) : Int) := (pow_cast j).symm
    have hpp : (0 : Int) < 10000 ^ j := Int.pow_pos (by omega)
    (refine seqK_ ?_; simp only [wE, String.reduceEq, ↓reduceIte, true_and, Bool.false_eq_true, decide_eq_true_eq, Bool.not_eq_true', decide_eq_false_iff_not, ite_not, s4])
    refine value_spec w D Has.head (lim_dig N) (by omega) ?_
    rw [val_dig]
    (refine seqK_ ?_; simp only [wE, String.reduceEq, ↓reduceIte, true_and, Bool.false_eq_true, decide_eq_true_eq, Bool.not_eq_true', decide_eq_false_iff_not, ite_not, s1, s3])
    refine split_at_spec w D.split_at D.trimmed (Has.cons Has.head) (by omega) fun t lo hi ht hlo hhi => ?_
    rw [hcut]
    have h1 : (dig (N % 10000 ^ j)).length ≤ 6 := Nat.le_trans (len_le_of_le (Nat.mod_le _ _)) (by omega)
    have h2 : (dig (N / 10000 ^ j)).length ≤ 6 := Nat.le_trans (len_le_of_le (Nat.div_le_self _ _)) (by omega)
    (refine seqK_ ?_; simp only [wE, String.reduceEq, ↓reduceIte, true_and, Bool.false_eq_true, decide_eq_true_eq, Bool.not_eq_true', decide_eq_false_iff_not, ite_not])
    refine ⟨_, Has.head, ?_⟩
    simp only [wE, String.reduceEq, ↓reduceIte, true_and, Bool.false_eq_true, decide_eq_true_eq, Bool.not_eq_true', decide_eq_false_iff_not, ite_not]
    rw [if_neg (by decide)]
    (refine seqK_ ?_; simp only [wE, String.reduceEq, ↓reduceIte, true_and, Bool.false_eq_true, decide_eq_true_eq, Bool.not_eq_true', decide_eq_false_iff_not, ite_not])
    refine lenW_tup Has.head (by unfold BIG; simp) ?_
    simp only [wE, String.reduceEq, ↓reduceIte, true_and, Bool.false_eq_true, decide_eq_true_eq, Bool.not_eq_true', decide_eq_false_iff_not, ite_not]
    rw [if_pos (by rfl)]
    (refine seqK_ ?_; simp only [wE, String.reduceEq, ↓reduceIte, true_and, Bool.false_eq_true, decide_eq_true_eq, Bool.not_eq_true', decide_eq_false_iff_not, ite_not])
    refine ⟨t, _, _, rfl, Has.head, ?_⟩
    (refine seqK_ ?_; simp only [wE, String.reduceEq, ↓reduceIte, true_and, Bool.false_eq_true, decide_eq_true_eq, Bool.not_eq_true', decide_eq_false_iff_not, ite_not])
    refine ⟨_, Has.cons Has.head, ?_⟩
    simp only [wE, String.reduceEq, ↓reduceIte, true_and, Bool.false_eq_true, decide_eq_true_eq, Bool.not_eq_true', decide_eq_false_iff_not, ite_not]
    rw [if_neg (by decide)]
    (refine seqK_ ?_; simp only [wE, String.reduceEq, ↓reduceIte, true_and, Bool.false_eq_true, decide_eq_true_eq, Bool.not_eq_true', decide_eq_false_iff_not, ite_not])
    refine ⟨_, Has.cons (Has.cons Has.head), ?_⟩
    simp only [wE, String.reduceEq, ↓reduceIte, true_and, Bool.false_eq_true, decide_eq_true_eq, Bool.not_eq_true', decide_eq_false_iff_not, ite_not]
    rw [if_neg (by decide)]
    (refine seqK_ ?_; simp only [wE, String.reduceEq, ↓reduceIte, true_and, Bool.false_eq_true, decide_eq_true_eq, Bool.not_eq_true', decide_eq_false_iff_not, ite_not, s3, s4])
    refine ⟨_, .li (Has.cons (Has.cons (Has.cons (Has.cons Has.head)))) (Has.cons (Has.cons (Has.cons Has.head))), ?_⟩
    rw [decide_eq_true rfl]
    simp only [wE, String.reduceEq, ↓reduceIte, true_and, Bool.false_eq_true, decide_eq_true_eq, Bool.not_eq_true', decide_eq_false_iff_not, ite_not]
    rw [if_neg (by decide)]
    (refine seqK_ ?_; simp only [wE, String.reduceEq, ↓reduceIte, true_and, Bool.false_eq_true, decide_eq_true_eq, Bool.not_eq_true', decide_eq_false_iff_not, ite_not, s3])
    refine apW_ (.tail _ (.tail _ (.tail _ (.tail _ (.head _))))) ?_
    refine appW_int (.tail _ (.tail _ (.tail _ (.tail _ (.head _))))) (by unfold BIG; omega) ?_
    have n1 : la ≠ t := ht.ne (.tail _ (.head _))
    have n2 : la ≠ lo := hlo.ne (.tail _ (.head _))
    have n3 : la ≠ hi := hhi.ne (.tail _ (.head _))
    have n4 : la ≠ lk := hlk.ne (.head _)
    rw [hupd_cons n1.symm, hupd_cons n2.symm, hupd_cons n3.symm, hupd_cons n4.symm, hupd_head hla]
    simp only [wE, String.reduceEq, ↓reduceIte, true_and, Bool.false_eq_true, decide_eq_true_eq, Bool.not_eq_true', decide_eq_false_iff_not, ite_not]
    (refine seqK_ ?_; simp only [wE, String.reduceEq, ↓reduceIte, true_and, Bool.false_eq_true, decide_eq_true_eq, Bool.not_eq_true', decide_eq_false_iff_not, ite_not])
    refine ⟨hpp, ?_⟩
    have e1 : ((N : Int) % 10000 ^ j).toNat = N % 10000 ^ j := by rw [hp, ← Int.natCast_emod, Int.toNat_natCast]
    have e2 : ((N : Int) / 10000 ^ j).toNat = N / 10000 ^ j := by rw [hp, ← Int.natCast_ediv, Int.toNat_natCast]
    refine spelled_spec w D (by rw [e1]; omega) fun l5 hl5 => ?_
    rw [e1]
    refine ⟨_, .li (Has.cons (Has.cons Has.head)) Has.head, ?_⟩
    rw [decide_eq_true rfl]
    simp only [wE, String.reduceEq, ↓reduceIte, true_and, Bool.false_eq_true, decide_eq_true_eq, Bool.not_eq_true', decide_eq_false_iff_not, ite_not]
    rw [if_neg (by decide)]
    (refine seqK_ ?_; simp only [wE, String.reduceEq, ↓reduceIte, true_and, Bool.false_eq_true, decide_eq_true_eq, Bool.not_eq_true', decide_eq_false_iff_not, ite_not])
    refine ⟨hpp, ?_⟩
    refine spelled_spec w D (by rw [e2]; omega) fun l6 hl6 => ?_
    rw [e2]
    refine ⟨_, .li (Has.cons (Has.cons (Has.cons (Has.cons Has.head)))) Has.head, ?_⟩
    rw [decide_eq_true rfl]
    simp only [wE, String.reduceEq, ↓reduceIte, true_and, Bool.false_eq_true, decide_eq_true_eq, Bool.not_eq_true', decide_eq_false_iff_not, ite_not]
    rw [if_neg (by decide)]
    (refine seqK_ ?_; simp only [wE, String.reduceEq, ↓reduceIte, true_and, Bool.false_eq_true, decide_eq_true_eq, Bool.not_eq_true', decide_eq_false_iff_not, ite_not])
    refine catW_ (Has.cons (Has.cons (Has.cons Has.head))) (Has.cons (Has.cons (Has.cons (Has.cons Has.head)))) (by unfold BIG; omega) fun l7 hl7 => ?_
    refine ⟨l7, _, rfl, Has.head, by unfold BIG; rw [List.length_append]; omega, ?_⟩
    rw [if_neg (by decide)]
    (refine seqK_ ?_; simp only [wE, String.reduceEq, ↓reduceIte, true_and, Bool.false_eq_true, decide_eq_true_eq, Bool.not_eq_true', decide_eq_false_iff_not, ite_not])
  split
  · exact fin _ _ (by omega) rfl rfl rfl rfl
  · exact fin _ _ (by omega) rfl rfl rfl rfl
end
open PySem PySem.W PySem.Spec PySem.Calls PyProof.Rows
open_top hd for PySem.Challenge.rw_k8_0011
def addrIn (K : Frag) (s : String) : Addr := match nsIn K mainGlobals (Str.ofString s) with
  | some (some (.ref a)) => a
  | _ => 0
noncomputable def PT (w : World) (mean : ExcName → Option Value) (mg mb : Str → Option Value) (l : Addr) (ns : List Int) : Pm where
  prog := PySem.Challenge.rw_k8_0011.row.prog
  w := w
  K := hd.heap_39 w.params
  p := hd.view_39
  loose := looseW hd.view_39 []
  mean := mean
  mg := mg
  mb := mb
  S := [(l, .li ns)]
  G := fun s => none
  addr := addrIn (hd.heap_39 w.params)
section
variable {w : World} {mean : ExcName → Option Value} {mg mb : Str → Option Value} {l : Addr} {ns : List Int}
theorem kf : KF (PT w mean mg mb l ns) where
  b_abs := by rfl
  b_all := by rfl
  b_int := by rfl
  t_int := by decide +kernel
  b_len := by rfl
  b_list := by rfl
  t_list := by decide +kernel
  b_min := by rfl
  b_range := by rfl
  b_tuple := by rfl
  t_tuple := by decide +kernel
  b_type := by rfl
  f_law_cell := ⟨by rfl, by rfl⟩
  f_law_natural := ⟨by rfl, by rfl⟩
  f_law_spelled := ⟨by rfl, by rfl⟩
  f_law_value := ⟨by rfl, by rfl⟩
  f_split_at := ⟨by rfl, by rfl⟩
  f_trimmed := ⟨by rfl, by rfl⟩
theorem d_trimmed : (PT w mean mg mb l ns).wd.Def "trimmed" ["a"] b_trimmed := fun n vs H Q X hl hw =>
  call_sound (P := PT w mean mg mb l ns) (by rfl) (by rfl) (fun s vs h => by
    match vs, h with
    | [a], _ => exact BindsTo.of_eq rfl) (by decide) (by decide) rfl rfl rfl (by decide) (ok_trimmed kf) (by decide) hl hw
theorem d_split_at : (PT w mean mg mb l ns).wd.Def "split_at" ["a", "k"] b_split_at := fun n vs H Q X hl hw =>
  call_sound (P := PT w mean mg mb l ns) (by rfl) (by rfl) (fun s vs h => by
    match vs, h with
    | [a, b], _ => exact BindsTo.of_eq rfl) (by decide) (by decide) rfl rfl rfl (by decide) (ok_split_at kf) (by decide) hl hw
theorem d_law_cell : (PT w mean mg mb l ns).wd.Def "_law_cell" ["script", "i"] b_law_cell := fun n vs H Q X hl hw =>
  call_sound (P := PT w mean mg mb l ns) (by rfl) (by rfl) (fun s vs h => by
    match vs, h with
    | [a, b], _ => exact BindsTo.of_eq rfl) (by decide) (by decide) rfl rfl rfl (by decide) (ok_law_cell kf) (by decide) hl hw
theorem d_law_natural : (PT w mean mg mb l ns).wd.Def "_law_natural" ["script", "n"] b_law_natural := fun n vs H Q X hl hw =>
  call_sound (P := PT w mean mg mb l ns) (by rfl) (by rfl) (fun s vs h => by
    match vs, h with
    | [a, b], _ => exact BindsTo.of_eq rfl) (by decide) (by decide) rfl rfl rfl (by decide) (ok_law_natural kf) (by decide) hl hw
theorem d_law_value : (PT w mean mg mb l ns).wd.Def "_law_value" ["limbs"] b_law_value := fun n vs H Q X hl hw =>
  call_sound (P := PT w mean mg mb l ns) (by rfl) (by rfl) (fun s vs h => by
    match vs, h with
    | [a], _ => exact BindsTo.of_eq rfl) (by decide) (by decide) rfl rfl rfl (by decide) (ok_law_value kf) (by decide) hl hw
theorem d_law_spelled : (PT w mean mg mb l ns).wd.Def "_law_spelled" ["v"] b_law_spelled := fun n vs H Q X hl hw =>
  call_sound (P := PT w mean mg mb l ns) (by rfl) (by rfl) (fun s vs h => by
    match vs, h with
    | [a], _ => exact BindsTo.of_eq rfl) (by decide) (by decide) rfl rfl rfl (by decide) (ok_law_spelled kf) (by decide) hl hw
theorem dfs : Defs (PT w mean mg mb l ns).wd where
  trimmed := d_trimmed
  split_at := d_split_at
  law_cell := d_law_cell
  law_natural := d_law_natural
  law_value := d_law_value
  law_spelled := d_law_spelled
theorem no_mods : importsNone hd.view_39 = true := by decide +kernel
theorem goes {sc : Scope} {body : List Stmt} {s₁ : Shared} {h₁ : Heap} {tk : Nat} {cd : Value} {fa L c Pa bm : Addr} {ob : Obj} {m : Str → Option Value} {vs : List Value} {Fc : Flow → Shared → Prop} {Ec : Value → Shared → Prop}
    (hb : ExL (PT w mean mg mb l ns) sc body b_law) (KX : (hd.heap_39 w.params).In s₁.heap) (T : Top hd.view_39 (looseW hd.view_39 []) mean mg mb s₁.heap) (K0 : Below callerA s₁.heap [] s₁.heap) (F : Fr s₁.heap L h₁ m) (hm : m (Str.ofString "script") = some (.ref l))
    (hB : Based s₁.heap s₁.heap c Pa #[]) (hcd : cd = .ref c) (hM : BMod s₁.heap mainGlobals mg bm ob) (hg : AllBare s₁.gens)
    (hL : s₁.heap.IsList l vs.toArray) (hI : IntsAre vs ns) (hlen : ns.length ≤ 1000) (kind : sc.kind = .function) (gen : sc.isGenerator = false) (co : sc.isCoroutine = false)
    (hend : ∀ (h₀' : Heap) (ps' : Array Value) (s' : Shared) (m' : Str → Option Value), Based s₁.heap h₀' c Pa ps' → Fr h₀' L s'.heap m' → AllBare s'.gens → s'.os = s₁.os → Fc (.ret (.bool true)) s') :
    wpAny (model PySem.Challenge.rw_k8_0011.row.prog w) (callerA.deeper (envOf (Str.ofString "law") sc L fa cd)) (execs body (envOf (Str.ofString "law") sc L fa cd)) Fc Ec { s₁ with heap := h₁, toks := tk } :=
  law_finalG (P := PT w mean mg mb l ns) hb KX T K0 F hm hB hcd hM hg (fun a o hm => by
    cases hm with
    | head => exact ⟨_, hL, hI⟩
    | tail _ hm => cases hm) kind gen co rfl no_mods (law_main (PT w mean mg mb l ns).wd dfs (.head _) hlen) hend
end
end Mine
open PySem PySem.W PySem.Spec PySem.Calls PyProof.Rows Mine
set_option maxHeartbeats 8000000 in
theorem PySem.Challenge.cw_k8_0011_holds : PySem.Challenge.rw_k8_0011.Holds := by
  refine Mine.hd ?_
  lge_go0
  rename Frag.In _ _ => KX
  rename Top _ _ _ _ _ _ => T
  rename Below _ _ _ _ => K0
  rename Fr _ _ _ _ => F
  rename IntsAre _ _ => hI
  rename Heap.IsList _ _ _ => hL
  rename (¬ _ < _) => hlen
  rename (Shared.gens _ = _) => hg
  rename Based _ _ _ _ _ => B0
  rename BMod _ _ _ _ _ => M0
  refine goes (ok_law kf) KX T K0 F rfl B0 rfl M0 (.of_eq hg) hL hI (by omega) rfl rfl rfl (fun h₀' ps' s' m' B' F' G' hos => ?_)
  clear F
  dsimp only
  wrow_closeG
