import PyProof.Rows.All
import Wide.All
import OpenK.AllK
import Wide.FinOn
import HandS.ForMost
import HandS.Exc
import HandS.ExcOwn
import HandS.TryOnly
import HandS.Deep
import HandS.TupAny
import HandS.Style
import HandS.Rev
import HandS.SortInts
import HandS.Wide
import HandS.HeadWalk
import HandS.DictComp
import HandS.Zip
import HandS.TupLe
import HandS.Small
import HandS.SortRule
import HandS.IsInst
import HandS.Conv
import HandS.TupSets
import HandS.Strs
import HandS.SetBool
import HandS.Defaults
import HandS.HeadEnd
import HandS.HeadHook2
import HandS.HeadHook4
import PySem.Challenge.RW_elsewhere_k94_whole_models_hung_under_a
import KE.KStateDown
import HandS.Head0
import HandS.Head1
import HandS.Head2
set_option Elab.async false
set_option linter.all false
set_option maxRecDepth 100000
/-! Vc0: values, a small syntax, what must hold ahead (wp). -/
namespace Vc
open PySem L2

/-- a value with all that it holds; lst, dct, dtt, obj: as they stand and will stand (nobody changes them) -/
inductive Val where
  | non | bl (b : Bool) | int (i : Int) | str (x : Str)
  | tup (xs : List Val) | lst (xs : List Val)
  | dct (kvs : List (Key × Val))
  | dtt (kvs : List (List Key × Val))
  | obj (C : Str) (fs : List (Str × Val))
  | ref (a : Addr) | fn (x : Str) | kd (x : Str)
def isNon : Val → Bool
  | .non => true
  | _ => false
/-- what may change: what stands at an address -/
abbrev CH := Addr → Option Val
def CH.set (h : CH) (a : Addr) (x : Val) : CH := fun b => if b = a then some x else h b
def CH.del (h : CH) (a : Addr) : CH := fun b => if b = a then none else h b
/-- in use, nobody's to look at -/
abbrev junk : Val := .kd ""
abbrev VP := Val → CH → Prop
abbrev XP := Str → CH → Prop
abbrev Env := List (Option Val)

mutual
def Val.toD : Val → Option PyData
  | .non => some .none
  | .bl b => some (.bool b)
  | .int i => some (.int i)
  | .str x => some (.str x)
  | .tup xs => match Val.toDs xs with
    | some ds => some (.tuple ds)
    | none => none
  | .lst xs => match Val.toDs xs with
    | some ds => some (.list ds)
    | none => none
  | _ => none
def Val.toDs : List Val → Option (List PyData)
  | [] => some []
  | x :: xs => match Val.toD x, Val.toDs xs with
    | some d, some ds =>
          some (d :: ds)
    | _, _ => none
end
/-- a value's data, an object read -/
def datH (h : CH) : Val → Option PyData
  | .ref a => match h a with
    | some (.lst xs) => Val.toD (.lst xs)
    | _ => none
  | x => x.toD
/-- the items of a list -/
def rdL (h : CH) : Val → Option (List Val)
  | .lst xs => some xs
  | .ref a => match h a with
    | some (.lst xs) => some xs
    | _ => none
  | _ => none
def rdT : Val → Option (List Val)
  | .tup xs => some xs
  | _ => none
def rdD (h : CH) : Val → Option (List (Key × Val))
  | .dct kvs => some kvs
  | .ref a => match h a with
    | some (.dct kvs) => some kvs
    | _ => none
  | _ => none
def rdP (h : CH) : Val → Option (List (List Key × Val))
  | .dtt kvs => some kvs
  | .ref a => match h a with
    | some (.dtt kvs) => some kvs
    | _ => none
  | _ => none
def rdO (h : CH) : Val → Option (Str × List (Str × Val))
  | .obj C fs => some (C, fs)
  | .ref a => match h a with
    | some (.obj C fs) => some (C, fs)
    | _ => none
  | _ => none
def keyOf : Val → Option Key
  | .int i => some (.inl i)
  | .str x => some (.inr x)
  | _ => none
def keysOf : List Val → Option (List Key)
  | [] => some []
  | x :: xs => match keyOf x, keysOf xs with
    | some k, some ks => some (k :: ks)
    | _, _ => none
def pkeyOf : Val → Option (List Key)
  | .tup (.int i :: xs) => keysOf (.int i :: xs)
  | _ => none
/-- begins with a text -/
def headS : List Val → Bool
  | .str _ :: _ => true
  | _ => false
section
variable
      {κ : Type} [DecidableEq κ]
def vget (kvs : List (κ × Val)) (k : κ) : Option Val := (kvs.find? fun kv => decide (kv.1 = k)).map (·.2)
def vput (kvs : List (κ × Val)) (k : κ) (v : Val) : List (κ × Val) :=
  if
        (kvs.any fun kv => decide (kv.1 = k)) = true then kvs.map (fun kv => if kv.1 = k then (kv.1, v) else kv) else kvs ++ [(k, v)]
end
def fput (f : Str) (v : Val) : List (Str × Val) → List (Str × Val)
  | [] => [(f, v)]
  | (g, u) :: r => if g = f then (g, v) :: r else (g, u) :: fput f v r
def cutL (xs : List Val) (lo hi : Option Int) : List Val := (xs.drop (HT.sIx xs.length 0 lo)).take (HT.sIx xs.length xs.length hi - HT.sIx xs.length 0 lo)

/-! ### giving up -/
mutual
def mapR (r : Addr → Val) : Val → Val
  | .tup xs => .tup (mapRs r xs)
  | .lst xs => .lst (mapRs r xs)
  | .dct xs => .dct (mapRk r xs)
  | .dtt xs => .dtt (mapRp r xs)
  | .obj C xs => .obj C (mapRf r xs)
  | .ref a => r a
  | .non => .non
  | .bl b => .bl b
  | .int i => .int i
  | .str x => .str x
  | .fn x => .fn x
  | .kd x => .kd x
def mapRs (r : Addr → Val) : List Val → List Val
  | [] => []
  | x :: xs => mapR r x :: mapRs r xs
def mapRk (r : Addr → Val) : List (Key × Val) → List (Key × Val)
  | [] => []
  | (k, x) :: xs => (k, mapR r x) :: mapRk r xs
def mapRp (r : Addr → Val) : List (List Key × Val) → List (List Key × Val)
  | [] => []
  | (k, x) :: xs => (k, mapR r x) :: mapRp r xs
def mapRf (r : Addr → Val) : List (Str × Val) → List (Str × Val)
  | [] => []
  | (k, x) :: xs => (k, mapR r x) :: mapRf r xs
end
/-- what stands at F's addresses, as it will stand -/
def fz : Nat → CH → (Addr → Bool) → Val → Val
  | 0, _, _, x => x
  | n + 1, h, F, x => mapR (fun a => if F a = true then (match h a with
    | some (.lst xs) => .lst (xs.map (fz n h F))
    | some (.dct xs) => .dct (xs.map fun p => (p.1, fz n h F p.2))
    | some (.dtt xs) => .dtt (xs.map fun p => (p.1, fz n h F p.2))
    | some (.obj C xs) => .obj C (xs.map fun p => (p.1, fz n h F p.2))
    | _ => .ref a) else .ref a) x
def CH.sub (h : CH) (F : Addr → Bool) : CH := fun a => if F a = true then none else h a

/-! ### the syntax -/
inductive Bi where
  | len | abs | int | tuple | sum | max | min | list | sorted
inductive Bm where
  | pop | index | get
inductive Tg where
  | nm (i : Nat)
  | tp (is : List Nat)
mutual
inductive E where
  | var (i : Nat) | glo (x : Str) | cst (v : Val)
  | tup (es : Es) | dsp (es : Es) | new (es : Es) | dnw | pnw
  | bin (o : Operator) (a b : E)
  | neg (a : E) | not (a : E)
  | cmp (o : CmpOp) (a b : E)
  | isn (a : E) | ntn (a : E) | isb (n : Bool) (a b : E)
  | chn (o o' : CmpOp) (a b c : E)
  | and (a b : E) | or (a b : E)
  | ife (c a b : E)
  | ix (a i : E)
  | sl (a : E) (lo hi : Op)
  | fld (a : E) (f : Str)
  | call (f : Str) (es : Es)
  | mk (C : Str) (es : Es)
  | met (o : E) (m : Str) (es : Es)
  | blt (b : Bi) (es : Es) | bm (o : E) (m : Bm) (es : Es)
  | xf (i : Nat) (es : Es)
  | lc (mu : Bool) (own : List Nat) (t : Tg) (it : I) (c : Cs) (r : Cl)
  | dc (mu : Bool) (own : List Nat) (t : Tg) (it : I) (c : Cs) (k e : E)
  | frz (a : E)
  | ssc (own : List Nat) (t : Tg) (it : I) (c : Cs) (e : E)
  | dp (mu : Bool) (own : List Nat) (t : Tg) (it : I) (c : Cs) (k e : E)
inductive Es where
  | nil | cons (e : E) (es : Es)
inductive Op where
  | no | so (e : E)
inductive I where
  | sq (e : E) | rg (e : E) | rg2 (a b : E) | en (e : E) | zp (a b : E) | its (e : E) | ky (e : E) | vs (e : E) | rv (e : E) | dk (e : E)
inductive Cl where
  | el (e : E)
  | fo (t : Tg) (it : I) (c : Cs) (r : Cl)
inductive Cs where
  | nil | cons (c : E) (r : Cs)
end
inductive S where
  | set (i : Nat) (e : E)
  | unp (is : List Nat) (e : E)
  | par (i j : Nat) (a b : E)
  | sfl (o : E) (f : Str) (e : E)
  | sub (o k e : E)
  | aug (i : Nat) (o : Operator) (e : E)
  | doc
  | exp (e : E)
  | app (o e : E)
  | ret (e : E) | retn
  | ite (c : E) (a b : List S)
  | for_ (t : Tg) (it : I) (b : List S)
  | whl (c : E) (b : List S)
  | brk | ctn | pas | nev
  | rse (C : Str)
  | triC (b : List S) (C : Str)

/-! ### operations on values -/
def branch (x : Val) (A B : Prop) : Prop := match x with
  | .bl b => (b = true → A) ∧ (b = false → B)
  | _ => False
def big (i : Int) : Prop := -(2 ^ 64) < i ∧ i < 2 ^ 64
def opV (o : Operator) (x y : Val) (h : CH) (Q : VP) : Prop := match o, x, y with
  | .Add, .int i, .int j => Q (.int (i + j)) h
  | .Sub, .int i, .int j => Q (.int (i - j)) h
  | .Mult, .int i, .int j => (big i ∨ big j) ∧ Q (.int (i * j)) h
  | .FloorDiv, .int i, .int j => (0 < j ∧ j < 1073741824) ∧ Q (.int (i / j)) h
  | .Mod, .int i, .int j => 0 < j ∧ Q (.int (i % j)) h
  | .LShift, .int i, .int j => (0 ≤ j ∧ j ≤ 1000000 ∧ i.natAbs < 2 ^ 64) ∧ Q (.int (i * 2 ^ j.toNat)) h
  | .RShift, .int i, .int j => 0 ≤ j ∧ Q (.int (i / 2 ^ j.toNat)) h
  | .BitAnd, .int i, .int j => Q (.int (Builtin.bitAnd i j)) h
  | .BitOr, .int i, .int j => Q (.int (Builtin.bitOr i j)) h
  | .Add, .str a, .str b => a.length + b.length ≤ sizeLine ∧ Q (.str (a ++ b)) h
  | .Add, .tup a, .tup b => a.length + b.length ≤ sizeLine ∧ Q (.tup (a ++ b)) h
  | .Add, x, y => ∃ a b, rdL h x = some a ∧ rdL h y = some b ∧ a.length + b.length ≤ sizeLine ∧ Q (.lst (a ++ b)) h
  | _, _, _ => False
def eqP (x y : Val) (h : CH) (Q : Bool → Prop) : Prop := ∃ d e, datH h x = some d ∧ datH h y = some e ∧ SeqAt.shaped d = true ∧ SeqAt.shaped e = true ∧ Q (PyData.eqv d e)
/-- is x in y -/
def inP0 (x y : Val) (h : CH) (Q : Bool → Prop) : Prop := match y with
  | .str b => ∃ a, x = .str a ∧ Q (!(Builtin.Str.occurrences b a 0 b.length 1).isEmpty)
  | .kd _ => False
  | y => (∃ d, x.toD = some d ∧ SeqAt.shaped d = true ∧ ∃ ds, (datH h y = some (.list ds) ∧ SeqAt.shaped (.list ds) = true ∨ datH h y = some (.tuple ds) ∧ SeqAt.shaped (.tuple ds) = true) ∧ Q (ds.any fun z => PyData.eqv z d)) ∨
    (∃ k kvs, keyOf x = some k ∧ rdD h y = some kvs ∧ Q (vget kvs k).isSome) ∨ ∃ k kvs, pkeyOf x = some k ∧ rdP h y = some kvs ∧ Q (vget kvs k).isSome
structure inP (x y : Val) (h : CH) (Q : Bool → Prop) : Prop where
  out : inP0 x y h Q
/-- two dicts that are equal -/
def eqK (ks ls : List (Key × Val)) : Prop := ks.length = ls.length ∧ ∀ p ∈ ks, ∃ u d e, vget ls p.1 = some u ∧ p.2.toD = some d ∧ u.toD = some e ∧ SeqAt.shaped d = true ∧ SeqAt.shaped e = true ∧ PyData.eqv d e = true
def eqW0 (x y : Val) (h : CH) (Q : Bool → Prop) : Prop := match x, y with
  | .dct ks, .dct ls => eqK ks ls ∧ Q true
  | x, y => eqP x y h Q
structure eqW (x y : Val) (h : CH) (Q : Bool → Prop) : Prop where
  out : eqW0 x y h Q
def cmpV (o : CmpOp) (x y : Val) (h : CH) (Q : VP) : Prop := match o with
  | .Eq => eqW x y h fun b => Q (.bl b) h
  | .NotEq => eqW x y h fun b => Q (.bl (!b)) h
  | .Lt => ∃ i j, x = .int i ∧ y = .int j ∧ Q (.bl (decide (i < j))) h
  | .LtE => ∃ i j, x = .int i ∧ y = .int j ∧ Q (.bl (decide (i ≤ j))) h
  | .Gt => ∃ i j, x = .int i ∧ y = .int j ∧ Q (.bl (decide (j < i))) h
  | .GtE => ∃ i j, x = .int i ∧ y = .int j ∧ Q (.bl (decide (j ≤ i))) h
  | .In => inP x y h fun b => Q (.bl b) h
  | .NotIn => inP x y h fun b => Q (.bl (!b)) h
  | _ => False
def ixV (x i : Val) (h : CH) (Q : VP) : Prop := match x with
  | .tup xs => ∃ j v, i = .int j ∧ atI xs j = some v ∧ Q v h
  | .lst xs => ∃ j v, i = .int j ∧ atI xs j = some v ∧ Q v h
  | .str z => ∃ j c, i = .int j ∧ z.length ≤ sizeLine ∧ atI z.cps.toList j = some c ∧ Q (.str ⟨#[c]⟩) h
  | x => (∃ xs j v, rdL h x = some xs ∧ i = .int j ∧ atI xs j = some v ∧ Q v h) ∨ (∃ kvs k v, rdD h x = some kvs ∧ keyOf i = some k ∧ vget kvs k = some v ∧ Q v h) ∨
    ∃ kvs k v, rdP h x = some kvs ∧ pkeyOf i = some k ∧ vget kvs k = some v ∧ Q v h
def intsOf : List Val → Option (List Int)
  | [] => some []
  | .int i :: r => match intsOf r with
    | some l => some (i :: l)
    | none => none
  | _ => none
def strsOf : List Val → Option (List Str)
  | [] => some []
  | .str i :: r => match strsOf r with
    | some l => some (i :: l)
    | none => none
  | _ => none
def lenV (h : CH) (x : Val) (n : Nat) : Prop := match x with
  | .tup xs => n = xs.length
  | .str z => z.length ≤ sizeLine ∧ n = z.length
  | x => (∃ xs, rdL h x = some xs ∧ n = xs.length) ∨ (∃ a kvs, x = .ref a ∧ h a = some (.dct kvs) ∧ n = kvs.length)
def pairOf : Val → Option (Int × Int)
  | .tup [.int i, .int j] => some (i, j)
  | _ => none
def pairsOf : List Val → Option (List (Int × Int))
  | [] => some []
  | x :: r => match pairOf x, pairsOf r with
    | some p, some l => some (p :: l)
    | _, _ => none
def pairV (p : Int × Int) : Val := .tup [.int p.1, .int p.2]
def lexlt (p q : Int × Int) : Prop := p.1 < q.1 ∨ (p.1 = q.1 ∧ p.2 < q.2)
def lexle (p q : Int × Int) : Prop := p.1 < q.1 ∨ (p.1 = q.1 ∧ p.2 ≤ q.2)
/-- built-in functions -/
def bltV (b : Bi) (vs : List Val) (h : CH) (Q : VP) : Prop := match b, vs with
  | .len, [x] => ∃ n, lenV h x n ∧ Q (.int (n : Nat)) h
  | .abs, [.int i] => Q (.int (if i < 0 then -i else i)) h
  | .int, [.int i] => Q (.int i) h
  | .int, [.bl k] => Q (.int (if k then 1 else 0)) h
  | .tuple, [.tup xs] => Q (.tup xs) h
  | .tuple, [x] => ∃ xs, rdL h x = some xs ∧ Q (.tup xs) h
  | .sorted, [x] => ∃ xs, rdL h x = some xs ∧ ((∃ ns, intsOf xs = some ns ∧ ∀ ms : List Int, ms.Perm ns → ms.Pairwise (· ≤ ·) → Q (.lst (ms.map .int)) h) ∨
      (∃ ps, pairsOf xs = some ps ∧ ∀ qs : List (Int × Int), qs.Perm ps → qs.Pairwise lexle → Q (.lst (qs.map pairV)) h) ∨
      ∃ zs, strsOf xs = some zs ∧ zs.length < 64 ∧ ∀ ys : List Str, ys.Perm zs → PyProof.Rows.sortedS ys = true → Q (.lst (ys.map .str)) h)
  | .list, [x] => ∃ xs, (rdL h x = some xs ∨ x = .tup xs) ∧ Q (.lst xs) h
  | .sum, [x] => ∃ xs ns, rdL h x = some xs ∧ intsOf xs = some ns ∧ Q (.int ns.sum) h
  | .max, [x] => ∃ xs ns, rdL h x = some xs ∧ intsOf xs = some ns ∧ 0 < ns.length ∧ ∀ m, m ∈ ns → (∀ j ∈ ns, j ≤ m) → Q (.int m) h
  | .min, [x] => ∃ xs ns, rdL h x = some xs ∧ intsOf xs = some ns ∧ 0 < ns.length ∧ ∀ m, m ∈ ns → (∀ j ∈ ns, m ≤ j) → Q (.int m) h
  | _, _ => False
def rngV (lo : Int) (n : Nat) : List Val := (List.range n).map fun k => .int (lo + (k : Nat))
/-- sorted(set(x)) by values -/
def ssOp (x : Val) (h : CH) (Q : VP) : Prop := ∃ xs, (rdL h x = some xs ∨ x = .tup xs) ∧ ((∃ ns, intsOf xs = some ns ∧ ns.length < 64 ∧ ∀ ms : List Int, ms.Pairwise (· < ·) → (∀ i, i ∈ ms ↔ i ∈ ns) → Q (.lst (ms.map .int)) h) ∨
  ∃ ps, pairsOf xs = some ps ∧ ps.length < 64 ∧ (∀ p ∈ ps, (0 ≤ p.1 ∧ p.1 < 64) ∧ 0 ≤ p.2 ∧ p.2 < 64) ∧ ∀ qs : List (Int × Int), qs.Pairwise lexlt → (∀ p, p ∈ qs ↔ p ∈ ps) → Q (.lst (qs.map pairV)) h)
/-- further forms, by number -/
def xop (i : Nat) (vs : List Val) (h : CH) (Q : VP) : Prop := match i, vs with
  | 0, [x] => ssOp x h Q
  | 1, [x] => ((∃ i, x = .int i) ∨ ∃ b, x = .bl b) ∧ Q (.bl true) h
  | 2, [x] => (∃ i, x = .int i) ∧ Q (.bl false) h
  | 3, [x] => ∃ i, x = .int i ∧ -(2 ^ 62) ≤ i ∧ i ≤ 16777216 ∧ Q (.lst (rngV 0 i.toNat)) h
  | _, _ => False
/-- the receiver's kind -/
def bmT (m : Bm) (h : CH) (x : Val) : Prop := match m with
  | .get => (∃ kvs, rdD h x = some kvs) ∨ ∃ kvs, rdP h x = some kvs
  | _ => ∃ xs, rdL h x = some xs
/-- methods of built-in types that read (and list.pop, extend) -/
def bmV (m : Bm) (o : Val) (vs : List Val) (h : CH) (Q : VP) : Prop := match m, vs with
  | .pop, [] => ∃ a xs y, o = .ref a ∧ h a = some (.lst xs) ∧ xs[xs.length - 1]? = some y ∧ Q y (h.set a (.lst xs.dropLast))
  | .index, [x] => ∃ d ds j z, x.toD = some d ∧ datH h o = some (.list ds) ∧ SeqAt.shaped (.list ds) = true ∧ SeqAt.shaped d = true ∧ ds[j]? = some z ∧ PyData.eqv z d = true ∧ (∀ (i : Nat) (z' : PyData), i < j → ds[i]? = some z' → PyData.eqv z' d = false) ∧ Q (.int (j : Nat)) h
  | .get, [k] => (∃ kk kvs, keyOf k = some kk ∧ rdD h o = some kvs ∧ Q ((vget kvs kk).getD .non) h) ∨ ∃ kk kvs, pkeyOf k = some kk ∧ rdP h o = some kvs ∧ Q ((vget kvs kk).getD .non) h
  | .get, [k, d] => (∃ kk kvs, keyOf k = some kk ∧ rdD h o = some kvs ∧ Q ((vget kvs kk).getD d) h) ∨ ∃ kk kvs, pkeyOf k = some kk ∧ rdP h o = some kvs ∧ Q ((vget kvs kk).getD d) h
  | _, _ => False
/-- o[k] = v -/
def subV (o k v : Val) (h : CH) (Q : CH → Prop) : Prop :=
  (∃ a xs i j, o = .ref a ∧ h a = some (.lst xs) ∧ k = .int i ∧ ixN xs.length i = some j ∧ Q (h.set a (.lst (xs.set j v)))) ∨
  (∃ a kvs kk, o = .ref a ∧ h a = some (.dct kvs) ∧ keyOf k = some kk ∧ kvs.length < sizeLine ∧ Q (h.set a (.dct (vput kvs kk v)))) ∨
  ∃ a kvs kk, o = .ref a ∧ h a = some (.dtt kvs) ∧ pkeyOf k = some kk ∧ kvs.length < sizeLine ∧ Q (h.set a (.dtt (vput kvs kk v)))

def augI (o : Operator) (x j : Int) : Int := match o with
  | .Sub => x - j
  | _ => x + j

/-! ### wp -/
/-- what may be called (told by name, by what they promise), constants, the fields that a class lets be -/
structure Fns where
  fn : Str → List Val → CH → VP → XP → Prop
  cn : Str → List Val → CH → VP → XP → Prop
  mt : Str → Str → List Val → CH → VP → XP → Prop
  gl : Str → Option Val
  fld : Str → Str → Prop
  okf : Str → Prop
  okc : Str → Prop
  okm : Str → Str → Prop
def noX : XP := fun _ _ => False
def wipe (own : List Nat) (ρ : Env) : Env := own.foldr (fun i r => r.set i none) ρ
def setAll : List Nat → List Val → Env → Env
  | i :: is, x :: xs, ρ => setAll is xs (ρ.set i (some x))
  | _, _, ρ => ρ
def tgs : Tg → List Nat
  | .nm i => [i]
  | .tp is => is
def setT (t : Tg) (x : Val) (ρ : Env) (P : Env → Prop) : Prop := match t with
  | .nm i => P (ρ.set i (some x))
  | .tp is => ∃ xs, x = .tup xs ∧ xs.length = is.length ∧ P (setAll is xs ρ)
def kval : Key → Val
  | .inl i => .int i
  | .inr x => .str x
def always : CH → Prop := fun _ => True
/-- what is walked: its items, what stays so meanwhile -/
def itV (x : Val) (h : CH) (K : List Val → (CH → Prop) → Prop) : Prop := match x with
  | .tup xs => K xs always
  | .lst xs => K xs always
  | .ref a => ∃ xs, h a = some (.lst xs) ∧ K xs fun h' => h' a = some (.lst xs)
  | _ => False
def enumV (xs : List Val) : List Val := xs.mapIdx fun i x => .tup [.int (i : Nat), x]
def rgOk (i : Int) : Prop := -(2 ^ 62) ≤ i ∧ i < 2 ^ 62
def goL {α : Type} (stb : CH → Prop) (f : Val → CH → α → (α → CH → Prop) → Prop) : List Val → CH → α → (α → CH → Prop) → Prop
  | [], h, acc, Q => stb h ∧ Q acc h
  | x :: r, h, acc, Q => stb h ∧ f x h acc fun acc' h' => goL stb f r h' acc' Q
def noLock : I → Bool
  | .dk _ => false
  | .its _ => false
  | .ky _ => false
  | .vs _ => false
  | _ => true
section
variable (Γ : Fns)
mutual
def wpE : E → Env → CH → VP → XP → Prop
  | .var i, ρ, h, Q, _ => ∃ x, ρ[i]? = some (some x) ∧ Q x h
  | .glo x, _, h, Q, _ => ∃ v, Γ.gl x = some v ∧ Q v h
  | .cst v, _, h, Q, _ => Q v h
  | .tup es, ρ, h, Q, X => wpEs es ρ h (fun vs h1 => vs.length ≤ sizeLine ∧ Q (.tup vs) h1) X
  | .dsp es, ρ, h, Q, X => wpEs es ρ h (fun vs h1 => vs.length ≤ sizeLine ∧ Q (.lst vs) h1) X
  | .new es, ρ, h, Q, X => wpEs es ρ h (fun vs h1 => vs.length ≤ sizeLine ∧ ∀ p, h1 p = none → Q (.ref p) (h1.set p (.lst vs))) X
  | .dnw, _, h, Q, _ => ∀ p, h p = none → Q (.ref p) (h.set p (.dct []))
  | .pnw, _, h, Q, _ => ∀ p, h p = none → Q (.ref p) (h.set p (.dtt []))
  | .bin o a b, ρ, h, Q, X => wpE a ρ h (fun x h1 => wpE b ρ h1 (fun y h2 => opV o x y h2 Q) X) X
  | .neg a, ρ, h, Q, X => wpE a ρ h (fun x h1 => ∃ i, x = .int i ∧ Q (.int (-i)) h1) X
  | .not a, ρ, h, Q, X => wpE a ρ h (fun x h1 => ∃ b, x = .bl b ∧ Q (.bl (!b)) h1) X
  | .cmp o a b, ρ, h, Q, X => wpE a ρ h (fun x h1 => wpE b ρ h1 (fun y h2 => cmpV o x y h2 Q) X) X
  | .isn a, ρ, h, Q, X => wpE a ρ h (fun x h1 => Q (.bl (isNon x)) h1) X
  | .ntn a, ρ, h, Q, X => wpE a ρ h (fun x h1 => Q (.bl (!isNon x)) h1) X
  | .isb n a b, ρ, h, Q, X => wpE a ρ h (fun x h1 => wpE b ρ h1 (fun y h2 => ∃ c d, x = .bl c ∧ y = .bl d ∧ Q (.bl (if n then !decide (c = d) else decide (c = d))) h2) X) X
  | .chn o o' a b c, ρ, h, Q, X => wpE a ρ h (fun x h1 => wpE b ρ h1 (fun y h2 => cmpV o x y h2 fun z h3 => branch z (wpE c ρ h3 (fun w h4 => cmpV o' y w h4 Q) X) (Q (.bl false) h3)) X) X
  | .and a b, ρ, h, Q, X => wpE a ρ h (fun x h1 => branch x (wpE b ρ h1 Q X) (Q (.bl false) h1)) X
  | .or a b, ρ, h, Q, X => wpE a ρ h (fun x h1 => branch x (Q (.bl true) h1) (wpE b ρ h1 Q X)) X
  | .ife c a b, ρ, h, Q, X => wpE c ρ h (fun x h1 => branch x (wpE a ρ h1 Q X) (wpE b ρ h1 Q X)) X
  | .ix a i, ρ, h, Q, X => wpE a ρ h (fun x h1 => wpE i ρ h1 (fun y h2 => ixV x y h2 Q) X) X
  | .sl a lo hi, ρ, h, Q, X => wpE a ρ h (fun x h1 => wpO lo ρ h1 (fun i h2 => wpO hi ρ h2 (fun j h3 => (∃ xs, rdL h3 x = some xs ∧ Q (.lst (cutL xs i j)) h3) ∨ ∃ xs, x = .tup xs ∧ Q (.tup (cutL xs i j)) h3) X) X) X
  | .fld a f, ρ, h, Q, X => wpE a ρ h (fun x h1 => ∃ C fs v, rdO h1 x = some (C, fs) ∧ Γ.fld C f ∧ fs.lookup f = some v ∧ Q v h1) X
  | .call f es, ρ, h, Q, X => Γ.okf f ∧ wpEs es ρ h (fun vs h1 => Γ.fn f vs h1 Q X) X
  | .mk C es, ρ, h, Q, X => Γ.okc C ∧ wpEs es ρ h (fun vs h1 => Γ.cn C vs h1 Q X) X
  | .met o m es, ρ, h, Q, X => wpE o ρ h (fun x h1 => ∃ C fs, rdO h1 x = some (C, fs) ∧ fs.lookup m = none ∧ Γ.okm C m ∧ wpEs es ρ h1 (fun vs h2 => Γ.mt C m (x :: vs) h2 Q X) X) X
  | .blt b es, ρ, h, Q, X => wpEs es ρ h (fun vs h1 => bltV b vs h1 Q) X
  | .bm o m es, ρ, h, Q, X => wpE o ρ h (fun x h1 => bmT m h1 x ∧ wpEs es ρ h1 (fun vs h2 => bmV m x vs h2 Q) X) X
  | .xf i es, ρ, h, Q, X => wpEs es ρ h (fun vs h1 => xop i vs h1 Q) X
  | .lc mu own t it c r, ρ, h, Q, X => wpI it ρ h (fun xs stb h1 => ∀ D, h1 D = none → goL stb (fun x h acc K => setT t x (wipe own ρ) fun ρ' => wpCs c ρ' h fun b h' => (b = true → wpCl r ρ' h' acc K) ∧ (b = false → K acc h')) xs (h1.set D junk) [] fun acc h' => Q (if mu then .ref D else .lst acc) (if mu then h'.set D (.lst acc) else h'.del D)) X
  | .dc mu own t it c k e, ρ, h, Q, X => wpI it ρ h (fun xs stb h1 => ∀ D, h1 D = none → goL stb (fun x h acc K => setT t x (wipe own ρ) fun ρ' => wpCs c ρ' h fun b h' =>
      (b = true → wpE k ρ' h' (fun y h2 => wpE e ρ' h2 (fun z h3 => ∃ kk, keyOf y = some kk ∧ acc.length < sizeLine ∧ K (vput acc kk z) h3) noX) noX) ∧ (b = false → K acc h')) xs (h1.set D junk) [] fun acc h' => Q (if mu then .ref D else .dct acc) (if mu then h'.set D (.dct acc) else h'.del D)) X
  | .ssc own t it c e, ρ, h, Q, X => wpI it ρ h (fun xs stb h1 => ∀ D, h1 D = none → goL stb (fun x h acc K => setT t x (wipe own ρ) fun ρ' => wpCs c ρ' h fun b h' =>
      (b = true → wpE e ρ' h' (fun y h2 => ∃ p, pairOf y = some p ∧ ((0 ≤ p.1 ∧ p.1 < 64) ∧ 0 ≤ p.2 ∧ p.2 < 64) ∧ acc.length < 62 ∧ K (acc ++ [p]) h2) noX) ∧ (b = false → K acc h')) xs (h1.set D junk) ([] : List (Int × Int)) fun acc h' =>
        ∀ qs : List (Int × Int), qs.Pairwise lexlt → (∀ p, p ∈ qs ↔ p ∈ acc) → Q (.lst (qs.map pairV)) (h'.del D)) X
  | .dp mu own t it c k e, ρ, h, Q, X => wpI it ρ h (fun xs stb h1 => ∀ D, h1 D = none → goL stb (fun x h acc K => setT t x (wipe own ρ) fun ρ' => wpCs c ρ' h fun b h' =>
      (b = true → wpE k ρ' h' (fun y h2 => wpE e ρ' h2 (fun z h3 => ∃ kk, pkeyOf y = some kk ∧ acc.length < sizeLine ∧ K (vput acc kk z) h3) noX) noX) ∧ (b = false → K acc h')) xs (h1.set D junk) [] fun acc h' => Q (if mu then .ref D else .dtt acc) (if mu then h'.set D (.dtt acc) else h'.del D)) X
  | .frz a, ρ, h, Q, X => wpE a ρ h (fun x h1 => ∃ (F : Addr → Bool) (n : Nat), (∀ a, F a = true → h1 a ≠ some junk) ∧ Q (fz n h1 F x) (h1.sub F)) X
def wpEs : Es → Env → CH → (List Val → CH → Prop) → XP → Prop
  | .nil, _, h, Q, _ => Q [] h
  | .cons e es, ρ, h, Q, X => wpE e ρ h (fun x h1 => wpEs es ρ h1 (fun xs h2 => Q (x :: xs) h2) X) X
def wpO : Op → Env → CH → (Option Int → CH → Prop) → XP → Prop
  | .no, _, h, Q, _ => Q none h
  | .so e, ρ, h, Q, X => wpE e ρ h (fun x h1 => ∃ i, x = .int i ∧ Q (some i) h1) X
def wpI : I → Env → CH → (List Val → (CH → Prop) → CH → Prop) → XP → Prop
  | .sq e, ρ, h, K, X => wpE e ρ h (fun x h1 => itV x h1 fun xs stb => K xs stb h1) X
  | .rg e, ρ, h, K, X => wpE e ρ h (fun x h1 => ∃ i, x = .int i ∧ rgOk i ∧ K (rngV 0 i.toNat) always h1) X
  | .rg2 a b, ρ, h, K, X => wpE a ρ h (fun x h1 => wpE b ρ h1 (fun y h2 => ∃ i j, x = .int i ∧ y = .int j ∧ rgOk i ∧ rgOk j ∧ K (rngV i (j - i).toNat) always h2) X) X
  | .en e, ρ, h, K, X => wpE e ρ h (fun x h1 => ∃ xs, x = .lst xs ∧ K (enumV xs) always h1) X
  | .zp a b, ρ, h, K, X => wpE a ρ h (fun x h1 => wpE b ρ h1 (fun y h2 => ∃ xs ys, x = .lst xs ∧ y = .lst ys ∧ K (List.zipWith (fun x y => .tup [x, y]) xs ys) always h2) X) X
  | .its e, ρ, h, K, X => wpE e ρ h (fun x h1 => ∃ kvs, x = .dct kvs ∧ K (kvs.map fun p => .tup [kval p.1, p.2]) always h1) X
  | .ky e, ρ, h, K, X => wpE e ρ h (fun x h1 => ∃ kvs, x = .dtt kvs ∧ K (kvs.map fun p => .tup (p.1.map kval)) always h1) X
  | .dk e, ρ, h, K, X => wpE e ρ h (fun x h1 => ∃ kvs, x = .dct kvs ∧ K (kvs.map fun p => kval p.1) always h1) X
  | .vs e, ρ, h, K, X => wpE e ρ h (fun x h1 => ∃ kvs, x = .dct kvs ∧ K (kvs.map fun p => p.2) always h1) X
  | .rv e, ρ, h, K, X => wpE e ρ h (fun x h1 => ∃ xs, x = .lst xs ∧ K xs.reverse always h1) X
def wpCl : Cl → Env → CH → List Val → (List Val → CH → Prop) → Prop
  | .el e, ρ, h, acc, K => wpE e ρ h (fun x h1 => acc.length < sizeLine ∧ K (acc ++ [x]) h1) noX
  | .fo t it c r, ρ, h, acc, K => wpI it ρ h (fun xs stb h1 => goL stb (fun x h acc K => setT t x (wipe (tgs t) ρ) fun ρ' => wpCs c ρ' h fun b h' => (b = true → wpCl r ρ' h' acc K) ∧ (b = false → K acc h')) xs h1 acc K) noX
def wpCs : Cs → Env → CH → (Bool → CH → Prop) → Prop
  | .nil, _, h, K => K true h
  | .cons c r, ρ, h, K => wpE c ρ h (fun x h1 => branch x (wpCs r ρ h1 K) (K false h1)) noX
end
/-- here: what is wanted behind a statement -/
structure Po where
  nx : Env → CH → Prop
  rt : VP
  bk : Env → CH → Prop := fun _ _ => False
  ct : Env → CH → Prop := fun _ _ => False
  ex : Str → Env → CH → Prop := fun _ _ _ => False
mutual
def wpS : S → Po → Env → CH → Prop
  | .set i e, D, ρ, h => wpE Γ e ρ h (fun x h' => D.nx (ρ.set i (some x)) h') fun C h' => D.ex C ρ h'
  | .unp is e, D, ρ, h => wpE Γ e ρ h (fun x h' => setT (.tp is) x ρ fun ρ' => D.nx ρ' h') fun C h' => D.ex C ρ h'
  | .par i j a b, D, ρ, h => wpE Γ a ρ h (fun x h1 => wpE Γ b ρ h1 (fun y h2 => D.nx ((ρ.set i (some x)).set j (some y)) h2) fun C h' => D.ex C ρ h') fun C h' => D.ex C ρ h'
  | .sfl o f e, D, ρ, h => wpE Γ e ρ h (fun x h1 => wpE Γ o ρ h1 (fun y h2 => ∃ a C fs, y = .ref a ∧ h2 a = some (.obj C fs) ∧ Γ.fld C f ∧ fs.length < 1000 ∧ D.nx ρ (h2.set a (.obj C (fput f x fs)))) fun C h' => D.ex C ρ h') fun C h' => D.ex C ρ h'
  | .sub o k e, D, ρ, h => wpE Γ e ρ h (fun x h1 => wpE Γ o ρ h1 (fun y h2 => wpE Γ k ρ h2 (fun z h3 => subV y z x h3 fun h4 => D.nx ρ h4) fun C h' => D.ex C ρ h') fun C h' => D.ex C ρ h') fun C h' => D.ex C ρ h'
  | .aug i o e, D, ρ, h => ∃ x, ρ[i]? = some (some (.int x)) ∧ wpE Γ e ρ h (fun y h1 => ∃ j, y = .int j ∧ D.nx (ρ.set i (some (.int (augI o x j)))) h1) fun C h' => D.ex C ρ h'
  | .exp e, D, ρ, h => wpE Γ e ρ h (fun _ h' => D.nx ρ h') fun C h' => D.ex C ρ h'
  | .app o e, D, ρ, h => wpE Γ o ρ h (fun y h1 => (∃ a xs, y = .ref a ∧ h1 a = some (.lst xs)) ∧ wpE Γ e ρ h1 (fun x h2 => ∃ a xs, y = .ref a ∧ h2 a = some (.lst xs) ∧ xs.length < sizeLine ∧ D.nx ρ (h2.set a (.lst (xs ++ [x])))) fun C h' => D.ex C ρ h') fun C h' => D.ex C ρ h'
  | .ret e, D, ρ, h => wpE Γ e ρ h D.rt fun C h' => D.ex C ρ h'
  | .retn, D, _, h => D.rt .non h
  | .ite c a b, D, ρ, h => wpE Γ c ρ h (fun x h' => branch x (wpSs a D ρ h') (wpSs b D ρ h')) fun C h' => D.ex C ρ h'
  | .for_ t it b, D, ρ, h => wpI Γ it ρ h (fun xs stb h1 => goL stb (fun x h ρ K => setT t x ρ fun ρ' => wpSs b { D with nx := K, ct := K, bk := D.nx, ex := fun C ρ h => noLock it = true ∧ D.ex C ρ h } ρ' h) xs h1 ρ D.nx) fun C h' => D.ex C ρ h'
  | .whl c b, D, ρ, h => ∃ W : Nat → Env → CH → Prop, (∃ m, W m ρ h) ∧ ∀ m ρ h, W m ρ h → wpE Γ c ρ h (fun x h1 => branch x (wpSs b { D with nx := fun ρ' h' => ∃ m', m' < m ∧ W m' ρ' h', ct := fun ρ' h' => ∃ m', m' < m ∧ W m' ρ' h', bk := D.nx } ρ h1) (D.nx ρ h1)) fun C h' => D.ex C ρ h'
  | .brk, D, ρ, h => D.bk ρ h
  | .ctn, D, ρ, h => D.ct ρ h
  | .pas, D, ρ, h => D.nx ρ h
  | .doc, D, ρ, h => D.nx ρ h
  | .nev, _, _, _ => False
  | .rse C, D, ρ, h => D.ex C ρ h
  | .triC b C, D, ρ, h => wpSs b { D with ex := fun C' ρ' h' => C' = C ∧ D.ct ρ' h' } ρ h
def wpSs : List S → Po → Env → CH → Prop
  | [], D, ρ, h => D.nx ρ h
  | s :: r, D, ρ, h => wpS s { D with nx := wpSs r D } ρ h
end
end
end Vc
/-! Vc1: how values stand in the heap. -/
namespace Vc
open PySem L2

structure Cfg where
  K : PySem.W.Frag
  cad : Str → Addr
  fad : Str → Addr
def noH : Hp := fun _ => none
def noC : CH := fun _ => none
section
variable (G : Cfg)
mutual
def RepV (H : Hp) (h : CH) : Val → V → Prop
  | .non, v => v = .non
  | .bl b, v => v = .bl b
  | .int i, v => v = .int i
  | .str x, v => v = .str x
  | .tup xs, v => ∃ a vs, v = .ref a ∧ ((H a = some (.tup vs) ∧ h a = none) ∨ (SqT G.K noH a vs ∧ headS xs = true)) ∧ RepL H h xs vs
  | .lst xs, v => ∃ a vs, v = .ref a ∧ ((Rd H a (.lst vs) ∧ h a = none) ∨ SqL G.K noH a vs) ∧ RepL H h xs vs
  | .dct kvs, v => ∃ a vs, v = .ref a ∧ (Rd H a (.dK vs) ∧ h a = none) ∧ RepK H h kvs vs
  | .dtt kvs, v => ∃ a vs, v = .ref a ∧ (Rd H a (.dT vs) ∧ h a = none) ∧ RepP H h kvs vs
  | .obj C fs, v => ∃ a dx vs, v = .ref a ∧ (H a = some (.ins (G.cad C) dx vs) ∧ h a = none) ∧ RepF H h fs vs
  | .ref a, v => v = .ref a
  | .fn x, v => v = .ref (G.fad x)
  | .kd _, _ => False
def RepL (H : Hp) (h : CH) : List Val → List V → Prop
  | [], vs => vs = []
  | x :: xs, vs => ∃ v r, vs = v :: r ∧ RepV H h x v ∧ RepL H h xs r
def RepK (H : Hp) (h : CH) : List (Key × Val) → List (Key × V) → Prop
  | [], vs => vs = []
  | (k, x) :: xs, vs => ∃ v r, vs = (k, v) :: r ∧ RepV H h x v ∧ RepK H h xs r
def RepP (H : Hp) (h : CH) : List (List Key × Val) → List (List Key × V) → Prop
  | [], vs => vs = []
  | (k, x) :: xs, vs => ∃ v r, vs = (k, v) :: r ∧ RepV H h x v ∧ RepP H h xs r
def RepF (H : Hp) (h : CH) : List (Str × Val) → List (Str × V) → Prop
  | [], vs => vs = []
  | (k, x) :: xs, vs => ∃ v r, vs = (k, v) :: r ∧ RepV H h x v ∧ RepF H h xs r
end
end

/-- what is not ours stays, and stays not ours -/
structure Fra (h : CH) (H : Hp) (h' : CH) (H' : Hp) : Prop where
  f : ∀ a, h a = none → ∀ o, H a = some o → H' a = some o ∧ h' a = none
  j : ∀ a, h a = some junk → H' a = H a ∧ h' a = some junk
def cont : HO → Prop
  | .lst _ => True
  | .tup _ => True
  | .dK _ => True
  | .dT _ => True
  | _ => False
/-- what reading needs -/
structure Kept (h : CH) (H : Hp) (h' : CH) (H' : Hp) : Prop where
  t : ∀ a vs, h a = none → H a = some (.tup vs) → H' a = some (.tup vs) ∧ h' a = none
  c : ∀ a u, cont u → h a = none → Rd H a u → Rd H' a u ∧ h' a = none
  i : ∀ a C dx vs, h a = none → H a = some (.ins C dx vs) → H' a = some (.ins C dx vs) ∧ h' a = none
/-- what is not ours stays -/
def Fro (h : CH) (H : Hp) (h' : CH) (H' : Hp) : Prop := ∀ a, h a = none → ∀ o, H a = some o → H' a = some o ∧ h' a = none
theorem Fra.fro {h h' : CH} {H H' : Hp} (f : Fra h H h' H') : Fro h H h' H' := f.f
theorem Fro.trans {h1 h2 h3 : CH} {H1 H2 H3 : Hp} (a : Fro h1 H1 h2 H2) (b : Fro h2 H2 h3 H3) : Fro h1 H1 h3 H3 := fun c n o e =>
  let ⟨e1, n1⟩ := a c n o e
  b c n1 o e1
theorem Fro.kept {h h' : CH} {H H' : Hp} (f : Fro h H h' H') : Kept h H h' H' where
  t := fun a vs n r => f a n _ r
  c := fun a u _ n r => by
    rcases r with r | ⟨o, r⟩
    · exact ⟨.inl (f a n _ r).1, (f a n _ r).2⟩
    · exact ⟨.inr ⟨o, (f a n _ r).1⟩, (f a n _ r).2⟩
  i := fun a C dx vs n r => f a n _ r
theorem Fra.kept {h h' : CH} {H H' : Hp} (f : Fra h H h' H') : Kept h H h' H' := Fro.kept f.f
section
variable {G : Cfg} {h h' : CH} {H H' : Hp}
mutual
theorem RepV.mono (k : Kept h H h' H') : ∀ (x : Val) (v : V), RepV G H h x v → RepV G H' h' x v
  | .non, _, r => r
  | .bl _, _, r => r
  | .int _, _, r => r
  | .str _, _, r => r
  | .tup xs, _, ⟨a, vs, e, q, r⟩ => ⟨a, vs, e, q.imp (fun z => k.t a _ z.2 z.1) id, RepL.mono k xs vs r⟩
  | .lst xs, _, ⟨a, vs, e, q, r⟩ => ⟨a, vs, e, q.imp (fun z => k.c a _ trivial z.2 z.1) id, RepL.mono k xs vs r⟩
  | .dct kvs, _, ⟨a, vs, e, q, r⟩ => ⟨a, vs, e, k.c a _ trivial q.2 q.1, RepK.mono k kvs vs r⟩
  | .dtt kvs, _, ⟨a, vs, e, q, r⟩ => ⟨a, vs, e, k.c a _ trivial q.2 q.1, RepP.mono k kvs vs r⟩
  | .obj C fs, _, ⟨a, dx, vs, e, q, r⟩ => ⟨a, dx, vs, e, k.i a _ _ _ q.2 q.1, RepF.mono k fs vs r⟩
  | .ref _, _, r => r
  | .fn _, _, r => r
  | .kd _, _, r => r
theorem RepL.mono (k : Kept h H h' H') : ∀ (xs : List Val) (vs : List V), RepL G H h xs vs → RepL G H' h' xs vs
  | [], _, r => r
  | x :: xs, _, ⟨v, r, e, q, t⟩ => ⟨v, r, e, RepV.mono k x v q, RepL.mono k xs r t⟩
theorem RepK.mono (k : Kept h H h' H') : ∀ (xs : List (Key × Val)) (vs : List (Key × V)), RepK G H h xs vs → RepK G H' h' xs vs
  | [], _, r => r
  | (y, x) :: xs, _, ⟨v, r, e, q, t⟩ => ⟨v, r, e, RepV.mono k x v q, RepK.mono k xs r t⟩
theorem RepP.mono (k : Kept h H h' H') : ∀ (xs : List (List Key × Val)) (vs : List (List Key × V)), RepP G H h xs vs → RepP G H' h' xs vs
  | [], _, r => r
  | (y, x) :: xs, _, ⟨v, r, e, q, t⟩ => ⟨v, r, e, RepV.mono k x v q, RepP.mono k xs r t⟩
theorem RepF.mono (k : Kept h H h' H') : ∀ (xs : List (Str × Val)) (vs : List (Str × V)), RepF G H h xs vs → RepF G H' h' xs vs
  | [], _, r => r
  | (y, x) :: xs, _, ⟨v, r, e, q, t⟩ => ⟨v, r, e, RepV.mono k x v q, RepF.mono k xs r t⟩
end
theorem Fra.refl : Fra h H h H := ⟨fun _ n _ e => ⟨e, n⟩, fun _ e => ⟨rfl, e⟩⟩
theorem Fra.trans {h1 h2 h3 : CH} {H1 H2 H3 : Hp} (a : Fra h1 H1 h2 H2) (b : Fra h2 H2 h3 H3) : Fra h1 H1 h3 H3 where
  f := fun c n o e =>
    let ⟨e1, n1⟩ := a.f c n o e
    b.f c n1 o e1
  j := fun c e =>
    let ⟨e1, n1⟩ := a.j c e
    let ⟨e2, n2⟩ := b.j c n1
    ⟨e2.trans e1, n2⟩
theorem CH.set_same {a : Addr} {x : Val} : h.set a x a = some x := by unfold CH.set; rw [if_pos rfl]
theorem CH.set_ne {a b : Addr} {x : Val} (e : b ≠ a) : h.set a x b = h b := by unfold CH.set; rw [if_neg e]
theorem CH.set_set {a : Addr} {x y : Val} : (h.set a x).set a y = h.set a y := by
  funext b; unfold CH.set; split <;> rfl
theorem CH.del_same {a : Addr} : h.del a a = none := by unfold CH.del; rw [if_pos rfl]
theorem CH.del_ne {a b : Addr} (e : b ≠ a) : h.del a b = h b := by unfold CH.del; rw [if_neg e]
theorem CH.del_set {a : Addr} {x : Val} (n : h a = none) : (h.set a x).del a = h := by
  funext b
  by_cases e : b = a
  · subst e; rw [CH.del_same, n]
  · rw [CH.del_ne e, CH.set_ne e]
/-- a new thing, nobody's -/
theorem Fra.new {p : Addr} {o : HO} (n : H p = none) (hp : h p = none) : Fra h H h (upd H p o) where
  f := fun a na u e => by
    have ne : a ≠ p := ne_of_none e n
    exact ⟨by rw [upd_ne ne]; exact e, na⟩
  j := fun a e => by
    have ne : a ≠ p := fun z => by rw [z, hp] at e; cases e
    exact ⟨upd_ne ne, e⟩
/-- a new thing, ours -/
theorem Fra.own {p : Addr} {o : HO} {x : Val} (n : H p = none) (hp : h p = none) : Fra h H (h.set p x) (upd H p o) where
  f := fun a na u e => by
    have ne : a ≠ p := ne_of_none e n
    exact ⟨by rw [upd_ne ne]; exact e, by rw [CH.set_ne ne]; exact na⟩
  j := fun a e => by
    have ne : a ≠ p := fun z => by rw [z, hp] at e; cases e
    exact ⟨upd_ne ne, by rw [CH.set_ne ne]; exact e⟩
/-- ours is written -/
theorem Fra.write {p : Addr} {o : HO} {x y : Val} (n : h p = some y) (nj : y ≠ junk) : Fra h H (h.set p x) (upd H p o) where
  f := fun a na u e => by
    have ne : a ≠ p := fun z => by rw [z, n] at na; cases na
    exact ⟨by rw [upd_ne ne]; exact e, by rw [CH.set_ne ne]; exact na⟩
  j := fun a e => by
    have ne : a ≠ p := fun z => by rw [z, n] at e; exact nj (Option.some.inj e)
    exact ⟨upd_ne ne, by rw [CH.set_ne ne]; exact e⟩
/-- ours is given up -/
theorem Fra.less (l : ∀ a x, h' a = some x → h a = some x) (k : ∀ a, h a = some junk → h' a = some junk) : Fra h H h' H where
  f := fun a na o e => ⟨e, by
    cases q : h' a with
    | none => rfl
    | some x => rw [l a x q] at na; cases na⟩
  j := fun a e => ⟨rfl, k a e⟩

def ObAt (G : Cfg) (H : Hp) (h : CH) (a : Addr) : Val → Prop
  | .lst xs => ∃ vs, H a = some (.lst vs) ∧ RepL G H h xs vs
  | .dct kvs => ∃ vs, H a = some (.dK vs) ∧ RepK G H h kvs vs
  | .dtt kvs => ∃ vs, H a = some (.dT vs) ∧ RepP G H h kvs vs
  | .obj C fs => ∃ dx vs, H a = some (.ins (G.cad C) dx vs) ∧ RepF G H h fs vs
  | .kd _ => ∃ u, H a = some u ∧ ∀ vs, u ≠ .tup vs
  | _ => False
/-- where a tuple stands nothing of ours stands -/
theorem ObAt.no_tup {a : Addr} {x : Val} {vs : List V} (o : ObAt G H h a x) (e : H a = some (.tup vs)) : False := by
  cases x with
  | lst xs => obtain ⟨vs, q, _⟩ := o; rw [e] at q; cases q
  | dct xs => obtain ⟨vs, q, _⟩ := o; rw [e] at q; cases q
  | dtt xs => obtain ⟨vs, q, _⟩ := o; rw [e] at q; cases q
  | obj C fs => obtain ⟨dx, vs, q, _⟩ := o; rw [e] at q; cases q
  | kd _ => obtain ⟨u, q, nt⟩ := o; rw [e] at q; cases q; exact nt _ rfl
  | _ => exact o
def HRep (G : Cfg) (H : Hp) (h : CH) : Prop := ∀ a x, h a = some x → ObAt G H h a x
theorem ObAt.there {a : Addr} {x : Val} (o : ObAt G H h a x) : ∃ u, H a = some u := by
  cases x with
  | lst xs => obtain ⟨vs, e, _⟩ := o; exact ⟨_, e⟩
  | dct xs => obtain ⟨vs, e, _⟩ := o; exact ⟨_, e⟩
  | dtt xs => obtain ⟨vs, e, _⟩ := o; exact ⟨_, e⟩
  | obj C fs => obtain ⟨dx, vs, e, _⟩ := o; exact ⟨_, e⟩
  | kd _ => obtain ⟨u, e, _⟩ := o; exact ⟨u, e⟩
  | _ => exact o.elim
theorem HRep.gone (r : HRep G H h) {a : Addr} (n : H a = none) : h a = none := by
  cases q : h a with
  | none => rfl
  | some x =>
    obtain ⟨u, e⟩ := (r a x q).there
    rw [n] at e; cases e
theorem ObAt.mono {a : Addr} {x : Val} (k : Kept h H h' H') (e : H' a = H a) (o : ObAt G H h a x) : ObAt G H' h' a x := by
  cases x with
  | lst xs => obtain ⟨vs, q, r⟩ := o; exact ⟨vs, e.trans q, RepL.mono k _ _ r⟩
  | dct xs => obtain ⟨vs, q, r⟩ := o; exact ⟨vs, e.trans q, RepK.mono k _ _ r⟩
  | dtt xs => obtain ⟨vs, q, r⟩ := o; exact ⟨vs, e.trans q, RepP.mono k _ _ r⟩
  | obj C fs => obtain ⟨dx, vs, q, r⟩ := o; exact ⟨dx, vs, e.trans q, RepF.mono k _ _ r⟩
  | kd _ => obtain ⟨u, q, nt⟩ := o; exact ⟨u, e.trans q, nt⟩
  | _ => exact o.elim
theorem HRep.tup (r : HRep G H h) {a : Addr} {vs : List V} (e : H a = some (.tup vs)) : h a = none := by
  cases q : h a with
  | none => rfl
  | some x => exact ((r a x q).no_tup e).elim
/-- a new object, nobody's -/
theorem HRep.new {p : Addr} {o : HO} (r : HRep G H h) (n : H p = none) : HRep G (upd H p o) h := fun a x e => by
  have ne : a ≠ p := fun z => by rw [z, r.gone n] at e; cases e
  exact (r a x e).mono (Fra.new n (r.gone n)).kept (upd_ne ne)
/-- a new object, ours -/
theorem HRep.own {p : Addr} {o : HO} {x : Val} (r : HRep G H h) (n : H p = none) (ob : ObAt G (upd H p o) (h.set p x) p x) : HRep G (upd H p o) (h.set p x) := fun a y e => by
  by_cases z : a = p
  · subst z
    rw [CH.set_same] at e; cases e
    exact ob
  · rw [CH.set_ne z] at e
    exact (r a y e).mono (Fra.own n (r.gone n)).kept (upd_ne z)
/-- what is not ours is read as before -/
theorem kept_write {p : Addr} {o : HO} {h2 : CH} {y : Val} (n : h p = some y) (e : ∀ a, a ≠ p → h2 a = h a) : Kept h H h2 (upd H p o) where
  t := fun a vs na r => by
    have ne : a ≠ p := fun z => by rw [z, n] at na; cases na
    exact ⟨by rw [upd_ne ne]; exact r, by rw [e a ne]; exact na⟩
  c := fun a u _ na r => by
    have ne : a ≠ p := fun z => by rw [z, n] at na; cases na
    refine ⟨?_, by rw [e a ne]; exact na⟩
    rcases r with r | ⟨o, r⟩
    · exact .inl (by rw [upd_ne ne]; exact r)
    · exact .inr ⟨o, by rw [upd_ne ne]; exact r⟩
  i := fun a C dx vs na r => by
    have ne : a ≠ p := fun z => by rw [z, n] at na; cases na
    exact ⟨by rw [upd_ne ne]; exact r, by rw [e a ne]; exact na⟩
theorem HRep.write {p : Addr} {o : HO} {x y : Val} (r : HRep G H h) (n : h p = some y) (ob : ObAt G (upd H p o) (h.set p x) p x) : HRep G (upd H p o) (h.set p x) := fun a z e => by
  by_cases q : a = p
  · subst q
    rw [CH.set_same] at e; cases e
    exact ob
  · rw [CH.set_ne q] at e
    exact (r a z e).mono (kept_write n fun b nb => CH.set_ne nb) (upd_ne q)
theorem kept_less (l : ∀ a x, h' a = some x → h a = some x) : Kept h H h' H where
  t := fun a vs na r => ⟨r, by
    cases q : h' a with
    | none => rfl
    | some x => rw [l a x q] at na; cases na⟩
  c := fun a u _ na r => ⟨r, by
    cases q : h' a with
    | none => rfl
    | some x => rw [l a x q] at na; cases na⟩
  i := fun a C dx vs na r => ⟨r, by
    cases q : h' a with
    | none => rfl
    | some x => rw [l a x q] at na; cases na⟩
theorem HRep.less (r : HRep G H h) (l : ∀ a x, h' a = some x → h a = some x) : HRep G H h' := fun a x e => (r a x (l a x e)).mono (kept_less l) rfl

/-! ### lists of values -/
theorem RepL.length : ∀ {xs : List Val} {vs : List V}, RepL G H h xs vs → xs.length = vs.length
  | [], _, e => by rw [show _ = ([] : List V) from e]; rfl
  | x :: xs, _, ⟨v, r, e, _, t⟩ => by rw [e, List.length_cons, List.length_cons, RepL.length t]
theorem RepL.get : ∀ {xs : List Val} {vs : List V} {i : Nat} {x : Val}, RepL G H h xs vs → xs[i]? = some x → ∃ v, vs[i]? = some v ∧ RepV G H h x v
  | [], _, i, _, _, e => by simp at e
  | y :: xs, _, 0, x, ⟨v, r, e1, q, t⟩, e => by
    have : y = x := by simpa using e
    subst this
    exact ⟨v, by rw [e1]; rfl, q⟩
  | y :: xs, _, i + 1, x, ⟨v, r, e1, q, t⟩, e => by
    obtain ⟨u, h1, h2⟩ := RepL.get (i := i) (x := x) t (by simpa using e)
    exact ⟨u, by rw [e1]; simpa using h1, h2⟩
theorem RepL.nil : RepL G H h [] [] := rfl
theorem RepL.cons {x : Val} {v : V} {xs : List Val} {vs : List V} (a : RepV G H h x v) (b : RepL G H h xs vs) : RepL G H h (x :: xs) (v :: vs) := ⟨v, vs, rfl, a, b⟩
theorem RepL.append : ∀ {xs ys : List Val} {vs us : List V}, RepL G H h xs vs → RepL G H h ys us → RepL G H h (xs ++ ys) (vs ++ us)
  | [], _, _, _, e, t => by rw [show _ = ([] : List V) from e]; exact t
  | x :: xs, _, _, _, ⟨v, r, e, q, s⟩, t => by rw [e]; exact ⟨v, _, rfl, q, RepL.append s t⟩
theorem RepL.take : ∀ {xs : List Val} {vs : List V} (n : Nat), RepL G H h xs vs → RepL G H h (xs.take n) (vs.take n)
  | xs, vs, 0, _ => by simp [RepL]
  | [], _, n + 1, e => by rw [show _ = ([] : List V) from e]; rfl
  | x :: xs, _, n + 1, ⟨v, r, e, q, s⟩ => by rw [e]; exact ⟨v, _, rfl, q, RepL.take n s⟩
theorem RepL.drop : ∀ {xs : List Val} {vs : List V} (n : Nat), RepL G H h xs vs → RepL G H h (xs.drop n) (vs.drop n)
  | xs, vs, 0, r => r
  | [], _, n + 1, e => by rw [show _ = ([] : List V) from e]; rfl
  | x :: xs, _, n + 1, ⟨v, r, e, q, s⟩ => by rw [e]; exact RepL.drop n s
theorem RepL.set : ∀ {xs : List Val} {vs : List V} (n : Nat) {x : Val} {v : V}, RepL G H h xs vs → RepV G H h x v → RepL G H h (xs.set n x) (vs.set n v)
  | [], _, n, x, v, e, _ => by rw [show _ = ([] : List V) from e]; rfl
  | y :: xs, _, 0, x, v, ⟨w, r, e, q, s⟩, t => by rw [e]; exact ⟨v, _, rfl, t, s⟩
  | y :: xs, _, n + 1, x, v, ⟨w, r, e, q, s⟩, t => by rw [e]; exact ⟨w, _, rfl, q, RepL.set n s t⟩
theorem RepL.reverse : ∀ {xs : List Val} {vs : List V}, RepL G H h xs vs → RepL G H h xs.reverse vs.reverse
  | [], _, e => by rw [show _ = ([] : List V) from e]; rfl
  | x :: xs, _, ⟨v, r, e, q, s⟩ => by
    rw [e, List.reverse_cons, List.reverse_cons]
    exact RepL.append (RepL.reverse s) (RepL.cons q RepL.nil)
theorem RepL.of_get : ∀ {xs : List Val} {vs : List V}, xs.length = vs.length → (∀ (i : Nat) (x : Val) (v : V), xs[i]? = some x → vs[i]? = some v → RepV G H h x v) → RepL G H h xs vs
  | [], [], _, _ => rfl
  | [], _ :: _, e, _ => by simp at e
  | _ :: _, [], e, _ => by simp at e
  | x :: xs, v :: vs, e, k => ⟨v, vs, rfl, k 0 x v rfl rfl, RepL.of_get (by simpa using e) fun i y u h1 h2 => k (i + 1) y u (by simpa using h1) (by simpa using h2)⟩
theorem RepL.dropLast {xs : List Val} {vs : List V} (r : RepL G H h xs vs) : RepL G H h xs.dropLast vs.dropLast := by
  rw [List.dropLast_eq_take, List.dropLast_eq_take, ← r.length]
  exact r.take _

/-! ### dicts -/
theorem RepK.length : ∀ {xs : List (Key × Val)} {vs : List (Key × V)}, RepK G H h xs vs → xs.length = vs.length
  | [], _, e => by rw [show _ = ([] : List (Key × V)) from e]; rfl
  | (k, x) :: xs, _, ⟨v, r, e, _, t⟩ => by rw [e, List.length_cons, List.length_cons, RepK.length t]
theorem RepK.keys : ∀ {xs : List (Key × Val)} {vs : List (Key × V)}, RepK G H h xs vs → xs.map (·.1) = vs.map (·.1)
  | [], _, e => by rw [show _ = ([] : List (Key × V)) from e]; rfl
  | (k, x) :: xs, _, ⟨v, r, e, _, t⟩ => by rw [e, List.map_cons, List.map_cons, RepK.keys t]
theorem RepK.vals : ∀ {xs : List (Key × Val)} {vs : List (Key × V)}, RepK G H h xs vs → RepL G H h (xs.map (·.2)) (vs.map (·.2))
  | [], _, e => by rw [show _ = ([] : List (Key × V)) from e]; rfl
  | (k, x) :: xs, _, ⟨v, r, e, q, t⟩ => by rw [e]; exact ⟨v, _, rfl, q, RepK.vals t⟩
theorem RepK.append : ∀ {xs ys : List (Key × Val)} {vs us : List (Key × V)}, RepK G H h xs vs → RepK G H h ys us → RepK G H h (xs ++ ys) (vs ++ us)
  | [], _, _, _, e, t => by rw [show _ = ([] : List (Key × V)) from e]; exact t
  | (k, x) :: xs, _, _, _, ⟨v, r, e, q, s⟩, t => by rw [e]; exact ⟨v, _, rfl, q, RepK.append s t⟩
theorem RepK.get {k : Key} : ∀ {xs : List (Key × Val)} {vs : List (Key × V)}, RepK G H h xs vs → (∀ x, vget xs k = some x → ∃ v, valV vs k = some v ∧ RepV G H h x v) ∧ (vget xs k = none → valV vs k = none)
  | [], _, e => by rw [show _ = ([] : List (Key × V)) from e]; exact ⟨fun x q => by simp [vget] at q, fun _ => rfl⟩
  | (j, y) :: xs, _, ⟨v, r, e, q, t⟩ => by
    rw [e]
    by_cases z : j = k
    · have e1 : vget ((j, y) :: xs) k = some y := by simp [vget, List.find?_cons, z]
      rw [valV_pos (p := (j, v)) z, e1]
      exact ⟨fun x h1 => ⟨v, rfl, by cases h1; exact q⟩, fun h1 => by cases h1⟩
    · have e1 : vget ((j, y) :: xs) k = vget xs k := by simp [vget, List.find?_cons, z]
      rw [valV_neg (p := (j, v)) z, e1]
      exact RepK.get t
theorem RepK.mapput {k : Key} {x : Val} {v : V} (q : RepV G H h x v) : ∀ {xs : List (Key × Val)} {vs : List (Key × V)}, RepK G H h xs vs →
    RepK G H h (xs.map fun kv => if kv.1 = k then (kv.1, x) else kv) (vs.map fun kv => if kv.1 = k then (kv.1, v) else kv)
  | [], _, e => by rw [show _ = ([] : List (Key × V)) from e]; rfl
  | (j, y) :: xs, _, ⟨w, r, e, z, t⟩ => by
    rw [e, List.map_cons, List.map_cons]
    by_cases c : j = k
    · simp only [c, if_true]
      exact ⟨v, _, rfl, q, RepK.mapput q t⟩
    · simp only [c, if_false]
      exact ⟨w, _, rfl, z, RepK.mapput q t⟩
theorem RepK.any {k : Key} {xs : List (Key × Val)} {vs : List (Key × V)} (r : RepK G H h xs vs) : (xs.any fun kv => decide (kv.1 = k)) = (vs.any fun kv => decide (kv.1 = k)) := by
  have e : ∀ {α : Type} (l : List (Key × α)), (l.any fun kv => decide (kv.1 = k)) = ((l.map (·.1)).any fun j => decide (j = k)) := fun l => by rw [List.any_map]; rfl
  rw [e, e, r.keys]
theorem RepK.put {k : Key} {x : Val} {v : V} {xs : List (Key × Val)} {vs : List (Key × V)} (r : RepK G H h xs vs) (q : RepV G H h x v) : RepK G H h (vput xs k x) (putK vs k v) := by
  unfold vput putK
  rw [r.any]
  split
  · exact r.mapput q
  · exact r.append ⟨v, [], rfl, q, rfl⟩
theorem RepP.length : ∀ {xs : List (List Key × Val)} {vs : List (List Key × V)}, RepP G H h xs vs → xs.length = vs.length
  | [], _, e => by rw [show _ = ([] : List (List Key × V)) from e]; rfl
  | (k, x) :: xs, _, ⟨v, r, e, _, t⟩ => by rw [e, List.length_cons, List.length_cons, RepP.length t]
theorem RepP.keys : ∀ {xs : List (List Key × Val)} {vs : List (List Key × V)}, RepP G H h xs vs → xs.map (·.1) = vs.map (·.1)
  | [], _, e => by rw [show _ = ([] : List (List Key × V)) from e]; rfl
  | (k, x) :: xs, _, ⟨v, r, e, _, t⟩ => by rw [e, List.map_cons, List.map_cons, RepP.keys t]
theorem RepP.append : ∀ {xs ys : List (List Key × Val)} {vs us : List (List Key × V)}, RepP G H h xs vs → RepP G H h ys us → RepP G H h (xs ++ ys) (vs ++ us)
  | [], _, _, _, e, t => by rw [show _ = ([] : List (List Key × V)) from e]; exact t
  | (k, x) :: xs, _, _, _, ⟨v, r, e, q, s⟩, t => by rw [e]; exact ⟨v, _, rfl, q, RepP.append s t⟩
theorem RepP.get {k : List Key} : ∀ {xs : List (List Key × Val)} {vs : List (List Key × V)}, RepP G H h xs vs → (∀ x, vget xs k = some x → ∃ v, valV vs k = some v ∧ RepV G H h x v) ∧ (vget xs k = none → valV vs k = none)
  | [], _, e => by rw [show _ = ([] : List (List Key × V)) from e]; exact ⟨fun x q => by simp [vget] at q, fun _ => rfl⟩
  | (j, y) :: xs, _, ⟨v, r, e, q, t⟩ => by
    rw [e]
    by_cases z : j = k
    · have e1 : vget ((j, y) :: xs) k = some y := by simp [vget, List.find?_cons, z]
      rw [valV_pos (p := (j, v)) z, e1]
      exact ⟨fun x h1 => ⟨v, rfl, by cases h1; exact q⟩, fun h1 => by cases h1⟩
    · have e1 : vget ((j, y) :: xs) k = vget xs k := by simp [vget, List.find?_cons, z]
      rw [valV_neg (p := (j, v)) z, e1]
      exact RepP.get t
theorem RepP.mapput {k : List Key} {x : Val} {v : V} (q : RepV G H h x v) : ∀ {xs : List (List Key × Val)} {vs : List (List Key × V)}, RepP G H h xs vs →
    RepP G H h (xs.map fun kv => if kv.1 = k then (kv.1, x) else kv) (vs.map fun kv => if kv.1 = k then (kv.1, v) else kv)
  | [], _, e => by rw [show _ = ([] : List (List Key × V)) from e]; rfl
  | (j, y) :: xs, _, ⟨w, r, e, z, t⟩ => by
    rw [e, List.map_cons, List.map_cons]
    by_cases c : j = k
    · simp only [c, if_true]
      exact ⟨v, _, rfl, q, RepP.mapput q t⟩
    · simp only [c, if_false]
      exact ⟨w, _, rfl, z, RepP.mapput q t⟩
theorem RepP.any {k : List Key} {xs : List (List Key × Val)} {vs : List (List Key × V)} (r : RepP G H h xs vs) : (xs.any fun kv => decide (kv.1 = k)) = (vs.any fun kv => decide (kv.1 = k)) := by
  have e : ∀ {α : Type} (l : List (List Key × α)), (l.any fun kv => decide (kv.1 = k)) = ((l.map (·.1)).any fun j => decide (j = k)) := fun l => by rw [List.any_map]; rfl
  rw [e, e, r.keys]
theorem RepP.put {k : List Key} {x : Val} {v : V} {xs : List (List Key × Val)} {vs : List (List Key × V)} (r : RepP G H h xs vs) (q : RepV G H h x v) : RepP G H h (vput xs k x) (putK vs k v) := by
  unfold vput putK
  rw [r.any]
  split
  · exact r.mapput q
  · exact r.append ⟨v, [], rfl, q, rfl⟩
/-! ### fields -/
theorem RepF.length : ∀ {xs : List (Str × Val)} {vs : List (Str × V)}, RepF G H h xs vs → xs.length = vs.length
  | [], _, e => by rw [show _ = ([] : List (Str × V)) from e]; rfl
  | (k, x) :: xs, _, ⟨v, r, e, _, t⟩ => by rw [e, List.length_cons, List.length_cons, RepF.length t]
theorem RepF.look {f : Str} : ∀ {xs : List (Str × Val)} {vs : List (Str × V)}, RepF G H h xs vs → (∀ x, xs.lookup f = some x → ∃ v, vs.lookup f = some v ∧ RepV G H h x v) ∧ (xs.lookup f = none → vs.lookup f = none)
  | [], _, e => by rw [show _ = ([] : List (Str × V)) from e]; exact ⟨fun x q => by simp at q, fun _ => rfl⟩
  | (j, y) :: xs, _, ⟨v, r, e, q, t⟩ => by
    rw [e, List.lookup_cons, List.lookup_cons]
    cases f == j with
    | true => exact ⟨fun x h1 => ⟨v, rfl, by cases h1; exact q⟩, fun h1 => by cases h1⟩
    | false => exact RepF.look t
theorem RepF.put {f : Str} {x : Val} {v : V} (q : RepV G H h x v) : ∀ {xs : List (Str × Val)} {vs : List (Str × V)}, RepF G H h xs vs → RepF G H h (fput f x xs) (putF f v vs)
  | [], _, e => by rw [show _ = ([] : List (Str × V)) from e]; exact ⟨v, [], rfl, q, rfl⟩
  | (j, y) :: xs, _, ⟨w, r, e, z, t⟩ => by
    rw [e]
    show RepF G H h (if j = f then (j, x) :: xs else (j, y) :: fput f x xs) (if j = f then (j, v) :: r else (j, w) :: putF f v r)
    by_cases c : j = f
    · rw [if_pos c, if_pos c]; exact ⟨v, _, rfl, q, t⟩
    · rw [if_neg c, if_neg c]; exact ⟨w, _, rfl, z, RepF.put q t⟩
end

/-! ### slots -/
def Slots (G : Cfg) (σ : L2.St) (ρ : Env) (H : Hp) (h : CH) : Prop := σ.length = ρ.length ∧ ∀ (i : Nat) (x : Val), ρ[i]? = some (some x) → ∃ v, σ[i]? = some (some v) ∧ RepV G H h x v
section
variable {G : Cfg} {h h' : CH} {H H' : Hp} {σ : L2.St} {ρ : Env}
theorem Slots.mono (k : Kept h H h' H') (s : Slots G σ ρ H h) : Slots G σ ρ H' h' := ⟨s.1, fun i x e => let ⟨v, e1, r⟩ := s.2 i x e; ⟨v, e1, RepV.mono k x v r⟩⟩
theorem Slots.set {i : Nat} {x : Val} {v : V} (s : Slots G σ ρ H h) (r : RepV G H h x v) : Slots G (σ.set i (some v)) (ρ.set i (some x)) H h := by
  refine ⟨by rw [List.length_set, List.length_set]; exact s.1, fun j y e => ?_⟩
  by_cases c : i = j
  · subst c
    by_cases l : i < ρ.length
    · rw [List.getElem?_set_self l] at e
      cases e
      exact ⟨v, by rw [List.getElem?_set_self (by rw [s.1]; exact l)], r⟩
    · rw [List.getElem?_eq_none (by rw [List.length_set]; omega)] at e; cases e
  · rw [List.getElem?_set_ne c] at e
    rw [List.getElem?_set_ne c]
    exact s.2 j y e
theorem Slots.forget {i : Nat} (s : Slots G σ ρ H h) : Slots G (σ.set i none) (ρ.set i none) H h := by
  refine ⟨by rw [List.length_set, List.length_set]; exact s.1, fun j y e => ?_⟩
  by_cases c : i = j
  · subst c
    by_cases l : i < ρ.length
    · rw [List.getElem?_set_self l] at e; cases e
    · rw [List.getElem?_eq_none (by rw [List.length_set]; omega)] at e; cases e
  · rw [List.getElem?_set_ne c] at e
    rw [List.getElem?_set_ne c]
    exact s.2 j y e
theorem Slots.wipe (s : Slots G σ ρ H h) : ∀ own : List Nat, Slots G (L2.wipe σ own) (Vc.wipe own ρ) H h
  | [] => s
  | i :: own => Slots.forget (Slots.wipe s own)
end
end Vc
/-! Vc2: room, promises, contexts, readings. -/
namespace Vc
open PySem L2 PyProof.Rows

/-! ### room: one level a frame -/
structure Rm (k : Nat) (A : Around) : Prop where
  hd : A.handled = none
  dp : A.depth + k + 30 < recursionLimit
  un : A.units + 4 * k + 400 < cLine
theorem Rm.mono {j k : Nat} {A : Around} (r : Rm k A) (h : j ≤ k) : Rm j A := ⟨r.hd, by have := r.dp; omega, by have := r.un; omega⟩
theorem Rm.deeper {k : Nat} {A : Around} (r : Rm (k + 1) A) (env : PySem.Env) : Rm k (A.deeper env) :=
  ⟨r.hd, by have d := r.dp; show (A.depth + 1) + k + 30 < _; omega, by have u := r.un; show (A.units + 3) + 4 * k + 400 < _; omega⟩
theorem Rm.make {k : Nat} {A : Around} (r : Rm (k + 1) A) (C : Addr) (us : List Value) (kw : List (Str × Value)) : Rm k (A.under (.builtin "type.__call__" ⟨.ref C :: us, kw⟩)) :=
  ⟨r.hd, by have d := r.dp; rw [make_depth]; omega, by have u := r.un; rw [make_units]; omega⟩
theorem Rm.u {k : Nat} {A : Around} (r : Rm k A) : A.units + 66 < cLine := by have := r.un; omega
/-- what a def promises, by values -/
abbrev Spec := List Val → CH → VP → XP → Prop
structure FnS (P : Program) (w : World) (K : PySem.W.Frag) (mg : Str → Option Value) (base : Heap) (k : Nat) (f : Addr) (fd : FuncData) (ps : List Str) (sp : Sp) : Prop where
  len :
        ∀ vs H Q E, sp vs H Q E → vs.length = ps.length
  run : ∀ (A : Around) (outer : List PySem.Env) (s : Shared) (H : Hp) (args : Args) (us : List Value) (vs : List V) (Q : VK) (E : XK), Rm k A → Env0 P w K mg base A outer s H → BindsTo s fd args (ps.zip us) →
    Vals vs us → sp vs H Q E → codeAny (model P w) A (.call (.ref f) args) (CR (L2.CX P w) outer P w H s Q E) s
/-- by its body -/
theorem FnS.of {P : Program} {w : World} {K : PySem.W.Frag} {mg : Str → Option Value} {base : Heap} {k : Nat} {f : Addr} {name qual : Str} {params : Arguments} {body : List Stmt} {scope : Scope} {dV kV doc pm cdv ct oc : Value} {an od : Option Addr}
    {osl :
          Array (Option Value)} {N ps : List Str} {sp : Sp} (lk : K.lookup f = some ⟨oc, od, .func (PySem.W.fnOf name qual params body scope dV kV doc pm an cdv ct), osl⟩) (hcd : PySem.W.codeIn K cdv qual = true) (S : FnScope N ps scope)
    (len :
          ∀ vs H Q E, sp vs H Q E → vs.length = ps.length)
    (hb : ∀ (A : Around) (outer : List PySem.Env) (s : Shared) (H : Hp) (vs : List V) (Q : VK) (E : XK), Rm k (A.deeper (envOfC qual scope s.heap.objs.size f cdv)) → sp vs H Q E →
      ∃ t, PSs (cxOf (L2.CX P w) P w K mg base N qual scope f cdv A outer s H E) body t ∧ t { nx := fun _ H' => Q .non H', rt := Q } (start N vs) H) :
    FnS P w K mg base (k + 1) f (PySem.W.fnOf name qual params body scope dV kV doc pm an cdv ct) ps sp where
  len := len
  run := by
    intro A outer s H args us vs Q E hr e0 hbd rv hsp
    have hl := len _ _ _ _ hsp
    have KX : K.In s.heap := PySem.W.Frag.In.keeps e0.mod.kin fun b o e => (e0.bs b o e).1
    have lim : s.heap.NoLimit :=
          e0.mod.nolimit.keeps fun b o e => (e0.bs b o e).1
    have kd : ∀ y ∈ ps.zip us, scope.names.lookup y.1 = some .local ∨ (scope.names.lookup y.1 = some .cell ∧ ((cellsFrom (s.heap.objs.size + 1) scope.names []).lookup y.1).isSome = true) := by
      rintro ⟨n, v⟩ hy
      rcases
            S.par n (List.of_mem_zip hy).1 with q | q
      · exact Or.inl q
      · exact Or.inr ⟨q, PySem.W.cellsFrom_some _ _ _ (Or.inl q)⟩
    have dep : A.depth < recursionLimit := by have := hr.dp; omega
    refine codeAny_call_function dep (KX _ _ lk) rfl S.co S.gen rfl (PySem.W.codeRec_of KX hcd) (hbd _ _ _ _ ?_)
    refine wpAny_newFunctionEnv_cells S.kind kd fun env he s1 x => ?_
    cases he
    refine
          ⟨lim.keeps x.toInCall.keep, codeAny_func ?_⟩
    obtain ⟨t, ht, hq⟩ := hb A outer s H vs Q E (hr.deeper _) hsp
    have I := inv_start (CX := L2.CX P w) (E := E) S hr.hd e0 hl rv x
    refine wpAny_mono (ht.run [] s1 _ H _ I hq) (fun fl s' hs => ?_) fun e s' hs => hs
    cases fl with
    | ret u =>
      obtain ⟨v, σ', H', J, r1, q⟩ := hs
      exact ⟨v, H', J.os, J.bare, J.base, J.hok, r1, q⟩
    | next =>
      obtain ⟨σ', H', J, q⟩ := hs
      exact ⟨V.non, H', J.os, J.bare, J.base, J.hok, rfl, q⟩
    | brk => obtain ⟨_, _, _, q⟩ := hs; exact q.elim
    | cont => obtain ⟨_, _, _, q⟩ := hs; exact q.elim
section
variable {X : Cx} {k : Nat} {f C : Addr} {fd : FuncData} {ps : List Str} {sp : Sp} {W : WX} {pins : List (Addr × Obj)} {σ : L2.St} {H : Hp} {s : Shared} {Q : VK} {us : List Value} {vs : List V}
/-- the callee runs -/
theorem run_s (F : FnS X.prog X.w X.K X.mg X.base k f fd ps sp) (hr : Rm k X.A) (hb : L2.Binds X.K fd ps []) (tk : Takes X W) (I : Inv X pins σ H s) (r : Vals vs us) (h : sp vs H Q (WE W σ)) :
    wpAny
          (model X.prog X.w) X.A (call (.ref f) us) (EP X pins σ Q) X.xe s := by
  have hl : us.length = ps.length := r.length.symm.trans (F.len _ _ _ _ h)
  have b :=
        hb s us I.kIn (by rw [List.append_nil]; exact hl)
  rw [List.append_nil] at b
  refine wpAny_call (codeAny_mono (F.run X.A X.stack s H ⟨us, []⟩ us vs Q _ hr I.env0 b r h) fun res s' hq => ?_)
  cases res with
  | error e => exact passAt tk σ pins H s e s' I hq
  | ok fl =>
    cases fl with
    | ret u => exact I.after hq
    | next => exact hq.elim
    | brk => exact hq.elim
    | cont => exact hq.elim
/-- an instance is made -/
theorem run_m (M : Mk X.K C f) (F : FnS X.prog X.w X.K X.mg X.base k f fd ps sp) (hr : Rm (k + 1) X.A) (hb : L2.Binds X.K fd ps []) (tk : Takes X (fun _ _ _ _ => False)) (I : Inv X pins σ H s) (r : Vals vs us)
    (h : ∀ x dx, H x = none → H dx = none → dx ≠ x → sp (.ref x :: vs) (upd (upd H dx (.own x)) x (.ins C dx [])) (fun v H2 => v = .non ∧ Q (.ref x) H2) (fun _ _ _ => False)) :
    wpAny
          (model X.prog X.w) X.A (call (.ref C) us) (EP X pins σ Q) X.xe s := by
  have hq :=
        h (s.heap.objs.size + 1) s.heap.objs.size (I.hok.fresh (Nat.le_succ _)) (I.hok.fresh (Nat.le_refl _)) (Nat.ne_of_lt (Nat.lt_succ_self _))
  have I2 :=
        Inv.made (C := C) I
  have r2 : Vals (V.ref (s.heap.objs.size + 1) :: vs) (Value.ref (s.heap.objs.size + 1) :: us) :=
        .cons rfl r
  have hl : (Value.ref (s.heap.objs.size + 1) :: us).length = ps.length := r2.length.symm.trans (F.len _ _ _ _ hq)
  have b := hb { s with heap := _ } (Value.ref (s.heap.objs.size + 1) :: us) I2.kIn (by rw [List.append_nil]; exact hl)
  rw [List.append_nil] at b
  refine wpAny_call (make_map (f := f) I.kIn M.makes M.init (beq_iff_eq.mp M.fn) (codeAny_mono (F.run _ X.stack _ _ ⟨Value.ref (s.heap.objs.size + 1) :: us, []⟩ _ _ _ (fun _ _ _ => False) (hr.make C us []) (I2.env0.make C us []) b r2 hq) fun res s' hq' => ?_))
  cases res with
  | error e => exact passAt (W := fun _ _ _ _ => False) tk σ pins _ _ e s' I2 hq'
  | ok fl =>
    cases fl with
    | ret u =>
      obtain ⟨v, H', I3, rv, ev, q3⟩ :=
            I2.after hq'
      subst ev
      exact
            ⟨rv, ⟨V.ref (s.heap.objs.size + 1), H', I3, rfl, q3⟩⟩
    | next => exact hq'.elim
    | brk => exact hq'.elim
    | cont => exact hq'.elim
end
end Vc
/-! Vc3: contexts; readings of the small syntax. -/
namespace Vc
open PySem L2 PyProof.Rows

/-- a promise by values, as one of the layer -/
def lift (G : Cfg) (n : Nat) (sp : Spec) : Sp := fun vs H Q E => ∃ xs h P Xp, xs.length = n ∧ RepL G H h xs vs ∧ HRep G H h ∧ sp xs h P Xp ∧
  (∀ v H' x h', RepV G H' h' x v → HRep G H' h' → Fra h H h' H' → P x h' → Q v H') ∧ ∀ C H' h', HRep G H' h' → Fra h H h' H' → Xp C h' → E (.ref (G.cad C)) none H'
/-- what a def wants of the number of its arguments -/
def arity (sp : Spec) (n : Nat) : Prop := ∀ vs h Q Xp, sp vs h Q Xp → vs.length = n

/-- a name's kind stays, at most free turns to cell -/
def NmOk (a b : Scope) : Prop := ∀ x, (a.names.lookup x = some .local → b.names.lookup x = some .local) ∧ (a.names.lookup x = some .cell → b.names.lookup x = some .cell) ∧
  (a.names.lookup x = some .free → b.names.lookup x = some .free ∨ b.names.lookup x = some .cell) ∧ (a.names.lookup x = some .globalImplicit → b.names.lookup x = some .globalImplicit)
/-- built-in names that the module leaves alone -/
def bnames : List Str := ["len", "abs", "int", "tuple", "sum", "max", "min", "list", "range", "enumerate", "zip", "reversed", "sorted", "set", "isinstance", "dict", "str", "bool"]
/-- what the code around tells: the module, what may be called -/
structure Tab (G : Cfg) (Γ : Fns) (k : Nat) (P : Program) (w : World) (K : PySem.W.Frag) (mg : Str → Option Value) (base : Heap) : Prop where
  k0 : K = G.K
  fn : ∀ x, Γ.okf x → ∃ fd ps, FnS P w K mg base k (G.fad x) fd ps (lift G ps.length (Γ.fn x)) ∧ arity (Γ.fn x) ps.length ∧ mg x = some (.ref (G.fad x)) ∧ PySem.W.keepIn K (.ref (G.fad x)) = true ∧ L2.Binds K fd ps []
  cn : ∀ C, Γ.okc C → ∃ f fd ps j, k = j + 1 ∧ Mk K (G.cad C) f ∧ mg C = some (.ref (G.cad C)) ∧ L2.Binds K fd ps [] ∧ ∃ sp, FnS P w K mg base j f fd ps (lift G ps.length sp) ∧
    ∀ xs h Q Xp, Γ.cn C xs h Q Xp → xs.length + 1 = ps.length ∧ ∀ a, h a = none → sp (.ref a :: xs) (h.set a (.obj C [])) (fun v h' => v = .non ∧ ∃ (F : Addr → Bool) (n : Nat), (∀ b, F b = true → h' b ≠ some junk) ∧ Q (fz n h' F (.ref a)) (h'.sub F)) noX
  mt : ∀ C m, Γ.okm C m → ∃ f fd ps, FnS P w K mg base k f fd ps (lift G ps.length (Γ.mt C m)) ∧ arity (Γ.mt C m) ps.length ∧ Cls K (G.cad C) ∧ Meth K (G.cad C) m f ∧ L2.Binds K fd ps []
  fld : ∀ C f, Γ.fld C f → Cls K (G.cad C) ∧ NoAttr K (G.cad C) f
  gl : ∀ x v, Γ.gl x = some v → ∃ u vv, mg x = some u ∧ RelV vv u ∧ RepV G noH noC v vv
  bl : ∀ x, x ∈ bnames → mg x = none
/-- a context that fits -/
structure Gd (G : Cfg) (Γ : Fns) (N : List Str) (sc : Scope) (W : WX) (k : Nat) (X : Cx) : Prop where
  tab : Tab G Γ k X.prog X.w X.K X.mg X.base
  n0 : X.N = N
  nd : N.Nodup
  nm : NmOk sc X.env.scope
  fnl : ∀ x, sc.names.lookup x = some .cell → X.fn x = true
  calm : X.calm = true
  rm : Rm k X.A
  tk : Takes X W
  own : PassesOwn (model X.prog X.w) X.A X.env X.xe

section
variable (G : Cfg) (Γ : Fns) (W : WX)
structure Ok (σ : L2.St) (ρ : Env) (H : Hp) (h : CH) : Prop where
  s : Slots G σ ρ H h
  r : HRep G H h
/-- the end of an expression -/
def Fin (h : CH) (H : Hp) (Q : VP) (Q' : VK) : Prop := ∀ v H' x h', RepV G H' h' x v → HRep G H' h' → Fra h H h' H' → Q x h' → Q' v H'
def FinX (σ : L2.St) (h : CH) (H : Hp) (Xp : XP) : Prop := ∀ C H' h', HRep G H' h' → Fra h H h' H' → Xp C h' → W (.ref (G.cad C)) none σ H'
def rE (m : E) : TE := fun σ H Q' => ∃ ρ h Q Xp, Ok G σ ρ H h ∧ wpE Γ m ρ h Q Xp ∧ Fin G h H Q Q' ∧ FinX G W σ h H Xp
def FinL (h : CH) (H : Hp) (Q : List Val → CH → Prop) (Q' : List V → Hp → Prop) : Prop := ∀ vs H' xs h', RepL G H' h' xs vs → HRep G H' h' → Fra h H h' H' → Q xs h' → Q' vs H'
def rA (m : Es) : TA := fun σ H Q' => ∃ ρ h Q Xp, Ok G σ ρ H h ∧ wpEs Γ m ρ h Q Xp ∧ FinL G h H Q Q' ∧ FinX G W σ h H Xp
/-- as a test -/
def FinB (h : CH) (H : Hp) (Q : Bool → CH → Prop) (Q' : Bool → Hp → Prop) : Prop := ∀ b H' h', HRep G H' h' → Fra h H h' H' → Q b h' → Q' b H'
def rT (m : E) : TT := fun σ H Q' => ∃ ρ h Q Xp, Ok G σ ρ H h ∧ wpE Γ m ρ h (fun x h' => ∃ b, x = .bl b ∧ Q b h') Xp ∧ FinB G h H Q Q' ∧ FinX G W σ h H Xp
end
section
variable {G : Cfg} {Γ : Fns} {W : WX} {X : Cx}
theorem pe_imp {e : Expr} {t t' : TE} (p : PE X e t) (h : ∀ σ H Q, t' σ H Q → t σ H Q) : PE X e t' := ⟨fun pins s σ H Q I q => p.run pins s σ H Q I (h σ H Q q)⟩
theorem pt_imp {e : Expr} {t t' : TT} (p : PT X e t) (h : ∀ σ H Q, t' σ H Q → t σ H Q) : PT X e t' := ⟨fun pins s σ H Q I q => p.run pins s σ H Q I (h σ H Q q)⟩
theorem pa_imp {e : List Expr} {t t' : TA} (p : PA X e t) (h : ∀ σ H Q, t' σ H Q → t σ H Q) : PA X e t' := ⟨fun pos pins s σ H Q I q => p.run pos pins s σ H Q I (h σ H Q q)⟩
theorem ps_imp {e : Stmt} {t t' : TS} (p : PS X e t) (h : ∀ D σ H, t' D σ H → t D σ H) : PS X e t' := ⟨fun pins s σ H Q I q => p.run pins s σ H Q I (h Q σ H q)⟩
theorem pss_imp {e : List Stmt} {t t' : TS} (p : PSs X e t) (h : ∀ D σ H, t' D σ H → t D σ H) : PSs X e t' := ⟨fun pins s σ H Q I q => p.run pins s σ H Q I (h Q σ H q)⟩
theorem pe_ex {e : Expr} {α : Type} {t : α → TE} (p : ∀ a, PE X e (t a)) : PE X e (fun σ H Q => ∃ a, t a σ H Q) := ⟨fun pins s σ H Q I ⟨a, q⟩ => (p a).run pins s σ H Q I q⟩
theorem pe_if {e : Expr} {c : Prop} {t : TE} (p : c → PE X e t) : PE X e (fun σ H Q => c ∧ t σ H Q) := ⟨fun pins s σ H Q I ⟨a, q⟩ => (p a).run pins s σ H Q I q⟩
variable {σ : L2.St} {ρ : Env} {H H' : Hp} {h h' : CH}
theorem Ok.next (o : Ok G σ ρ H h) (f : Fra h H h' H') (r : HRep G H' h') : Ok G σ ρ H' h' := ⟨o.s.mono f.kept, r⟩
theorem FinX.next {Xp : XP} (x : FinX G W σ h H Xp) (f : Fra h H h' H') : FinX G W σ h' H' Xp := fun C H2 h2 r f2 q => x C H2 h2 r (f.trans f2) q
theorem FinX.no : FinX G W σ h H noX := fun _ _ _ _ _ q => q.elim
theorem fin_v {Q : VP} {Q' : VK} {x : Val} {v : V} (k : Fin G h H Q Q') (o : HRep G H h) (r : RepV G H h x v) (q : Q x h) : Q' v H := k v H x h r o Fra.refl q

/-! ### two expressions, one -/
theorem two {ma mb : E} {R : Val → Val → CH → Prop} {R' : V → V → Hp → Prop} {Xp : XP} (o : Ok G σ ρ H h) (w : wpE Γ ma ρ h (fun x h1 => wpE Γ mb ρ h1 (fun y h2 => R x y h2) Xp) Xp) (fx : FinX G W σ h H Xp)
    (k : ∀ x y v u H2 h2, RepV G H2 h2 x v → RepV G H2 h2 y u → HRep G H2 h2 → Fra h H h2 H2 → R x y h2 → R' v u H2) : rE G Γ W ma σ H fun v H1 => rE G Γ W mb σ H1 fun u H2 => R' v u H2 :=
  ⟨ρ, h, _, Xp, o, w, fun v H1 x h1 rx r1 f1 w1 => ⟨ρ, h1, _, Xp, o.next f1 r1, w1, fun u H2 y h2 ry r2 f2 q => k x y v u H2 h2 (RepV.mono f2.kept x v rx) ry r2 (f1.trans f2) q, fx.next f1⟩, fx⟩
theorem one {ma : E} {R : VP} {R' : VK} {Xp : XP} (o : Ok G σ ρ H h) (w : wpE Γ ma ρ h R Xp) (fx : FinX G W σ h H Xp)
    (k : ∀ x v H2 h2, RepV G H2 h2 x v → HRep G H2 h2 → Fra h H h2 H2 → R x h2 → R' v H2) : rE G Γ W ma σ H R' := ⟨ρ, h, R, Xp, o, w, fun v H1 x h1 rx r1 f1 q => k x v H1 h1 rx r1 f1 q, fx⟩
/-- a new tuple, list, nobody's -/
theorem rep_newT {xs : List Val} {vs : List V} {p : Addr} (r : RepL G H h xs vs) (hr : HRep G H h) (n : H p = none) : RepV G (upd H p (.tup vs)) h (.tup xs) (.ref p) :=
  ⟨p, vs, rfl, .inl ⟨upd_same, hr.gone n⟩, RepL.mono (Fra.new n (hr.gone n)).kept xs vs r⟩
theorem rep_newL {xs : List Val} {vs : List V} {p : Addr} (r : RepL G H h xs vs) (hr : HRep G H h) (n : H p = none) : RepV G (upd H p (.lst vs)) h (.lst xs) (.ref p) :=
  ⟨p, vs, rfl, .inl ⟨.inl upd_same, hr.gone n⟩, RepL.mono (Fra.new n (hr.gone n)).kept xs vs r⟩
theorem rep_tup {xs : List Val} {v : V} (r : RepV G H h (.tup xs) v) : ∃ a vs, v = .ref a ∧ SqT G.K H a vs ∧ RepL G H h xs vs := by
  obtain ⟨a, vs, e, q, t⟩ := r
  refine ⟨a, vs, e, ?_, t⟩
  rcases q with q | ⟨q, _⟩
  · exact .inl (.inl q.1)
  · rcases q with q | q
    · rcases q with q | ⟨o, q⟩ <;> cases q
    · exact .inr q
theorem rep_lst {xs : List Val} {v : V} (r : RepV G H h (.lst xs) v) : ∃ a vs, v = .ref a ∧ SqL G.K H a vs ∧ RepL G H h xs vs := by
  obtain ⟨a, vs, e, q, t⟩ := r
  refine ⟨a, vs, e, ?_, t⟩
  rcases q with q | q
  · exact .inl q.1
  · rcases q with q | q
    · rcases q with q | ⟨o, q⟩ <;> cases q
    · exact .inr q
/-- a list that is read: frozen or ours -/
theorem rep_rdL {x : Val} {xs : List Val} {v : V} (r : RepV G H h x v) (hr : HRep G H h) (e : rdL h x = some xs) : ∃ a vs, v = .ref a ∧ SqL G.K H a vs ∧ RepL G H h xs vs := by
  cases x with
  | lst ys =>
    obtain rfl : ys = xs := Option.some.inj e
    exact rep_lst r
  | ref a =>
    unfold rdL at e; dsimp only at e
    split at e
    · rename_i ys q
      obtain rfl : ys = xs := Option.some.inj e
      obtain ⟨vs, e1, t⟩ := hr a _ q
      exact ⟨a, vs, r, SqL.of e1, t⟩
    · cases e
  | _ => cases e
theorem rep_rdD {x : Val} {kvs : List (Key × Val)} {v : V} (r : RepV G H h x v) (hr : HRep G H h) (e : rdD h x = some kvs) : ∃ a vs, v = .ref a ∧ Rd H a (.dK vs) ∧ RepK G H h kvs vs := by
  cases x with
  | dct ys =>
    obtain rfl : ys = kvs := Option.some.inj e
    obtain ⟨a, vs, e1, q, t⟩ := r
    exact ⟨a, vs, e1, q.1, t⟩
  | ref a =>
    unfold rdD at e; dsimp only at e
    split at e
    · rename_i ys q
      obtain rfl : ys = kvs := Option.some.inj e
      obtain ⟨vs, e1, t⟩ := hr a _ q
      exact ⟨a, vs, r, Rd.of e1, t⟩
    · cases e
  | _ => cases e
theorem rep_rdP {x : Val} {kvs : List (List Key × Val)} {v : V} (r : RepV G H h x v) (hr : HRep G H h) (e : rdP h x = some kvs) : ∃ a vs, v = .ref a ∧ Rd H a (.dT vs) ∧ RepP G H h kvs vs := by
  cases x with
  | dtt ys =>
    obtain rfl : ys = kvs := Option.some.inj e
    obtain ⟨a, vs, e1, q, t⟩ := r
    exact ⟨a, vs, e1, q.1, t⟩
  | ref a =>
    unfold rdP at e; dsimp only at e
    split at e
    · rename_i ys q
      obtain rfl : ys = kvs := Option.some.inj e
      obtain ⟨vs, e1, t⟩ := hr a _ q
      exact ⟨a, vs, r, Rd.of e1, t⟩
    · cases e
  | _ => cases e
theorem rep_rdO {x : Val} {C : Str} {fs : List (Str × Val)} {v : V} (r : RepV G H h x v) (hr : HRep G H h) (e : rdO h x = some (C, fs)) : ∃ a dx vs, v = .ref a ∧ H a = some (.ins (G.cad C) dx vs) ∧ RepF G H h fs vs := by
  cases x with
  | obj D gs =>
    have e1 : (D, gs) = (C, fs) := Option.some.inj e
    cases e1
    obtain ⟨a, dx, vs, e1, q, t⟩ := r
    exact ⟨a, dx, vs, e1, q.1, t⟩
  | ref a =>
    unfold rdO at e; dsimp only at e
    split at e
    · rename_i D gs q
      have e1 : (D, gs) = (C, fs) := Option.some.inj e
      cases e1
      obtain ⟨dx, vs, e1, t⟩ := hr a _ q
      exact ⟨a, dx, vs, r, e1, t⟩
    · cases e
  | _ => cases e
theorem rep_key {x : Val} {k : Key} {v : V} (r : RepV G H h x v) (e : keyOf x = some k) : v = kV k := by
  cases x with
  | int i => cases e; exact r
  | str i => cases e; exact r
  | _ => cases e
theorem rep_keys : ∀ {xs : List Val} {ks : List Key} {vs : List V}, RepL G H h xs vs → keysOf xs = some ks → vs = ks.map kV
  | [], ks, vs, r, e => by
    cases e
    exact r
  | x :: xs, ks, vs, ⟨v, t, e1, q, s⟩, e => by
    unfold keysOf at e
    split at e
    · rename_i k ks' h1 h2
      cases e
      rw [e1, rep_key q h1, rep_keys s h2]
      rfl
    · cases e
/-- a tuple as a key -/
theorem rep_pkey {x : Val} {k : List Key} {v : V} (r : RepV G H h x v) (e : pkeyOf x = some k) : ∃ b, v = .ref b ∧ H b = some (.tup (k.map kV)) := by
  unfold pkeyOf at e
  split at e
  · rename_i i xs
    obtain ⟨a, vs, e1, q, t⟩ := r
    have e2 := rep_keys t e
    subst e2
    rcases q with q | ⟨_, q⟩
    · exact ⟨a, e1, q.1⟩
    · cases q
  · cases e
/-- data -/
theorem rep_dp : (∀ (x : Val) (d : PyData) (v : V), RepV G H h x v → x.toD = some d → Dp G.K H v d) ∧ True := by
  suffices h1 : ∀ n : Nat, (∀ (x : Val), sizeOf x < n → ∀ (d : PyData) (v : V), RepV G H h x v → x.toD = some d → Dp G.K H v d) ∧ ∀ (xs : List Val), sizeOf xs < n → ∀ (ds : List PyData) (vs : List V), RepL G H h xs vs → Val.toDs xs = some ds → DpAll G.K H vs ds by
    exact ⟨fun x d v r e => (h1 (sizeOf x + 1)).1 x (Nat.lt_succ_self _) d v r e, trivial⟩
  intro n
  induction n with
  | zero => exact ⟨fun x hx => absurd hx (Nat.not_lt_zero _), fun x hx => absurd hx (Nat.not_lt_zero _)⟩
  | succ n ih =>
    refine ⟨fun x hx d v r e => ?_, fun xs hx ds vs r e => ?_⟩
    · cases x with
      | non => cases e; cases r; exact .non
      | bl b => cases e; cases r; exact .bl b
      | int i => cases e; cases r; exact .int i
      | str x => cases e; cases r; exact .str x
      | tup xs =>
        unfold Val.toD at e
        split at e
        · rename_i ds q
          cases e
          obtain ⟨a, vs, e1, q1, t⟩ := rep_tup r
          rw [e1]
          exact .tup q1 (ih.2 xs (by simp at hx ⊢; omega) ds vs t q)
        · cases e
      | lst xs =>
        unfold Val.toD at e
        split at e
        · rename_i ds q
          cases e
          obtain ⟨a, vs, e1, q1, t⟩ := rep_lst r
          rw [e1]
          exact .lst q1 (ih.2 xs (by simp at hx ⊢; omega) ds vs t q)
        · cases e
      | _ => cases e
    · cases xs with
      | nil => cases e; rw [show vs = [] from r]; exact .nil
      | cons y ys =>
        obtain ⟨v, t, e1, q, s⟩ := r
        unfold Val.toDs at e
        split at e
        · rename_i d ds' h1 h2
          cases e
          rw [e1]
          exact .cons (ih.1 y (by simp at hx; omega) d v q h1) (ih.2 ys (by simp at hx; omega) ds' t s h2)
        · cases e
theorem rep_dat {x : Val} {d : PyData} {v : V} (r : RepV G H h x v) (hr : HRep G H h) (e : datH h x = some d) : Dp G.K H v d := by
  cases x with
  | ref a =>
    unfold datH at e
    dsimp only at e
    split at e
    · rename_i xs q
      obtain ⟨vs, e1, t⟩ := hr a _ q
      unfold Val.toD at e
      split at e
      · rename_i ds q2
        cases e
        cases r
        refine .lst (SqL.of e1) ?_
        have h1 : ∀ (xs : List Val) (ds : List PyData) (vs : List V), RepL G H h xs vs → Val.toDs xs = some ds → DpAll G.K H vs ds := by
          intro xs
          induction xs with
          | nil => intro ds vs r e; cases e; rw [show vs = [] from r]; exact .nil
          | cons y ys ih =>
            intro ds vs r e
            obtain ⟨v, t, e1, q, s⟩ := r
            unfold Val.toDs at e
            split at e
            · rename_i d ds' h1 h2
              cases e
              rw [e1]
              exact .cons (rep_dp.1 y d v q h1) (ih ds' t s h2)
            · cases e
        exact h1 xs ds vs t q2
      · cases e
    · cases e
  | _ => exact rep_dp.1 _ d v r e
end
end Vc
/-! Vcf: objects given up. -/
namespace Vc
open PySem L2 PyProof.Rows
section
variable {G : Cfg}
/-! ### giving up -/
section
variable {h h' : CH} {H : Hp} {F : Addr → Bool}
mutual
theorem mapR_rep {r : Addr → Val} (k : Kept h H h' H) (hr : ∀ a, RepV G H h' (r a) (.ref a)) : ∀ (x : Val) (v : V), RepV G H h x v → RepV G H h' (mapR r x) v
  | .non, _, q => q
  | .bl _, _, q => q
  | .int _, _, q => q
  | .str _, _, q => q
  | .tup xs, _, ⟨a, vs, e, q, t⟩ => ⟨a, vs, e, q.imp (fun z => k.t a _ z.2 z.1) (fun z => ⟨z.1, mapR_head z.2⟩), mapRs_rep k hr xs vs t⟩
  | .lst xs, _, ⟨a, vs, e, q, t⟩ => ⟨a, vs, e, q.imp (fun z => k.c a _ trivial z.2 z.1) id, mapRs_rep k hr xs vs t⟩
  | .dct xs, _, ⟨a, vs, e, q, t⟩ => ⟨a, vs, e, k.c a _ trivial q.2 q.1, mapRk_rep k hr xs vs t⟩
  | .dtt xs, _, ⟨a, vs, e, q, t⟩ => ⟨a, vs, e, k.c a _ trivial q.2 q.1, mapRp_rep k hr xs vs t⟩
  | .obj C xs, _, ⟨a, dx, vs, e, q, t⟩ => ⟨a, dx, vs, e, k.i a _ _ _ q.2 q.1, mapRf_rep k hr xs vs t⟩
  | .ref a, v, q => by
    rw [show v = .ref a from q]
    exact hr a
  | .fn _, _, q => q
  | .kd _, _, q => q
theorem mapRs_rep {r : Addr → Val} (k : Kept h H h' H) (hr : ∀ a, RepV G H h' (r a) (.ref a)) : ∀ (x : List Val) (v : List V), RepL G H h x v → RepL G H h' (mapRs r x) v
  | [], _, q => q
  | x :: xs, _, ⟨v, t, e, q, s⟩ => ⟨v, t, e, mapR_rep k hr x v q, mapRs_rep k hr xs t s⟩
theorem mapRk_rep {r : Addr → Val} (k : Kept h H h' H) (hr : ∀ a, RepV G H h' (r a) (.ref a)) : ∀ (x : List (Key × Val)) (v : List (Key × V)), RepK G H h x v → RepK G H h' (mapRk r x) v
  | [], _, q => q
  | (y, x) :: xs, _, ⟨v, t, e, q, s⟩ => ⟨v, t, e, mapR_rep k hr x v q, mapRk_rep k hr xs t s⟩
theorem mapRp_rep {r : Addr → Val} (k : Kept h H h' H) (hr : ∀ a, RepV G H h' (r a) (.ref a)) : ∀ (x : List (List Key × Val)) (v : List (List Key × V)), RepP G H h x v → RepP G H h' (mapRp r x) v
  | [], _, q => q
  | (y, x) :: xs, _, ⟨v, t, e, q, s⟩ => ⟨v, t, e, mapR_rep k hr x v q, mapRp_rep k hr xs t s⟩
theorem mapRf_rep {r : Addr → Val} (k : Kept h H h' H) (hr : ∀ a, RepV G H h' (r a) (.ref a)) : ∀ (x : List (Str × Val)) (v : List (Str × V)), RepF G H h x v → RepF G H h' (mapRf r x) v
  | [], _, q => q
  | (y, x) :: xs, _, ⟨v, t, e, q, s⟩ => ⟨v, t, e, mapR_rep k hr x v q, mapRf_rep k hr xs t s⟩
theorem mapR_head {r : Addr → Val} : ∀ {xs : List Val}, headS xs = true → headS (mapRs r xs) = true
  | .str _ :: xs, _ => rfl
end
theorem sub_some {a : Addr} {x : Val} (e : h.sub F a = some x) : h a = some x := by
  unfold CH.sub at e
  split at e
  · cases e
  · exact e
theorem sub_in {a : Addr} (e : F a = true) : h.sub F a = none := by
  unfold CH.sub
  rw [if_pos e]
theorem fz_rep (hr : HRep G H h) : ∀ (n : Nat) (x : Val) (v : V), RepV G H h x v → RepV G H (h.sub F) (fz n h F x) v
  | 0, x, v, q => RepV.mono (kept_less fun a x => sub_some) x v q
  | n + 1, x, v, q => by
    have ih := fz_rep hr n
    refine mapR_rep (kept_less fun a x => sub_some) (fun a => ?_) x v q
    split
    · rename_i ha
      have hs : h.sub F a = none := sub_in ha
      split
      · rename_i xs e
        obtain ⟨vs, e1, t⟩ := hr a _ e
        refine ⟨a, vs, rfl, .inl ⟨.inl e1, hs⟩, ?_⟩
        clear e e1 q
        induction xs generalizing vs with
        | nil => exact t
        | cons y ys ihl =>
          obtain ⟨u, t2, e2, q2, s2⟩ := t
          exact ⟨u, t2, e2, ih y u q2, ihl t2 s2⟩
      · rename_i xs e
        obtain ⟨vs, e1, t⟩ := hr a _ e
        refine ⟨a, vs, rfl, ⟨.inl e1, hs⟩, ?_⟩
        clear e e1 q
        induction xs generalizing vs with
        | nil => exact t
        | cons y ys ihl =>
          obtain ⟨kk, y⟩ := y
          obtain ⟨u, t2, e2, q2, s2⟩ := t
          exact ⟨u, t2, e2, ih y u q2, ihl t2 s2⟩
      · rename_i xs e
        obtain ⟨vs, e1, t⟩ := hr a _ e
        refine ⟨a, vs, rfl, ⟨.inl e1, hs⟩, ?_⟩
        clear e e1 q
        induction xs generalizing vs with
        | nil => exact t
        | cons y ys ihl =>
          obtain ⟨kk, y⟩ := y
          obtain ⟨u, t2, e2, q2, s2⟩ := t
          exact ⟨u, t2, e2, ih y u q2, ihl t2 s2⟩
      · rename_i C xs e
        obtain ⟨dx, vs, e1, t⟩ := hr a _ e
        refine ⟨a, dx, vs, rfl, ⟨e1, hs⟩, ?_⟩
        clear e e1 q
        induction xs generalizing vs with
        | nil => exact t
        | cons y ys ihl =>
          obtain ⟨kk, y⟩ := y
          obtain ⟨u, t2, e2, q2, s2⟩ := t
          exact ⟨u, t2, e2, ih y u q2, ihl t2 s2⟩
      · rfl
    · rfl
theorem fra_sub (nj : ∀ a, F a = true → h a ≠ some junk) : Fra h H (h.sub F) H :=
  Fra.less (fun a x e => sub_some e) fun a e => by
    unfold CH.sub
    rw [if_neg (fun z => nj a z e)]
    exact e
end
end
end Vc
/-! Vc4: operations on values are what the machine does. -/
namespace Vc
open PySem L2 PyProof.Rows
section
variable {G : Cfg} {X : Cx} {W : WX} {k : Nat}
/-- list + list -/
theorem op_catL : OpR X (binaryOp .Add) (fun x y H Q => ∃ a b xs ys, x = .ref a ∧ y = .ref b ∧ SqL X.K H a xs ∧ SqL X.K H b ys ∧ xs.length + ys.length ≤ sizeLine ∧ ∀ p, H p = none → Q (.ref p) (upd H p (.lst (xs ++ ys)))) := by
  intro pins s σ H x y v u Q I rx ry hh
  obtain ⟨a, b, xs, ys, rfl, rfl, ha, hb, hz, q⟩ := hh
  cases rx
  cases ry
  obtain ⟨its, r1, p1, _⟩ := I.list ha
  obtain ⟨its2, r2, p2, _⟩ := I.list hb
  have l1 := r1.length
  have l2 := r2.length
  obtain ⟨⟨c1, d1, t1, s1⟩, n1, g1, e1, _, f1⟩ := p1
  obtain ⟨⟨c2, d2, t2, s2⟩, n2, g2, e2, _, f2⟩ := p2
  dsimp only at e1 f1 e2 f2
  subst e1 f1 e2 f2
  have ea : its.toArray ++ its2.toArray = (its ++ its2).toArray :=
        by simp
  refine concat_meets ⟨_, g1, rfl⟩ ⟨_, g2, rfl⟩ noFill_list_add seq_list_add PySem.F.slot_list_add PySem.F.entry_list_add (PySem.F.args_list_add_2 _ _)
    (list_addW a b its.toArray its2.toArray n1 n2 d1 d2 s1 s2 (by rw [List.size_toArray, List.size_toArray]; omega)) ⟨g1, g2, ?_⟩
  rw [ea]
  exact ⟨.ref _, _, I.lnew (t' := s.toks) (r1.append r2) (by rw [List.length_append]; omega), rfl, q _ I.fresh⟩

/-- how an operation of two values is read -/
def RO (G : Cfg) (op : Val → Val → CH → VP → Prop) : R2 := fun v u H Q' => ∃ x y h Q, RepV G H h x v ∧ RepV G H h y u ∧ HRep G H h ∧ op x y h Q ∧ Fin G h H Q Q'
theorem OpR.imp {f : Value → Value → Sem Value} {r r' : R2} (o : OpR X f r) (h : ∀ x y H Q, r' x y H Q → r x y H Q) : OpR X f r' := fun pins s σ H x y v u Q I rx ry q => o pins s σ H x y v u Q I rx ry (h x y H Q q)
theorem fin0 {H : Hp} {h : CH} {Q : VP} {Q' : VK} {x : Val} {v : V} (k : Fin G h H Q Q') (o : HRep G H h) (r : RepV G H h x v) (q : Q x h) : Q' v H := k v H x h r o Fra.refl q
theorem finL {H : Hp} {h : CH} {Q : VP} {Q' : VK} {xs : List Val} {vs : List V} (k : Fin G h H Q Q') (o : HRep G H h) (r : RepL G H h xs vs) (q : Q (.lst xs) h) : ∀ p, H p = none → Q' (.ref p) (upd H p (.lst vs)) :=
  fun p n => k _ _ _ h (rep_newL r o n) (o.new n) (Fra.new n (o.gone n)) q
theorem finT {H : Hp} {h : CH} {Q : VP} {Q' : VK} {xs : List Val} {vs : List V} (k : Fin G h H Q Q') (o : HRep G H h) (r : RepL G H h xs vs) (q : Q (.tup xs) h) : ∀ p, H p = none → Q' (.ref p) (upd H p (.tup vs)) :=
  fun p n => k _ _ _ h (rep_newT r o n) (o.new n) (Fra.new n (o.gone n)) q
theorem repL_nil {H : Hp} {h : CH} {xs : List Val} (r : RepL G H h xs []) : xs = [] := by
  cases xs with
  | nil => rfl
  | cons x xs => obtain ⟨_, _, e, _⟩ := r; cases e
theorem add_sound (kk : X.K = G.K) : OpR X (binaryOp .Add) (RO G (opV .Add)) := by
  intro pins s σ H v u vv uu Q' I rv ru hh
  obtain ⟨x, y, h, Q, rx, ry, hr, w, fn⟩ := hh
  have lists : ∀ (x y : Val), RepV G H h x v → RepV G H h y u → (∃ a b, rdL h x = some a ∧ rdL h y = some b ∧ a.length + b.length ≤ sizeLine ∧ Q (.lst (a ++ b)) h) → wpAny (model X.prog X.w) X.A (binaryOp .Add vv uu) (EP X pins σ Q') X.xe s := by
    rintro x y rx ry ⟨a, b, e1, e2, hz, q⟩
    obtain ⟨p1, vs1, z1, s1, t1⟩ := rep_rdL rx hr e1
    obtain ⟨p2, vs2, z2, s2, t2⟩ := rep_rdL ry hr e2
    exact op_catL pins s σ H v u vv uu Q' I rv ru ⟨p1, p2, vs1, vs2, z1, z2, by rw [kk]; exact s1, by rw [kk]; exact s2, by rw [← t1.length, ← t2.length]; exact hz, finL fn hr (t1.append t2) q⟩
  cases x with
  | int i => cases y with
    | int j => exact op_add pins s σ H v u vv uu Q' I rv ru ⟨i, j, rx, ry, fin0 fn hr (x := .int (i + j)) rfl w⟩
    | _ => exact lists _ _ rx ry w
  | str i => cases y with
    | str j => exact op_add_str pins s σ H v u vv uu Q' I rv ru ⟨i, j, rx, ry, w.1, fin0 fn hr (x := .str (i ++ j)) rfl w.2⟩
    | _ => exact lists _ _ rx ry w
  | tup a => cases y with
    | tup b =>
      obtain ⟨p1, vs1, z1, s1, t1⟩ := rep_tup rx
      obtain ⟨p2, vs2, z2, s2, t2⟩ := rep_tup ry
      refine op_catA pins s σ H v u vv uu Q' I rv ru ⟨p1, p2, vs1, vs2, z1, z2, by rw [kk]; exact s1, by rw [kk]; exact s2, by rw [← t1.length, ← t2.length]; exact w.1, fun e => ?_, fun _ e => ?_, fun _ _ => finT fn hr (t1.append t2) w.2⟩
      · subst e
        have ea := repL_nil t1
        subst ea
        rw [← z2]
        exact fin0 fn hr (x := .tup b) ry w.2
      · subst e
        have eb := repL_nil t2
        subst eb
        rw [← z1]
        refine fin0 fn hr (x := .tup a) rx ?_
        have q := w.2
        rw [List.append_nil] at q
        exact q
    | _ => exact lists _ _ rx ry w
  | _ => exact lists _ _ rx ry w
/-- two ints -/
theorem int_sound {op : Operator} {C : Int → Int → Prop} {g : Int → Int → Int} (o : OpR X (binaryOp op) (rI C fun i j => .int (g i j)))
    (e : ∀ x y h Q, opV op x y h Q → ∃ i j, x = .int i ∧ y = .int j ∧ C i j ∧ Q (.int (g i j)) h) : OpR X (binaryOp op) (RO G (opV op)) := OpR.imp o fun v u H Q' ⟨x, y, h, Q, rx, ry, hr, w, fn⟩ => by
  obtain ⟨i, j, rfl, rfl, c, q⟩ := e x y h Q w
  exact ⟨i, j, rx, ry, c, fin0 fn hr (x := .int (g i j)) rfl q⟩
theorem int_sound0 {op : Operator} {g : Int → Int → Int} (o : OpR X (binaryOp op) (rI0 fun i j => .int (g i j)))
    (e : ∀ x y h Q, opV op x y h Q → ∃ i j, x = .int i ∧ y = .int j ∧ Q (.int (g i j)) h) : OpR X (binaryOp op) (RO G (opV op)) := OpR.imp o fun v u H Q' ⟨x, y, h, Q, rx, ry, hr, w, fn⟩ => by
  obtain ⟨i, j, rfl, rfl, q⟩ := e x y h Q w
  exact ⟨i, j, rx, ry, fin0 fn hr (x := .int (g i j)) rfl q⟩
theorem op_sound (kk : X.K = G.K) (op : Operator) : OpR X (binaryOp op) (RO G (opV op)) := by
  cases op with
  | Add => exact add_sound kk
  | Sub => exact int_sound0 op_sub fun x y h Q w => by cases x <;> cases y <;> first | exact ⟨_, _, rfl, rfl, w⟩ | exact w.elim
  | Mult => exact int_sound op_mul fun x y h Q w => by cases x <;> cases y <;> first | exact ⟨_, _, rfl, rfl, w⟩ | exact w.elim
  | FloorDiv => exact int_sound op_fdiv fun x y h Q w => by cases x <;> cases y <;> first | exact ⟨_, _, rfl, rfl, w⟩ | exact w.elim
  | Mod => exact int_sound op_mod fun x y h Q w => by cases x <;> cases y <;> first | exact ⟨_, _, rfl, rfl, w⟩ | exact w.elim
  | LShift => exact int_sound op_shl fun x y h Q w => by cases x <;> cases y <;> first | exact ⟨_, _, rfl, rfl, w⟩ | exact w.elim
  | RShift => exact int_sound op_shr fun x y h Q w => by cases x <;> cases y <;> first | exact ⟨_, _, rfl, rfl, w⟩ | exact w.elim
  | BitAnd => exact int_sound0 op_and fun x y h Q w => by cases x <;> cases y <;> first | exact ⟨_, _, rfl, rfl, w⟩ | exact w.elim
  | BitOr => exact int_sound0 op_or fun x y h Q w => by cases x <;> cases y <;> first | exact ⟨_, _, rfl, rfl, w⟩ | exact w.elim
  | _ =>
    intro pins s σ H v u vv uu Q' I rv ru hh
    obtain ⟨x, y, h, Q, rx, ry, hr, w, fn⟩ := hh
    cases x <;> cases y <;> exact w.elim
end
end Vc
/-! Vc5: comparisons, subscripts, built-in functions on values. -/
namespace Vc
open PySem L2 PyProof.Rows
section
variable {G : Cfg} {X : Cx} {W : WX} {k : Nat}
theorem dp_all {d : PyData} {H : Hp} {v : V} {ds : List PyData} {K : PySem.W.Frag} : True := trivial
theorem op_inT (hu : X.A.units + 65 < cLine) : OpR X (compareOp .In) (fun x y H Q => ∃ d ds, Dp X.K H x d ∧ Dp X.K H y (.tuple ds) ∧ SeqAt.shaped d = true ∧ SeqAt.shaped (.tuple ds) = true ∧ Q (.bl (ds.any fun z => PyData.eqv z d)) H) := by
  intro pins s σ H x y v u Q I rx ry hh
  obtain ⟨d, ds, hd, he, sd, se, q⟩ := hh
  obtain ⟨as, r1⟩ :=
        Dp.reads I d x v hd rx
  obtain ⟨bs, r2⟩ := Dp.reads I (.tuple ds) y u he ry
  exact SeqAt.in_tuple_reads r2 r1 (SeqAt.canLay_of_shaped se) (SeqAt.canLay_of_shaped sd) (room_in_shaped sd hu) ⟨.bl _, H, I, rfl, q⟩
theorem op_notInT (hu : X.A.units + 65 < cLine) : OpR X (compareOp .NotIn) (fun x y H Q => ∃ d ds, Dp X.K H x d ∧ Dp X.K H y (.tuple ds) ∧ SeqAt.shaped d = true ∧ SeqAt.shaped (.tuple ds) = true ∧ Q (.bl (!ds.any fun z => PyData.eqv z d)) H) := by
  intro pins s σ H x y v u Q I rx ry hh
  obtain ⟨d, ds, hd, he, sd, se, q⟩ := hh
  obtain ⟨as, r1⟩ :=
        Dp.reads I d x v hd rx
  obtain ⟨bs, r2⟩ := Dp.reads I (.tuple ds) y u he ry
  exact SeqAt.notIn_tuple_reads r2 r1 (SeqAt.canLay_of_shaped se) (SeqAt.canLay_of_shaped sd) (room_in_shaped sd hu) ⟨.bl _, H, I, rfl, q⟩
theorem dget_k {H : Hp} {h : CH} {x : Val} {k : Key} {v : V} {a : Addr} {kvs : List (Key × Val)} {vs : List (Key × V)} (rk : RepV G H h x v) (e : keyOf x = some k) (rd : Rd H a (.dK vs)) : DGet H a v (valV vs k) :=
  .inl ⟨vs, k, rd, rep_key rk e, rfl⟩
theorem vget_isSome_k {H : Hp} {h : CH} {k : Key} {kvs : List (Key × Val)} {vs : List (Key × V)} (r : RepK G H h kvs vs) : (valV vs k).isSome = (vget kvs k).isSome := by
  obtain ⟨h1, h2⟩ := r.get (k := k)
  cases e : vget kvs k with
  | none => rw [h2 e]; rfl
  | some x => obtain ⟨v, e1, _⟩ := h1 x e; rw [e1]; rfl
theorem vget_isSome_p {H : Hp} {h : CH} {k : List Key} {kvs : List (List Key × Val)} {vs : List (List Key × V)} (r : RepP G H h kvs vs) : (valV vs k).isSome = (vget kvs k).isSome := by
  obtain ⟨h1, h2⟩ := r.get (k := k)
  cases e : vget kvs k with
  | none => rw [h2 e]; rfl
  | some x => obtain ⟨v, e1, _⟩ := h1 x e; rw [e1]; rfl
/-- the key's place in a dict that is read -/
theorem dget_of {H : Hp} {h : CH} {x y : Val} {v u : V} (ry : RepV G H h y u) (rx : RepV G H h x v) (hr : HRep G H h) {P : Option Val → Prop}
    (w : (∃ k kvs, keyOf x = some k ∧ rdD h y = some kvs ∧ P (vget kvs k)) ∨ ∃ k kvs, pkeyOf x = some k ∧ rdP h y = some kvs ∧ P (vget kvs k)) :
    ∃ a ov oz, u = .ref a ∧ DGet H a v ov ∧ P oz ∧ (oz = none → ov = none) ∧ ∀ z, oz = some z → ∃ zv, ov = some zv ∧ RepV G H h z zv := by
  rcases w with ⟨k, kvs, ek, ed, p⟩ | ⟨k, kvs, ek, ed, p⟩
  · obtain ⟨a, vs, eu, rd, rk⟩ := rep_rdD ry hr ed
    obtain ⟨h1, h2⟩ := rk.get (k := k)
    exact ⟨a, _, _, eu, .inl ⟨vs, k, rd, rep_key rx ek, rfl⟩, p, h2, h1⟩
  · obtain ⟨a, vs, eu, rd, rk⟩ := rep_rdP ry hr ed
    obtain ⟨b, eb, hb⟩ := rep_pkey rx ek
    obtain ⟨h1, h2⟩ := rk.get (k := k)
    exact ⟨a, _, _, eu, .inr ⟨vs, k, b, rd, eb, hb, rfl⟩, p, h2, h1⟩
theorem in_sound (kk : X.K = G.K) (rm : Rm k X.A) (neg : Bool) : OpR X (compareOp (if neg then .NotIn else .In)) (RO G fun x y h Q => inP x y h fun b => Q (.bl (if neg then !b else b)) h) := by
  intro pins s σ H v u vv uu Q' I rv ru hh
  obtain ⟨x, y, h, Q, rx, ry, hr, w, fn⟩ := hh
  replace w := w.out
  have hu : X.A.units + 65 < cLine := by have := rm.u; omega
  have hu1 : X.A.units + 1 < cLine := by have := rm.u; omega
  have fb : ∀ b : Bool, Q (.bl b) h → Q' (.bl b) H := fun b q => fin0 fn hr (x := .bl b) rfl q
  have gen : ((∃ d, x.toD = some d ∧ SeqAt.shaped d = true ∧ ∃ ds, (datH h y = some (.list ds) ∧ SeqAt.shaped (.list ds) = true ∨ datH h y = some (.tuple ds) ∧ SeqAt.shaped (.tuple ds) = true) ∧ Q (.bl (if neg then !(ds.any fun z => PyData.eqv z d) else (ds.any fun z => PyData.eqv z d))) h) ∨
    (∃ k kvs, keyOf x = some k ∧ rdD h y = some kvs ∧ Q (.bl (if neg then !(vget kvs k).isSome else (vget kvs k).isSome)) h) ∨ ∃ k kvs, pkeyOf x = some k ∧ rdP h y = some kvs ∧ Q (.bl (if neg then !(vget kvs k).isSome else (vget kvs k).isSome)) h) →
      wpAny (model X.prog X.w) X.A (compareOp (if neg then .NotIn else .In) vv uu) (EP X pins σ Q') X.xe s := by
    rintro (⟨d, ed, sd, ds, c, q⟩ | w)
    · have dx : Dp X.K H v d := by rw [kk]; exact rep_dp.1 x d v rx ed
      rcases c with ⟨e, se⟩ | ⟨e, se⟩
      · have dy : Dp X.K H u (.list ds) := by rw [kk]; exact rep_dat ry hr e
        cases neg with
        | true => exact op_notInD hu pins s σ H v u vv uu Q' I rv ru ⟨d, ds, dx, dy, sd, se, fb _ q⟩
        | false => exact op_inD hu pins s σ H v u vv uu Q' I rv ru ⟨d, ds, dx, dy, sd, se, fb _ q⟩
      · have dy : Dp X.K H u (.tuple ds) := by rw [kk]; exact rep_dat ry hr e
        cases neg with
        | true => exact op_notInT hu pins s σ H v u vv uu Q' I rv ru ⟨d, ds, dx, dy, sd, se, fb _ q⟩
        | false => exact op_inT hu pins s σ H v u vv uu Q' I rv ru ⟨d, ds, dx, dy, sd, se, fb _ q⟩
    · obtain ⟨a, ov, oz, eu, g, q, z0, z1⟩ := dget_of (P := fun o => Q (.bl (if neg then !o.isSome else o.isSome)) h) ry rx hr w
      have e1 : oz.isSome = ov.isSome := by
        cases oz with
        | none => rw [z0 rfl] <;> rfl
        | some z => obtain ⟨zv, e, _⟩ := z1 z rfl; rw [e]; rfl
      subst eu
      cases ru
      cases neg with
      | true => exact d_notIn hu1 I g rv fun s3 I3 => ⟨.bl (!ov.isSome), H, I3, rfl, by rw [← e1]; exact fb _ q⟩
      | false => exact d_in hu1 I g rv fun s3 I3 => ⟨.bl ov.isSome, H, I3, rfl, by rw [← e1]; exact fb _ q⟩
  cases y with
  | str b =>
    obtain ⟨a, rfl, q⟩ := w
    cases neg with
    | true => exact op_notin_str pins s σ H v u vv uu Q' I rv ru ⟨a, b, rx, ry, fb _ q⟩
    | false => exact op_in_str pins s σ H v u vv uu Q' I rv ru ⟨a, b, rx, ry, fb _ q⟩
  | kd _ => exact w.elim
  | _ => exact gen w
theorem vget_val {H : Hp} {h : CH} {ls : List (Key × Val)} {vs : List (Key × V)} {k : Key} {u : Val} (r : RepK G H h ls vs) (e : vget ls k = some u) : ∃ v, valV vs k = some v ∧ RepV G H h u v := r.get.1 u e
theorem hits_data {pins : List (Addr × Obj)} {σ : L2.St} {H : Hp} {h : CH} {s : Shared} (I : Inv X pins σ H s) (kk : X.K = G.K) {A : Around} (hu : A.units + 64 < cLine) {ls : List (Key × Val)} {wl : List (Key × V)} {ul : List (Key × Value)} (rl : RepK G H h ls wl) (kl : KV wl ul) :
    ∀ {ks : List (Key × Val)} {wk : List (Key × V)} {uk : List (Key × Value)}, RepK G H h ks wk → KV wk uk →
      (∀ p ∈ ks, ∃ u d e, vget ls p.1 = some u ∧ p.2.toD = some d ∧ u.toD = some e ∧ SeqAt.shaped d = true ∧ SeqAt.shaped e = true ∧ PyData.eqv d e = true) → PySem.W.KeqHits A s ul uk true
  | [], wk, uk, rk, ku, _ => by
    rw [show wk = [] from rk] at ku
    cases ku
    exact .nil
  | (k, x) :: ks, wk, uk, ⟨v, t, ew, rx, rt⟩, ku, hp => by
    subst ew
    cases ku with
    | cons hq hr =>
      rename_i q uk'
      obtain ⟨k', u'⟩ := q
      obtain ⟨ek, ru⟩ := hq
      cases (show k = k' from ek)
      obtain ⟨y, d, e, g1, d1, d2, s1, s2, ee⟩ := hp (k, x) List.mem_cons_self
      obtain ⟨w, hw, rw'⟩ := vget_val rl g1
      have ro : RelO (some w) (valueAt ul k) := by rw [← hw]; exact kl.val k
      obtain ⟨z, hz, rz⟩ := ro.some_of
      obtain ⟨as, r1⟩ := Dp.reads I d v u' (by rw [kk]; exact rep_dp.1 _ _ _ rx d1) ru
      obtain ⟨bs, r2⟩ := Dp.reads I e w z (by rw [kk]; exact rep_dp.1 _ _ _ rw' d2) rz
      have q1 := SeqAt.eqAt_reads d e A s u' z as bs r1 r2 (SeqAt.canLay_of_shaped s1) (SeqAt.canLay_of_shaped s2) (SeqAt.room_of_shaped s1 hu)
      rw [ee] at q1
      exact .hit hz q1 (hits_data I kk hu rl kl rt hr fun p hm => hp p (List.mem_cons_of_mem _ hm))
theorem eqw_sound (kk : X.K = G.K) (rm : Rm k X.A) {neg : Bool} : OpR X (compareOp (if neg then .NotEq else .Eq)) (RO G fun x y h Q => eqW x y h fun b => Q (.bl (if neg then !b else b)) h) := by
  have hu : X.A.units + 64 < cLine := by have := rm.u; omega
  have hu2 : X.A.in1.units + 64 < cLine := by have := rm.un; show X.A.units + 1 + 64 < cLine; omega
  intro pins s σ H v u vv uu Q' I rv ru ⟨x, y, h, Q, rx, ry, hr, ⟨w⟩, fn⟩
  have gen : eqP x y h (fun b => Q (.bl (if neg then !b else b)) h) → wpAny (model X.prog X.w) X.A (compareOp (if neg then .NotEq else .Eq) vv uu) (EP X pins σ Q') X.xe s := fun ⟨d, e, e1, e2, s1, s2, q⟩ => by
    have d1 := rep_dat rx hr e1
    have d2 := rep_dat ry hr e2
    rw [← kk] at d1 d2
    cases neg with
    | false => exact op_eqD hu pins s σ H v u vv uu Q' I rv ru ⟨d, e, d1, d2, s1, s2, fin0 fn hr (x := .bl _) rfl q⟩
    | true => exact op_neD hu pins s σ H v u vv uu Q' I rv ru ⟨d, e, d1, d2, s1, s2, fin0 fn hr (x := .bl _) rfl q⟩
  have go : ∀ ks ls, x = .dct ks → y = .dct ls → wpAny (model X.prog X.w) X.A (compareOp (if neg then .NotEq else .Eq) vv uu) (EP X pins σ Q') X.xe s := fun ks ls ex ey => by
    subst ex ey
    obtain ⟨⟨hl, hp⟩, q⟩ := w
    obtain ⟨a, wk, ev, ⟨rd1, _⟩, rk⟩ := rx
    obtain ⟨b, wl, eu, ⟨rd2, _⟩, rl⟩ := ry
    subst ev eu
    cases rv
    cases ru
    obtain ⟨_, ya, va, ra, da⟩ := dk_rd I.hok rd1
    obtain ⟨_, yb, vb, rb, db⟩ := dk_rd I.hok rd2
    have hlen : va.length = vb.length := by rw [← ra.length, ← rb.length, ← rk.length, ← rl.length]; exact hl
    have ht := hits_data (A := X.A.in1) I kk hu2 rl rb rk ra hp
    cases neg with
    | false => exact PySem.W.keq_eq (knd := mixKind X.prog X.w) (r := true) ya yb da db (by omega) (fun _ => ht) ⟨.bl true, H, I, by rw [hlen, beq_self_eq_true]; rfl, fn _ H (.bl true) h rfl hr Fra.refl q⟩
    | true => exact PySem.W.keq_ne (knd := mixKind X.prog X.w) (r := true) ya yb da db (by omega) (fun _ => ht) ⟨.bl false, H, I, by rw [hlen, beq_self_eq_true]; rfl, fn _ H (.bl false) h rfl hr Fra.refl q⟩
  cases x with
  | dct ks => cases y with
    | dct ls => exact go ks ls rfl rfl
    | _ => exact gen w
  | _ => exact gen w
theorem cmp_sound (kk : X.K = G.K) (rm : Rm k X.A) (op : CmpOp) : OpR X (compareOp op) (RO G (cmpV op)) := by
  have hu : X.A.units + 64 < cLine := by have := rm.u; omega
  have ii : ∀ {op : CmpOp} {p : Int → Int → Bool}, OpR X (compareOp op) (rI0 fun i j => .bl (p i j)) → (∀ x y h Q, cmpV op x y h Q → ∃ i j, x = .int i ∧ y = .int j ∧ Q (.bl (p i j)) h) → OpR X (compareOp op) (RO G (cmpV op)) := fun {op p} o e =>
    OpR.imp o fun v u H Q' ⟨x, y, h, Q, rx, ry, hr, w, fn⟩ => by
      obtain ⟨i, j, rfl, rfl, q⟩ := e x y h Q w
      exact ⟨i, j, rx, ry, fin0 fn hr (x := .bl (p i j)) rfl q⟩
  cases op with
  | Lt => exact ii op_lt fun x y h Q w => w
  | LtE => exact ii op_le fun x y h Q w => w
  | Gt => exact ii op_gt fun x y h Q w => w
  | GtE => exact ii op_ge fun x y h Q w => w
  | Eq => exact eqw_sound kk rm (neg := false)
  | NotEq => exact eqw_sound kk rm (neg := true)
  | In => exact in_sound kk rm false
  | NotIn => exact in_sound kk rm true
  | _ =>
    intro pins s σ H v u vv uu Q' I rv ru hh
    obtain ⟨x, y, h, Q, rx, ry, hr, w, fn⟩ := hh
    exact w.elim
theorem atI_rep {H : Hp} {h : CH} {xs : List Val} {vs : List V} {i : Int} {x : Val} (r : RepL G H h xs vs) (e : atI xs i = some x) : ∃ v, atI vs i = some v ∧ RepV G H h x v := by
  unfold atI at e ⊢
  rw [← r.length]
  cases q : ixN xs.length i with
  | none => rw
        [q] at e; cases e
  | some j => rw [q] at e; exact r.get e
theorem ix_any : IxR X (fun x y H Q => rIxL X.K x y H Q ∨ rIxT X.K x y H Q ∨ rIxS x y H Q) := by
  intro value slice pins s σ H x y v u Q I rx ry hh hs
  rcases hh with w | w | w
  · exact ix_list value slice pins s σ H x y v u Q I rx ry w hs
  · exact ix_tup value slice pins s σ H x y v u Q I rx ry w hs
  · exact ix_str value slice pins s σ H x y v u Q I rx ry w hs
theorem sub_tail {A : Around} {E : Value → Shared → Prop} {s : Shared} {P : Program} {w : World} {value slice : Expr} {o i : Value} {T id : String} {Q : Value → Shared → Prop} (hT : s.TypeIs o T) (hl : typeLookup (.type T) "__getitem__" = pure (some (.builtin id)))
    (hq : wpAny (model P w) A (getItem o i) Q E s) (hs : subscripted slice false o i = operate [o, i] (getItem o i)) : wpAny (model P w) A (subscriptTail value slice o i) Q E s := by
  have last : wpAny (model P w) A (subscripted slice false o i) (fun r s' => wpAny (model P w) A (do letTemporaryGo value o r; pure r) Q E s') E s := by
    rw [hs]
    refine wpAny_operating (wpAny_mono hq (fun r s' q => ?_) fun _ _ x => x)
    exact wpAny_bind (wpAny_letTemporaryGo (wpAny_pure q))
  unfold subscriptTail
  rw
        [getitemInPython_of_ne hT.not_modules]
  refine wpAny_bind (wpAny_bind (wpAny_specialOf hT hl ?_))
  first
    | exact wpAny_pure (wpAny_bind last)
    | exact wpAny_bind (wpAny_pure (wpAny_bind last))
    | exact wpAny_bind last
theorem ix_sound (kk : X.K = G.K) (rm : Rm k X.A) : IxR X (RO G ixV) := by
  intro value slice pins s σ H v u vv uu Q' I rv ru hh hs
  obtain ⟨x, y, h, Q, rx, ry, hr, w, fn⟩ := hh
  have hu1 : X.A.units + 1 < cLine := by have := rm.u; omega
  have gen : ((∃ xs j z, rdL h x = some xs ∧ y = .int j ∧ atI xs j = some z ∧ Q z h) ∨ (∃ kvs k z, rdD h x = some kvs ∧ keyOf y = some k ∧ vget kvs k = some z ∧ Q z h) ∨
    ∃ kvs k z, rdP h x = some kvs ∧ pkeyOf y = some k ∧ vget kvs k = some z ∧ Q z h) → wpAny (model X.prog X.w) X.A (subscriptTail value slice vv uu) (EP X pins σ Q') X.xe s := by
    rintro (⟨xs, j, z, e1, rfl, e3, q⟩ | w)
    · obtain ⟨a, vs, ev, sq, rl⟩ := rep_rdL rx hr e1
      obtain ⟨zv, e4, rz⟩ := atI_rep rl e3
      exact ix_list value slice pins s σ H v u vv uu Q' I rv ru ⟨a, vs, j, zv, ev, ry, by rw [kk]; exact sq, e4, fin0 fn hr rz q⟩ hs
    · have w2 : (∃ k kvs, keyOf y = some k ∧ rdD h x = some kvs ∧ ∃ z, vget kvs k = some z ∧ Q z h) ∨ ∃ k kvs, pkeyOf y = some k ∧ rdP h x = some kvs ∧ ∃ z, vget kvs k = some z ∧ Q z h := by
        rcases w with ⟨kvs, k, z, e1, e2, e3, q⟩ | ⟨kvs, k, z, e1, e2, e3, q⟩
        · exact .inl ⟨k, kvs, e2, e1, z, e3, q⟩
        · exact .inr ⟨k, kvs, e2, e1, z, e3, q⟩
      obtain ⟨a, ov, oz, ev, g, ⟨z, ez, q⟩, _, z1⟩ := dget_of (P := fun o => ∃ z, o = some z ∧ Q z h) rx ry hr w2
      obtain ⟨zv, e5, rz⟩ := z1 z ez
      subst ev e5
      cases rv
      refine sub_tail (dict_typeIs I g) PySem.F.slot_dict_getitem.lookup ?_ hs
      exact d_getItem hu1 I g ru fun w' s3 I3 rw' => ⟨zv, H, I3, rw', fin0 fn hr rz q⟩
  cases x with
  | tup xs =>
    obtain ⟨j, z, rfl, e, q⟩ := w
    obtain ⟨a, vs, ev, sq, rl⟩ := rep_tup rx
    obtain ⟨zv, e2, rz⟩ := atI_rep rl e
    exact ix_tup value slice pins s σ H v u vv uu Q' I rv ru ⟨a, vs, j, zv, ev, ry, by rw [kk]; exact sq, e2, fin0 fn hr rz q⟩ hs
  | lst xs =>
    obtain ⟨j, z, rfl, e, q⟩ := w
    exact gen (.inl ⟨xs, j, z, rfl, rfl, e, q⟩)
  | str z =>
    obtain ⟨j, c, rfl, e1, e2, q⟩ := w
    exact ix_str value slice pins s σ H v u vv uu Q' I rv ru ⟨z, j, c, rx, ry, e1, e2, fin0 fn hr (x := .str ⟨#[c]⟩) rfl q⟩ hs
  | _ => exact gen w
end
end Vc
/-! Vc6: built-in functions by values. -/
namespace Vc
open PySem L2 PyProof.Rows
section
variable {G : Cfg} {X : Cx}
def biV : Bi → Value
  | .len => .builtin "len"
  | .abs => .builtin "abs"
  | .int => .type "int"
  | .tuple => .type "tuple"
  | .list => .type "list"
  | .sorted => .builtin "sorted"
  | .sum => .builtin "sum"
  | .max => .builtin "max"
  | .min => .builtin "min"
def biN : Bi → Str
  | .len => "len"
  | .abs => "abs"
  | .int => "int"
  | .tuple => "tuple"
  | .list => "list"
  | .sorted => "sorted"
  | .sum => "sum"
  | .max => "max"
  | .min => "min"
theorem biN_val (b : Bi) : bootBuiltins (biN b) = some (biV b) := by cases b <;> decide +kernel
/-- a call of values is read -/
def RC (G : Cfg) (op : List Val → CH → VP → Prop) : List V → Hp → VK → Prop := fun vs H Q' => ∃ xs h Q, RepL G H h xs vs ∧ HRep G H h ∧ op xs h Q ∧ Fin G h H Q Q'
theorem CallR.imp {f : Value} {r r' : List V → Hp → VK → Prop} (o : CallR X f r) (h : ∀ xs H Q, r' xs H Q → r xs H Q) : CallR X f r' := fun pins s σ H xs us Q I rx q => o pins s σ H xs us Q I rx (h xs H Q q)
theorem ints_rep {H : Hp} {h : CH} : ∀ {xs : List Val} {ns : List Int} {vs : List V}, RepL G H h xs vs → intsOf xs = some ns → vs = ns.map V.int
  | [], ns, vs, r, e => by cases e; exact r
  | x :: xs, ns, vs, ⟨v, t, e1, q, s⟩, e => by
    cases x with
    | int i =>
      unfold intsOf at e
      split at e
      · rename_i l h1
        cases e
        rw [e1, ints_rep s h1, show v = V.int i from q]
        rfl
      · cases e
    | _ => cases e
theorem repL1 {H : Hp} {h : CH} {x : Val} {vs : List V} (r : RepL G H h [x] vs) : ∃ v, vs = [v] ∧ RepV G H h x v := by
  obtain ⟨v, t, e, q, s⟩ := r
  exact ⟨v, by rw [e, show t = [] from s], q⟩
theorem repL2 {H : Hp} {h : CH} {x y : Val} {vs : List V} (r : RepL G H h [x, y] vs) : ∃ v u, vs = [v, u] ∧ RepV G H h x v ∧ RepV G H h y u := by
  obtain ⟨v, t, e, q, u, t2, e2, q2, s⟩ := r
  exact ⟨v, u, by rw [e, e2, show t2 = [] from s], q, q2⟩
theorem len_sound (kk : X.K = G.K) : CallR X (.builtin "len") (RC G (bltV .len)) := by
  intro pins s σ H vs us Q' I rv hh
  obtain ⟨xs, h, Q, rl, hr, w, fn⟩ := hh
  match xs, w with
  | [x], w =>
    obtain ⟨n, w, q⟩ := w
    obtain ⟨v, rfl, rx⟩ := repL1 rl
    have fin : Q' (.int (n : Nat)) H := fin0 fn hr (x := .int (n : Nat)) rfl q
    have gen : ((∃ xs, rdL h x = some xs ∧ n = xs.length) ∨ (∃ a kvs, x = .ref a ∧ h a = some (.dct kvs) ∧ n = kvs.length)) → wpAny (model X.prog X.w) X.A (call (.builtin "len") us) (EP X pins σ Q') X.xe s := by
      rintro (⟨xs, e, rfl⟩ | ⟨a, kvs, rfl, e, rfl⟩)
      · obtain ⟨a, ws, ev, sq, t⟩ := rep_rdL rx hr e
        exact call_len_seq pins s σ H _ us Q' I rv ⟨a, ws, by rw [ev], .inl (by rw [kk]; exact sq), by rw [← t.length]; exact fin⟩
      · obtain ⟨ws, sq, t⟩ := hr a _ e
        exact call_lenD pins s σ H _ us Q' I rv ⟨a, ws, by rw [show v = V.ref a from rx], sq, by rw [← t.length]; exact fin⟩
    cases x with
    | tup ys =>
      obtain rfl : n = ys.length := w
      obtain ⟨a, ws, ev, sq, t⟩ := rep_tup rx
      exact call_len_seq pins s σ H _ us Q' I rv ⟨a, ws, by rw [ev], .inr (by rw [kk]; exact sq), by rw [← t.length]; exact fin⟩
    | str z =>
      obtain ⟨hz, rfl⟩ : _ ∧ n = z.length := w
      exact call_len pins s σ H _ us Q' I rv ⟨.str z, z.length, by rw [show v = V.str z from rx], ⟨hz, rfl⟩, fin⟩
    | _ => exact gen w
  | [], w => exact w.elim
  | _ :: _ :: _, w => exact w.elim
theorem abs_sound : CallR X (.builtin "abs") (RC G (bltV .abs)) := CallR.imp call_abs fun vs H Q' ⟨xs, h, Q, rl, hr, w, fn⟩ => by
  match xs, w with
  | [.int i], w =>
    obtain ⟨v, rfl, rx⟩ := repL1 rl
    exact ⟨i, by rw [show v = V.int i from rx], fin0 fn hr (x := .int _) rfl w⟩
theorem int_soundC : CallR X (.type "int") (RC G (bltV .int)) := CallR.imp call_int1 fun vs H Q' ⟨xs, h, Q, rl, hr, w, fn⟩ => by
  match xs, w with
  | [.int i], w =>
    obtain ⟨v, rfl, rx⟩ := repL1 rl
    exact .inl ⟨i, by rw [show v = V.int i from rx], fin0 fn hr (x := .int _) rfl w⟩
  | [.bl i], w =>
    obtain ⟨v, rfl, rx⟩ := repL1 rl
    exact .inr ⟨i, by rw [show v = V.bl i from rx], fin0 fn hr (x := .int _) rfl w⟩
theorem tuple_soundC (kk : X.K = G.K) : CallR X (.type "tuple") (RC G (bltV .tuple)) := CallR.imp call_tuple_of fun vs H Q' ⟨xs, h, Q, rl, hr, w, fn⟩ => by
  have gen : ∀ x, xs = [x] → (∃ ys, rdL h x = some ys ∧ Q (.tup ys) h) → ∃ p ys, vs = [.ref p] ∧ ((SqL X.K H p ys ∧ ∀ l, H l = none → Q' (.ref l) (upd H l (.tup ys))) ∨ (SqT X.K H p ys ∧ Q' (.ref p) H)) := by
    rintro x rfl ⟨ys, e, q⟩
    obtain ⟨v, rfl, rx⟩ := repL1 rl
    obtain ⟨a, ws, ev, sq, t⟩ := rep_rdL rx hr e
    exact ⟨a, ws, by rw [ev], .inl ⟨by rw [kk]; exact sq, finT fn hr t q⟩⟩
  match xs, w with
  | [.tup ys], w =>
    obtain ⟨v, rfl, rx⟩ := repL1 rl
    obtain ⟨a, ws, ev, sq, t⟩ := rep_tup rx
    exact ⟨a, ws, by rw [ev], .inr ⟨by rw [kk]; exact sq, by rw [← ev]; exact fin0 fn hr rx w⟩⟩
  | [.lst ys], w => exact gen _ rfl w
  | [.ref a], w => exact gen _ rfl w
  | [.non], w => exact gen _ rfl w
  | [.bl _], w => exact gen _ rfl w
  | [.int _], w => exact gen _ rfl w
  | [.str _], w => exact gen _ rfl w
  | [.dct _], w => exact gen _ rfl w
  | [.dtt _], w => exact gen _ rfl w
  | [.obj _ _], w => exact gen _ rfl w
  | [.fn _], w => exact gen _ rfl w
  | [.kd _], w => exact gen _ rfl w
theorem sum_sound (kk : X.K = G.K) (hc : X.calm = true) : CallR X (.builtin "sum") (RC G (bltV .sum)) := CallR.imp (cr_sum hc) fun vs H Q' ⟨xs, h, Q, rl, hr, w, fn⟩ => by
  match xs, w with
  | [x], ⟨ys, ns, e1, e2, q⟩ =>
    obtain ⟨v, rfl, rx⟩ := repL1 rl
    obtain ⟨a, ws, ev, sq, t⟩ := rep_rdL rx hr e1
    have e3 := ints_rep t e2
    exact ⟨a, ns, by rw [ev], by rw [kk, ← e3]; exact sq, fin0 fn hr (x := .int _) rfl q⟩
theorem max_sound (kk : X.K = G.K) (hc : X.calm = true) : CallR X (.builtin "max") (RC G (bltV .max)) := CallR.imp (cr_max hc) fun vs H Q' ⟨xs, h, Q, rl, hr, w, fn⟩ => by
  match xs, w with
  | [x], ⟨ys, ns, e1, e2, e0, q⟩ =>
    obtain ⟨v, rfl, rx⟩ := repL1 rl
    obtain ⟨a, ws, ev, sq, t⟩ := rep_rdL rx hr e1
    have e3 := ints_rep t e2
    exact ⟨a, ns, by rw [ev], by rw [kk, ← e3]; exact sq, e0, fun m m1 m2 => fin0 fn hr (x := .int _) rfl (q m m1 m2)⟩
theorem min_sound (kk : X.K = G.K) (hc : X.calm = true) : CallR X (.builtin "min") (RC G (bltV .min)) := CallR.imp (cr_min hc) fun vs H Q' ⟨xs, h, Q, rl, hr, w, fn⟩ => by
  match xs, w with
  | [x], ⟨ys, ns, e1, e2, e0, q⟩ =>
    obtain ⟨v, rfl, rx⟩ := repL1 rl
    obtain ⟨a, ws, ev, sq, t⟩ := rep_rdL rx hr e1
    have e3 := ints_rep t e2
    exact ⟨a, ns, by rw [ev], by rw [kk, ← e3]; exact sq, e0, fun m m1 m2 => fin0 fn hr (x := .int _) rfl (q m m1 m2)⟩
theorem list_soundC (kk : X.K = G.K) : CallR X (.type "list") (RC G (bltV .list)) := CallR.imp call_list_of fun vs H Q' ⟨xs, h, Q, rl, hr, w, fn⟩ => by
  match xs, w with
  | [x], ⟨ys, e, q⟩ =>
    obtain ⟨v, rfl, rx⟩ := repL1 rl
    rcases e with e | rfl
    · obtain ⟨a, ws, ev, sq, t⟩ := rep_rdL rx hr e
      exact ⟨a, ws, by rw [ev], .inl (by rw [kk]; exact sq), finL fn hr t q⟩
    · obtain ⟨a, ws, ev, sq, t⟩ := rep_tup rx
      exact ⟨a, ws, by rw [ev], .inr (by rw [kk]; exact sq), finL fn hr t q⟩
theorem strs_rep {H : Hp} {h : CH} : ∀ {xs : List Val} {ns : List Str} {vs : List V}, RepL G H h xs vs → strsOf xs = some ns → vs = ns.map V.str
  | [], ns, vs, r, e => by cases e; exact r
  | x :: xs, ns, vs, ⟨v, t, e1, q, s⟩, e => by
    cases x with
    | str i =>
      unfold strsOf at e
      split at e
      · rename_i l h1
        cases e
        rw [e1, strs_rep s h1, show v = V.str i from q]
        rfl
      · cases e
    | _ => cases e
theorem rep_map_int {H : Hp} {h : CH} : ∀ ns : List Int, RepL G H h (ns.map .int) (ns.map V.int)
  | [] => rfl
  | n :: ns => ⟨_, _, rfl, rfl, rep_map_int ns⟩
theorem rep_map_str {H : Hp} {h : CH} : ∀ ns : List Str, RepL G H h (ns.map .str) (ns.map V.str)
  | [] => rfl
  | n :: ns => ⟨_, _, rfl, rfl, rep_map_str ns⟩
/-- pairs, one by one -/
theorem pair_rep {H : Hp} {h : CH} {x : Val} {p : Int × Int} {v : V} (r : RepV G H h x v) (e : pairOf x = some p) : ∃ t, v = .ref t ∧ H t = some (.tup [.int p.1, .int p.2]) ∧ h t = none := by
  unfold pairOf at e
  split at e
  · rename_i i j
    cases e
    obtain ⟨t, vs, ev, q, rl⟩ := r
    obtain ⟨v1, r1, e1, q1, v2, r2, e2, q2, q3⟩ := rl
    have e3 : vs = [.int i, .int j] := by rw [e1, e2, show v1 = V.int i from q1, show v2 = V.int j from q2, show r2 = [] from q3]
    rcases q with q | ⟨_, q⟩
    · exact ⟨t, ev, by rw [← e3]; exact q.1, q.2⟩
    · cases q
  · cases e
/-- a key for what stands as a pair -/
theorem pairs_rep {H : Hp} {h : CH} : ∀ {xs : List Val} {ps : List (Int × Int)} {vs : List V}, RepL G H h xs vs → pairsOf xs = some ps → ∀ (k : V → Int × Int), (∀ t i j, H t = some (.tup [.int i, .int j]) → k (.ref t) = (i, j)) → vs.map k = ps ∧ ∀ v ∈ vs, ∃ t, v = .ref t ∧ H t = some (.tup [.int (k v).1, .int (k v).2]) ∧ h t = none
  | [], ps, vs, r, e, k, hk => by
    cases e
    rw [show vs = [] from r]
    exact ⟨rfl, fun v hv => by cases hv⟩
  | x :: xs, ps, vs, ⟨v, t, e1, q, s⟩, e, k, hk => by
    unfold pairsOf at e
    split at e
    · rename_i p l h1 h2
      cases e
      obtain ⟨i1, i2⟩ := pairs_rep s h2 k hk
      obtain ⟨a, ea, ha, na⟩ := pair_rep q h1
      have kv : k v = p := by rw [ea]; exact hk a _ _ ha
      subst e1
      refine ⟨by rw [List.map_cons, kv, i1], fun u hu => ?_⟩
      rcases List.mem_cons.mp hu with hu | hu
      · rw [hu]
        exact ⟨a, ea, by rw [kv]; exact ha, na⟩
      · exact i2 u hu
    · cases e
theorem rep_of_pairs {H : Hp} {h : CH} (k : V → Int × Int) : ∀ {vs : List V}, (∀ v ∈ vs, ∃ t, v = .ref t ∧ H t = some (.tup [.int (k v).1, .int (k v).2]) ∧ h t = none) → RepL G H h ((vs.map k).map pairV) vs
  | [], _ => rfl
  | v :: vs, hv => by
    obtain ⟨t, e, ht, n⟩ := hv v List.mem_cons_self
    exact ⟨v, vs, rfl, ⟨t, _, e, .inl ⟨ht, n⟩, ⟨_, _, rfl, rfl, _, _, rfl, rfl, rfl⟩⟩, rep_of_pairs k fun u hu => hv u (List.mem_cons_of_mem _ hu)⟩
theorem sorted_soundC (kk : X.K = G.K) : CallR X (.builtin "sorted") (RC G (bltV .sorted)) := by
  intro pins s σ H vs us Q' I rv ⟨xs, h, Q, rl, hr, w, fn⟩
  match xs, w with
  | [x], ⟨ys, e0, w⟩ =>
    obtain ⟨v, rfl, rx⟩ := repL1 rl
    obtain ⟨a, ws, ev, sq, t⟩ := rep_rdL rx hr e0
    subst ev
    rw [← kk] at sq
    rcases w with ⟨ns, e, w⟩ | ⟨ps, e, w⟩ | ⟨zs, e, l, w⟩
    · have e3 := ints_rep t e
      subst e3
      exact cr_sortedI pins s σ H _ us Q' I rv ⟨a, ns, rfl, sq, fun ms p m1 m2 np => finL fn hr (rep_map_int ms) (w ms m1 m2) p np⟩
    · let k : V → Int × Int := fun v => match v with
        | .ref t => (match H t with
          | some (.tup [.int i, .int j]) => (i, j)
          | _ => (0, 0))
        | _ => (0, 0)
      have hk : ∀ t i j, H t = some (.tup [.int i, .int j]) → k (.ref t) = (i, j) := fun t i j e => by
        show (match H t with
          | some (.tup [.int i, .int j]) => (i, j)
          | _ => (0, 0)) = (i, j)
        rw [e]
      obtain ⟨i1, i2⟩ := pairs_rep t e k hk
      refine cr_sortedPO pins s σ H _ us Q' I rv ⟨a, ws, k, rfl, sq, fun v hv => ?_, fun ys p s1 s2 np => ?_⟩
      · obtain ⟨b, eb, hb, _⟩ := i2 v hv
        exact ⟨b, eb, hb⟩
      · have hp : (ys.map k).Perm ps := by rw [← i1]; exact s2.perm.map k
        refine finL fn hr (rep_of_pairs k fun v hv => i2 v (s2.perm.mem_iff.mp hv)) (w _ hp ?_) p np
        rw [List.pairwise_map]
        refine List.Pairwise.imp (fun {x y} q => ?_) s1
        have q2 := SrtO.lexB_no.mp q
        unfold lexle
        omega
    · have e3 := strs_rep t e
      subst e3
      exact cr_sortedS pins s σ H _ us Q' I rv ⟨a, zs, rfl, sq, l, fun ys p m1 m2 np => finL fn hr (rep_map_str ys) (w ys m1 m2) p np⟩
theorem blt_sound (kk : X.K = G.K) (hc : X.calm = true) (b : Bi) : CallR X (biV b) (RC G (bltV b)) := by
  cases b with
  | len => exact len_sound kk
  | abs => exact abs_sound
  | int => exact int_soundC
  | tuple => exact tuple_soundC kk
  | list => exact list_soundC kk
  | sorted => exact sorted_soundC kk
  | sum => exact sum_sound kk hc
  | max => exact max_sound kk hc
  | min => exact min_sound kk hc
end
end Vc
/-! Vc7: does the small syntax tell a text; contexts' facts. -/
namespace Vc
open PySem L2 PyProof.Rows

def visB (sc : Scope) (x : Str) : Bool := match sc.names.lookup x with
  | some .local => true
  | some .cell => true
  | some .free => true
  | _ => false
def locB (sc : Scope) (x : Str) : Bool := match sc.names.lookup x with
  | some .local => true
  | some .cell => true
  | _ => false
def glB (sc : Scope) (x : Str) : Bool := match sc.names.lookup x with
  | some .globalImplicit => true
  | _ => false
def dbg (x : Str) : Bool := !(x == ("__debug__" : Str)) && !(x == ("__classdict__" : Str))
def constB : Val → Const → Bool
  | .non, .none => true
  | .bl b, .bool c => b == c
  | .int i, .int j => decide (i = j)
  | .str x, .str y => decide (x = y)
  | _, _ => false
/-- no call of a name without arguments: super() -/
def noBase : Expr → Bool
  | .Call (.Name _ _) [] [] _ => false
  | _ => true
def bmN : Bm → Str
  | .pop => "pop"
  | .index => "index"
  | .get => "get"
def nmB (N : List Str) (sc : Scope) (p : Nat × Expr) : Bool := match p.2 with
  | .Name x _ => decide (N[p.1]? = some x) && locB sc x
  | _ => false
def ckT (N : List Str) (sc : Scope) : Tg → Expr → Bool
  | .nm i, .Name x _ => decide (N[i]? = some x) && locB sc x
  | .tp is, .Tuple es _ _ => decide (is.length = es.length) && (is.zip es).all (nmB N sc)
  | _, _ => false
def isTup : Expr → Bool
  | .Tuple .. => true
  | _ => false
def tgIn (is : List Nat) (t : Tg) : Bool := (tgs t).all fun j => decide (j ∈ is)
def ownOf (N : List Str) (own : List Nat) : List (Str × Nat) := own.filterMap fun i => (N[i]?).map fun x => (x, i)
/-- further forms: what is read of them -/
def xck (i : Nat) (sc : Scope) (e : Expr) : Option (List Expr) := match i, e with
  | 0, .Call (.Name f _) [.Call (.Name t _) [x] [] _] [] _ => if (decide (f = "sorted") && glB sc f && decide (t = "set") && glB sc t) = true then some [x] else none
  | 1, .Call (.Name f _) [x, .Name t _] [] _ => if (decide (f = "isinstance") && glB sc f && decide (t = "int") && glB sc t) = true then some [x] else none
  | 2, .Call (.Name f _) [x, .Name t _] [] _ => if (decide (f = "isinstance") && glB sc f && decide (t = "bool") && glB sc t) = true then some [x] else none
  | 3, .Call (.Name f _) [.Call (.Name t _) [x] [] _] [] _ => if (decide (f = "list") && glB sc f && decide (t = "range") && glB sc t) = true then some [x] else none
  | _, _ => none
def plainE : Expr → Bool
  | .Starred .. => false
  | .Slice .. => false
  | .Set .. => false
  | _ => true
mutual
def ckE (N : List Str) (sc : Scope) : E → Expr → Bool
  | .var i, e => match e with
    | .Name x _ => decide (N[i]? = some x) && visB sc x && dbg x
    | _ => false
  | .glo g, e => match e with
    | .Name x _ => decide (g = x) && glB sc x && dbg x
    | _ => false
  | .cst v, e => match e with
    | .Constant c _ _ => constB v c
    | _ => false
  | .tup es, e => match e with
    | .Tuple l _ _ => ckEs N sc es l
    | _ => false
  | .dsp es, e => match e with
    | .List l _ => ckEs N sc es l
    | _ => false
  | .new es, e => match e with
    | .List l _ => ckEs N sc es l
    | _ => false
  | .dnw, e => match e with
    | .Dict [] [] _ => true
    | _ => false
  | .pnw, e => match e with
    | .Dict [] [] _ => true
    | _ => false
  | .bin o a b, e => match e with
    | .BinOp l o' r _ => decide (o = o') && ckE N sc a l && ckE N sc b r
    | _ => false
  | .neg a, e => match e with
    | .UnaryOp .USub e _ => ckE N sc a e
    | _ => false
  | .not a, e => match e with
    | .UnaryOp .Not e _ => ckE N sc a e
    | _ => false
  | .cmp o a b, e => match e with
    | .Compare l [o'] [r] _ => decide (o = o') && ckE N sc a l && ckE N sc b r
    | _ => false
  | .isn a, e => match e with
    | .Compare l [.Is] [.Constant .none _ _] _ => ckE N sc a l
    | _ => false
  | .ntn a, e => match e with
    | .Compare l [.IsNot] [.Constant .none _ _] _ => ckE N sc a l
    | _ => false
  | .isb n a b, e => match e with
    | .Compare l [o] [r] _ => decide (o = if n then .IsNot else .Is) && ckE N sc a l && ckE N sc b r
    | _ => false
  | .chn o o' a b c, e => match e with
    | .Compare l [p, p'] [r, t] _ => decide (o = p) && decide (o' = p') && ckE N sc a l && ckE N sc b r && ckE N sc c t
    | _ => false
  | .and a b, e => match e with
    | .BoolOp .And (x :: y :: r) p => ckE N sc a x && (match r with
      | [] => ckE N sc b y
      | z :: r => ckE N sc b (.BoolOp .And (y :: z :: r) p))
    | _ => false
  | .or a b, e => match e with
    | .BoolOp .Or (x :: y :: r) p => ckE N sc a x && (match r with
      | [] => ckE N sc b y
      | z :: r => ckE N sc b (.BoolOp .Or (y :: z :: r) p))
    | _ => false
  | .ife c a b, e => match e with
    | .IfExp t x y _ => ckE N sc c t && ckE N sc a x && ckE N sc b y
    | _ => false
  | .ix a i, e => match e with
    | .Subscript v s _ => ckE N sc a v && ckE N sc i s
    | _ => false
  | .sl a lo hi, e => match e with
    | .Subscript v (.Slice l u none _) _ => ckE N sc a v && ckO N sc lo l && ckO N sc hi u
    | _ => false
  | .fld a f, e => match e with
    | .Attribute v g _ => decide (f = g) && noBase v && ckE N sc a v
    | _ => false
  | .call f es, e => match e with
    | .Call (.Name x _) l [] _ => decide (f = x) && glB sc x && dbg x && ckEs N sc es l
    | _ => false
  | .mk C es, e => match e with
    | .Call (.Name x _) l [] _ => decide (C = x) && glB sc x && dbg x && ckEs N sc es l
    | _ => false
  | .met o m es, e => match e with
    | .Call (.Attribute v g ap) l [] p => decide (m = g) && noBase v && (ap.endLine == p.line) && decide (l.length < 20) && ckE N sc o v && ckEs N sc es l
    | _ => false
  | .blt b es, e => match e with
    | .Call (.Name x _) l [] _ => decide (x = biN b) && glB sc x && decide (0 < l.length) && ckEs N sc es l
    | _ => false
  | .bm o m es, e => match e with
    | .Call (.Attribute v g ap) l [] p => decide (g = bmN m) && noBase v && (ap.endLine == p.line) && decide (l.length < 20) && ckE N sc o v && ckEs N sc es l
    | _ => false
  | .xf i es, e => plainE e && (match xck i sc e with
    | some l => ckEs N sc es l
    | none => false)
  | .lc _ own t it c (.el e1), e => match e with
    | .ListComp elt [⟨tg, iter, ifs, 0⟩] scope _ => ckI N sc it tg iter && blkC N sc scope (ownOf N own) && decide ((ownOf N own).map (·.2) = own) && tgIn own t && ckT N scope t tg && ckCs N scope c ifs && ckE N scope e1 elt
    | _ => false
  | .lc _ own t it c (.fo t1 it1 c1 (.el e1)), e => match e with
    | .ListComp elt [⟨tg, iter, ifs, 0⟩, ⟨tg1, iter1, ifs1, 0⟩] scope _ => ckI N sc it tg iter && blkC N sc scope (ownOf N own) && decide ((ownOf N own).map (·.2) = own) && tgIn own t && ckT N scope t tg && ckCs N scope c ifs &&
      noLock it1 && ckI N scope it1 tg1 iter1 && tgIn own t1 && ckT N scope t1 tg1 && ckCs N scope c1 ifs1 && ckE N scope e1 elt
    | _ => false
  | .lc _ _ _ _ _ _, _ => false
  | .frz a, e => plainE e && ckE N sc a e
  | .ssc own t it c e1, e => match e with
    | .Call (.Name f _) [.SetComp elt [⟨tg, iter, ifs, 0⟩] scope _] [] _ => decide (f = "sorted") && glB sc f && ckI N sc it tg iter && blkC N sc scope (ownOf N own) && decide ((ownOf N own).map (·.2) = own) && tgIn own t && ckT N scope t tg && ckCs N scope c ifs && ckE N scope e1 elt
    | _ => false
  | .dp _ own t it c k e1, e => match e with
    | .DictComp kx vx [⟨tg, iter, ifs, 0⟩] scope _ => ckI N sc it tg iter && blkC N sc scope (ownOf N own) && decide ((ownOf N own).map (·.2) = own) && tgIn own t && ckT N scope t tg && ckCs N scope c ifs && ckE N scope k kx && ckE N scope e1 vx
    | _ => false
  | .dc _ own t it c k e1, e => match e with
    | .DictComp kx vx [⟨tg, iter, ifs, 0⟩] scope _ => ckI N sc it tg iter && blkC N sc scope (ownOf N own) && decide ((ownOf N own).map (·.2) = own) && tgIn own t && ckT N scope t tg && ckCs N scope c ifs && ckE N scope k kx && ckE N scope e1 vx
    | _ => false
def ckEs (N : List Str) (sc : Scope) : Es → List Expr → Bool
  | .nil, [] => true
  | .cons e es, x :: xs => ckE N sc e x && ckEs N sc es xs
  | _, _ => false
def ckO (N : List Str) (sc : Scope) : Op → Option Expr → Bool
  | .no, none => true
  | .so e, some x => ckE N sc e x
  | _, _ => false
def ckI (N : List Str) (sc : Scope) : I → Expr → Expr → Bool
  | .sq e, _, x => ckE N sc e x
  | .dk e, _, x => ckE N sc e x
  | .ky e, _, x => ckE N sc e x
  | .rg e, _, x => match x with
    | .Call (.Name f _) [x] [] _ => decide (f = "range") && glB sc f && ckE N sc e x
    | _ => false
  | .rg2 a b, _, x => match x with
    | .Call (.Name f _) [x, y] [] _ => decide (f = "range") && glB sc f && ckE N sc a x && ckE N sc b y
    | _ => false
  | .en e, tg, x => match x with
    | .Call (.Name f _) [x] [] _ => isTup tg && decide (f = "enumerate") && glB sc f && ckE N sc e x
    | _ => false
  | .zp a b, tg, x => match x with
    | .Call (.Name f _) [x, y] [] _ => isTup tg && decide (f = "zip") && glB sc f && ckE N sc a x && ckE N sc b y
    | _ => false
  | .rv e, _, x => match x with
    | .Call (.Name f _) [x] [] _ => decide (f = "reversed") && glB sc f && ckE N sc e x
    | _ => false
  | .its e, tg, x => match x with
    | .Call (.Attribute v g ap) [] [] p => isTup tg && decide (g = "items") && noBase v && (ap.endLine == p.line) && ckE N sc e v
    | _ => false
  | .vs e, _, x => match x with
    | .Call (.Attribute v g ap) [] [] p => decide (g = "values") && noBase v && (ap.endLine == p.line) && ckE N sc e v
    | _ => false
def ckCs (N : List Str) (sc : Scope) : Cs → List Expr → Bool
  | .nil, [] => true
  | .cons c .nil, [x] => ckE N sc c x
  | _, _ => false
end
end Vc
/-! Vc8: what the text's forms need. -/
namespace Vc
open PySem L2 PyProof.Rows

theorem ck_plain {N : List Str} {sc : Scope} (m : E) : ∀ {e : Expr}, ckE N sc m e = true → plainE e = true := by
  intro e h
  cases e with
  | Starred v p => cases m with
    | lc mu own t it c r => cases r with
      | el e => cases h
      | fo t1 it1 c1 r1 => cases r1 <;> cases h
    | _ => cases h
  | Slice l u s p => cases m with
    | lc mu own t it c r => cases r with
      | el e => cases h
      | fo t1 it1 c1 r1 => cases r1 <;> cases h
    | _ => cases h
  | Set l k p => cases m with
    | lc mu own t it c r => cases r with
      | el e => cases h
      | fo t1 it1 c1 r1 => cases r1 <;> cases h
    | _ => cases h
  | _ => rfl
theorem star_plain {e : Expr} {es : List Expr} {env : PySem.Env} (h : plainE e = true) : starEach (e :: es) env = (false, eval e env) :: starEach es env := by
  cases e <;> first | rfl | cases h
theorem mark_plain {e : Expr} {op : CmpOp} (h : plainE e = true) : behindInMarks op e = false := by
  cases e <;> first | rfl | cases h
theorem ix_plain {e : Expr} (h : plainE e = true) : PlainIx e := fun o i => by
  cases e <;> first | rfl | cases h
theorem fold_plain {e : Expr} (h : plainE e = true) {env : PySem.Env} (x : Value) : foldedSetIterable e env x = pure x := by
  cases e <;> first | rfl | cases h
theorem base_plain {e : Expr} {f : Str} {env : PySem.Env} {t : Sem Value} (h : noBase e = true) : attributeBase e f env t = t := by
  unfold attributeBase
  split
  · cases h
  · rfl
theorem cks_plain {N : List Str} {sc : Scope} : ∀ (m : Es) {es : List Expr}, ckEs N sc m es = true → es.all plainE = true
  | .nil, [], _ => rfl
  | .nil, _ :: _, h => by cases h
  | .cons _ _, [], h => by cases h
  | .cons e m, x :: xs, h => by
    have h1 : (ckE N sc e x && ckEs N sc m xs) = true := h
    rw [Bool.and_eq_true] at h1
    rw [List.all_cons, ck_plain e h1.1, cks_plain m h1.2]
    rfl
theorem star_all {env : PySem.Env} : ∀ {es : List Expr}, es.all plainE = true → starEach es env = es.map fun e => (false, eval e env)
  | [], _ => rfl
  | e :: es, h => by
    rw
          [List.all_cons, Bool.and_eq_true] at h
    rw [star_plain h.1, star_all h.2]
    rfl
theorem star_any {env : PySem.Env} {pos : Pos} {es : List Expr} (h : es.all plainE = true) : (backTo pos (starEach es env)).any (·.1) = false := by
  rw [star_all h]
  unfold backTo
  simp
theorem star_few {env : PySem.Env} {pos : Pos} {es : List Expr} (h : es.all plainE = true) (hl : es.length < 20) :
    ((backTo pos (starEach es env)).all (fun x => !x.1) && (backToKw pos (keywordEach [] env)).all (fun x => x.1.isSome) && decide (es.length + ([] : List Keyword).length + (if ([] : List Keyword).isEmpty then 0 else 1) < 30)) = true := by
  rw [star_all h]
  unfold backTo backToKw
  simp [keywordEach]
  omega
theorem dbg1 {x : Str} (h : dbg x = true) : (x == ("__debug__" : Str)) = false ∧ (x == ("__classdict__" : Str)) = false := by
  unfold dbg at h
  simpa [Bool.and_eq_true] using h
section
variable {G : Cfg} {Γ : Fns} {N : List Str} {sc : Scope} {W : WX} {k : Nat} {X : Cx}
theorem Gd.vis (g : Gd G Γ N sc W k X) {x : Str} (h : visB sc x = true) : Vis X.env.scope x := by
  obtain ⟨h1, h2, h3, _⟩ := g.nm x
  unfold visB at h
  split at h
  · rename_i e; exact .inl (h1 e)
  · rename_i e; exact .inr (.inl (h2 e))
  · rename_i e
    rcases h3 e with z | z
    · exact .inr (.inr z)
    · exact .inr (.inl z)
  · cases h
theorem Gd.loc (g : Gd G Γ N sc W k X) {x : Str} (h : locB sc x = true) : Loc X.env.scope x ∧ (X.fn x = true ∨ X.env.scope.names.lookup x = some .local) := by
  obtain ⟨h1, h2, h3, _⟩ := g.nm x
  unfold locB at h
  split at h
  · rename_i e; exact ⟨.inl (h1 e), .inr (h1 e)⟩
  · rename_i e; exact ⟨.inr (h2 e), .inl (g.fnl x e)⟩
  · cases h
theorem Gd.gl (g : Gd G Γ N sc W k X) {x : Str} (h : glB sc x = true) : Gl X x := by
  obtain ⟨_, _, _, h4⟩ := g.nm x
  unfold glB at h
  split at h
  · rename_i e; exact h4 e
  · cases h
theorem Gd.ix (g : Gd G Γ N sc W k X) {x : Str} {i : Nat} (h : N[i]? = some x) : X.N[i]? = some x := by rw [g.n0]; exact h
theorem Gd.nd0 (g : Gd G Γ N sc W k X) : X.N.Nodup := by rw [g.n0]; exact g.nd
theorem Gd.K (g : Gd G Γ N sc W k X) : X.K = G.K := g.tab.k0
theorem and2 {a b : Bool} (h : (a && b) = true) : a = true ∧ b = true := by simpa [Bool.and_eq_true] using h
/-! ### targets -/
theorem wipe_get {σ : L2.St} {j : Nat} : ∀ {vs : List Nat}, (L2.wipe σ vs)[j]? = if j ∈ vs then (σ[j]?).map (fun _ => none) else σ[j]?
  | [] => by simp [L2.wipe]
  | v :: vs => by
    unfold L2.wipe
    by_cases c : v = j
    · subst c
      rw [if_pos (by simp)]
      by_cases l : v < (L2.wipe σ vs).length
      · rw [List.getElem?_set_self l]
        rw [L2.wipe_length] at l
        rw [List.getElem?_eq_getElem l]; rfl
      · rw [List.getElem?_eq_none (by rw [List.length_set]; omega)]
        rw [L2.wipe_length] at l
        rw [List.getElem?_eq_none (by omega)]; rfl
    · rw [List.getElem?_set_ne c, wipe_get (vs := vs)]
      have : (j ∈ v :: vs) = (j ∈ vs) := by
        rw [List.mem_cons]
        exact propext ⟨fun h => h.elim (fun e => absurd e.symm c) id, .inr⟩
      simp only [this]
theorem wipe_set {σ : L2.St} {i : Nat} {x : Option V} {vs : List Nat} (h : i ∈ vs) : L2.wipe (σ.set i x) vs = L2.wipe σ vs := by
  apply List.ext_getElem?
  intro j
  rw [wipe_get, wipe_get]
  by_cases c : j ∈ vs
  · rw [if_pos c, if_pos c]
    by_cases e : i = j
    · subst e
      by_cases l : i < σ.length
      · rw [List.getElem?_set_self l, List.getElem?_eq_getElem l]; rfl
      · rw [List.getElem?_eq_none (by rw [List.length_set]; omega), List.getElem?_eq_none (by omega)]
    · rw [List.getElem?_set_ne e]
  · rw [if_neg c, if_neg c, List.getElem?_set_ne (fun e : i = j => c (e ▸ h))]
theorem wipe_wipe {σ : L2.St} {vs : List Nat} : L2.wipe (L2.wipe σ vs) vs = L2.wipe σ vs := by
  apply List.ext_getElem?
  intro j
  rw [wipe_get]
  by_cases c : j ∈ vs
  · rw [if_pos c, wipe_get, if_pos c]
    cases σ[j]? <;> rfl
  · rw [if_neg c]
def rG (G : Cfg) (t : Tg) : TG := fun v σ H Q => ∃ ρ h x P, Slots G σ ρ H h ∧ HRep G H h ∧ RepV G H h x v ∧ setT t x ρ P ∧ ∀ σ' ρ', Slots G σ' ρ' H h → (∀ vs, tgIn vs t = true → L2.wipe σ' vs = L2.wipe σ vs) → P ρ' → Q σ' H
theorem names_sound (g : Gd G Γ N sc W k X) : ∀ (is : List Nat) (es : List Expr), is.length = es.length →
    (is.zip es).all (nmB N sc) = true →
    PGs X es (fun vs σ H Q => ∃ ρ h xs, Slots G σ ρ H h ∧ HRep G H h ∧ RepL G H h xs vs ∧ xs.length = is.length ∧ ∀ σ', Slots G σ' (setAll is xs ρ) H h → (∀ ws : List Nat, (is.all fun j => decide (j ∈ ws)) = true → L2.wipe σ' ws = L2.wipe σ ws) → Q σ' H)
  | [], [], _, _ => ⟨fun pins s σ H vs us Q I r hw => by
    obtain ⟨ρ, h, xs, sl, hr, rl, el, q⟩ := hw
    have e0 : xs = [] := List.length_eq_zero_iff.mp el
    subst e0
    exact pgs_nil.run pins s σ H vs us Q I r ⟨rl, q σ sl fun _ _ => rfl⟩⟩
  | [], _ :: _, e, _ => by cases e
  | _ :: _, [], e, _ => by cases e
  | i :: is, e :: es, hl, hc => by
    have hc2 : (nmB N sc (i, e) && (is.zip es).all (nmB N sc)) = true := hc
    obtain ⟨c1, c2⟩ := and2 hc2
    cases e with
    | Name x p =>
      obtain ⟨d1, d2⟩ := and2 c1
      have ih := names_sound g is es (by simpa using hl) c2
      have l := g.loc d2
      have p1 : PG X (.Name x p) (gName i) := pg_name g.nd0 (g.ix (of_decide_eq_true d1)) l.1 l.2
      refine ⟨fun pins s σ H vs us Q I r hw => ?_⟩
      obtain ⟨ρ, h, xs, sl, hr, rl, el, q⟩ := hw
      cases xs with
      | nil => cases el
      | cons y ys =>
        obtain ⟨v, t, e1, q1, s1⟩ := rl
        refine (pgs_cons p1 ih rfl).run pins s σ H vs us Q I r ⟨v, t, e1, ?_⟩
        exact ⟨ρ.set i (some y), h, ys, sl.set q1, hr, s1, by simpa using el, fun σ' s' z => q σ' s' fun ws hw => by
          rw [List.all_cons, Bool.and_eq_true] at hw
          rw [z ws hw.2, wipe_set (of_decide_eq_true hw.1)]⟩
    | _ => cases c1
theorem tg_sound (g : Gd G Γ N sc W k X) (t : Tg) {e : Expr} (h : ckT N sc t e = true) : PG X e (rG G t) := by
  cases t with
  | nm i =>
    cases e with
    | Name x p =>
      obtain ⟨d1, d2⟩ := and2 (show (decide (N[i]? = some x) && locB sc x) = true from h)
      have l := g.loc d2
      have p1 : PG X (.Name x p) (gName i) := pg_name g.nd0 (g.ix (of_decide_eq_true d1)) l.1 l.2
      refine
            ⟨fun pins s σ H v u Q I r hw => ?_⟩
      obtain ⟨ρ, hh, x, P, sl, hr, rx, w, q⟩ := hw
      exact p1.run pins s σ H v u Q I r (q _ _ (sl.set rx) (fun ws hw => wipe_set (by simpa [tgIn, tgs] using hw)) w)
    | _ => cases h
  | tp is =>
    cases e with
    | Tuple es kk p =>
      obtain ⟨d1, d2⟩ := and2 (show (decide (is.length = es.length) && _) = true from h)
      have hl := of_decide_eq_true d1
      have p1 := names_sound g is es hl d2
      refine
            ⟨fun pins s σ H v u Q I r hw => ?_⟩
      obtain ⟨ρ, hh, x, P, sl, hr, rx, w, q⟩ := hw
      obtain ⟨xs, rfl, el, w⟩ := w
      obtain ⟨a, vs, ev, sq, rl⟩ := rep_tup rx
      have len : (assignEach es X.env).length = is.length := by
        rw [hl]
        clear h d1 d2 p1 hl
        induction es with
        | nil => rfl
        | cons e es ih => cases e <;> (show (_ :: assignEach es X.env).length = _; rw [List.length_cons, List.length_cons, ih])
      have nst : (assignEach es X.env).findIdx? (·.1) = none := by
        have q : ∀ (is : List Nat) (es : List Expr), is.length = es.length → (is.zip es).all (nmB N sc) = true → (assignEach es X.env).findIdx? (·.1) = none := by
          intro is
          induction is with
          | nil => intro es hl _; cases es with
            | nil => rfl
            | cons _ _ => cases hl
          | cons i is ih => intro es hl hc; cases es with
            | nil => cases hl
            | cons e es =>
              have hc2 : (nmB N sc (i, e) && (is.zip es).all (nmB N sc)) = true := hc
              obtain ⟨c1, c2⟩ := and2 hc2
              cases e with
              | Name x p =>
                show ((false, _) :: assignEach es X.env).findIdx? (·.1) = none
                rw [List.findIdx?_cons, ih es (by simpa using hl) c2]
                rfl
              | _ => cases c1
        exact q is es hl d2
      refine (pg_tup (n := is.length) g.calm p1 len nst).run pins s σ H v u Q I r ⟨a, vs, ev, by rw [g.K]; exact sq, by rw [← rl.length]; exact el, ρ, hh, xs, sl, hr, rl, el, fun σ' s' z => q σ' _ s' z w⟩
    | _ => cases h
end
end Vc
/-! Vc9: what is walked. -/
namespace Vc
open PySem L2 PyProof.Rows

/-- a locked dict given back -/
def Unl (X : Cx) (H H' : Hp) : Prop := H' = H ∨ ∃ d od u, cont u ∧ H d = some (.frz od u) ∧ (∀ o' u', X.H_0 d ≠ some (.frz o' u')) ∧ H' = upd H d u
section
variable {X : Cx} {pins : List (Addr × Obj)} {σ : L2.St} {H H' : Hp} {s : Shared}
theorem Inv.unl (I : L2.Inv X pins σ H s) (u : Unl X H H') : L2.Inv X pins σ H' s := by
  rcases u with rfl | ⟨d, od, u, _, e, n, rfl⟩
  · exact I
  · exact I.unlock e n
theorem pe_unl {e : Expr} {t : TE} (p : PE X e t) : PE X e (fun σ H Q => t σ H fun v H' => ∃ H2, Unl X H' H2 ∧ Q v H2) := ⟨fun pins s σ H Q I q =>
  thn (p.run pins s σ H _ I q) fun u s1 ⟨x, H1, I1, r1, H2, un, q2⟩ => ⟨x, H2, Inv.unl I1 un, r1, q2⟩⟩
def UnlD (X : Cx) (D : Ends) : Ends where
  nx := fun σ H => ∃ H2, Unl X H H2 ∧ D.nx σ H2
  rt := fun v H => ∃ H2, Unl X H H2 ∧ D.rt v H2
  bk := fun σ H => ∃ H2, Unl X H H2 ∧ D.bk σ H2
  ct := fun σ H => ∃ H2, Unl X H H2 ∧ D.ct σ H2
theorem ps_unl {st : Stmt} {t : TS} (p : PS X st t) : PS X st (fun D σ H => t (UnlD X D) σ H) := ⟨fun pins s σ H D I q =>
  thn (p.run pins s σ H _ I q) fun f s1 h1 => by
    cases f with
    | next => obtain ⟨σ', H1, I1, H2, un, q2⟩ := h1; exact ⟨σ', H2, Inv.unl I1 un, q2⟩
    | brk => obtain ⟨σ', H1, I1, H2, un, q2⟩ := h1; exact ⟨σ', H2, Inv.unl I1 un, q2⟩
    | cont => obtain ⟨σ', H1, I1, H2, un, q2⟩ := h1; exact ⟨σ', H2, Inv.unl I1 un, q2⟩
    | ret v => obtain ⟨x, σ', H1, I1, r1, H2, un, q2⟩ := h1; exact ⟨x, σ', H2, Inv.unl I1 un, r1, q2⟩⟩
/-- the dict that has come is locked, if it isn't yet -/
def lockA (X : Cx) (t : TE) : TE := fun σ H Q => t σ H fun x H1 => ∃ d, x = .ref d ∧ ((∃ u, H1 d = some u ∧ Mut (some u) ∧ ∀ od, (∀ o' u', X.H_0 d ≠ some (.frz o' u')) → Q x (upd H1 d (.frz od u))) ∨ ∃ od u, H1 d = some (.frz od u) ∧ Q x H1)
theorem pe_lockA {e : Expr} {t : TE} (p : PE X e t) : PE X e (lockA X t) := ⟨fun pins s σ H Q I q =>
  thn (p.run pins s σ H _ I q) fun u s1 ⟨x, H1, I1, r1, d, ed, q1⟩ => by
    rcases q1 with ⟨u, eu, mu, q1⟩ | ⟨od, u, eu, q1⟩
    · obtain ⟨od, I2⟩ := I1.lock eu mu
      exact ⟨x, _, I2, r1, q1 od (I1.nofrz eu mu)⟩
    · exact ⟨x, H1, I1, r1, q1⟩⟩
theorem pi_imp {tg it : Expr} {w w' : TI} (p : PI X tg it w) (h : ∀ σ H R, w' σ H R → w σ H R) : PI X tg it w' := ⟨fun pins s σ H R I q => p.run pins s σ H R I (h σ H R q)⟩
theorem pi_or {tg it : Expr} {w w' : TI} (p : PI X tg it w) (p' : PI X tg it w') : PI X tg it (fun σ H R => w σ H R ∨ w' σ H R) := ⟨fun pins s σ H R I q => q.elim (p.run pins s σ H R I) (p'.run pins s σ H R I)⟩
end
section
variable (G : Cfg) (Γ : Fns) (W : WX) (U : Hp → Hp → Prop)
/-- the iterator yields these, as long as stb -/
def IterRep (H : Hp) (h : CH) (J : It) (xs : List Val) (stb : CH → Prop) : Prop := ∀ H' h', Fro h H h' H' → HRep G H' h' → stb h' →
  (∀ (i : Nat) (x : Val), xs[i]? = some x → J.go i H' ∧ ∀ v H'', J.yld i H' v H'' → RepV G H'' h' x v ∧ HRep G H'' h' ∧ Fra h' H' h' H'') ∧ J.stop xs.length H'
/-- behind the walk -/
def Back (h : CH) (H : Hp) (h1 : CH) (H1 : Hp) : Prop := ∀ hf Hf, Fra h1 H1 hf Hf → HRep G Hf hf → ∃ Hf', U Hf Hf' ∧ Fra h H hf Hf' ∧ HRep G Hf' hf ∧ Kept hf Hf hf Hf'
def rI (m : I) : TI := fun σ H R => ∃ ρ h K Xp, Ok G σ ρ H h ∧ wpI Γ m ρ h K Xp ∧ FinX G W σ h H Xp ∧
  ∀ J H1 h1 xs stb, HRep G H1 h1 → Kept h H h1 H1 → IterRep G H1 h1 J xs stb → Back G U h H h1 H1 → K xs stb h1 → R J H1
end
section
variable {G : Cfg} {Γ : Fns} {N : List Str} {sc : Scope} {W : WX} {k : Nat} {X : Cx} {tg : Expr} {h h1 : CH} {H H1 : Hp}
theorem Kept.refl : Kept h H h H := ⟨fun _ _ n e => ⟨e, n⟩, fun _ _ _ n e => ⟨e, n⟩, fun _ _ _ _ n e => ⟨e, n⟩⟩
theorem back_fra {U : Hp → Hp → Prop} (hU : ∀ H, U H H) (f : Fra h H h1 H1) : Back G U h H h1 H1 := fun hf Hf f2 hr => ⟨Hf, hU _, f.trans f2, hr, Kept.refl⟩
theorem unl_refl (H : Hp) : Unl X H H := .inl rfl
theorem iter_tup {a : Addr} {xs : List Val} (r : RepV G H h (.tup xs) (.ref a)) (hK : X.K = G.K) : IterRep G H h (Itt X.K a) xs always := fun H' h' f hr _ => by
  have r2 := RepV.mono f.kept _ _ r
  obtain ⟨b, vs, e, sq, rl⟩ := rep_tup r2
  cases e
  rw [hK]
  refine ⟨fun i x hx => ?_, ⟨vs, sq, by rw [rl.length]; exact Nat.le_refl _⟩⟩
  obtain ⟨v, hv, rv⟩ := rl.get hx
  refine ⟨⟨vs, v, sq, hv⟩, fun u H'' ⟨e, y⟩ => ?_⟩
  subst e
  have e2 := y vs sq
  rw [hv] at e2
  cases e2
  exact ⟨rv, hr, Fra.refl⟩
theorem iter_lst {a : Addr} {xs : List Val} (r : RepV G H h (.lst xs) (.ref a)) (hK : X.K = G.K) : IterRep G H h (Itl X.K a) xs always := fun H' h' f hr _ => by
  have r2 := RepV.mono f.kept _ _ r
  obtain ⟨b, vs, e, sq, rl⟩ := rep_lst r2
  cases e
  rw [hK]
  refine ⟨fun i x hx => ?_, ⟨vs, sq, by rw [rl.length]; exact Nat.le_refl _⟩⟩
  obtain ⟨v, hv, rv⟩ := rl.get hx
  refine ⟨⟨vs, v, sq, hv⟩, fun u H'' ⟨e, y⟩ => ?_⟩
  subst e
  have e2 := y vs sq
  rw [hv] at e2
  cases e2
  exact ⟨rv, hr, Fra.refl⟩
theorem iter_ref {a : Addr} {xs : List Val} (hK : X.K = G.K) : IterRep G H h (Itl X.K a) xs (fun h' => h' a = some (.lst xs)) := fun H' h' f hr st => by
  obtain ⟨vs, e, rl⟩ := hr a _ st
  rw [hK]
  refine ⟨fun i x hx => ?_, ⟨vs, SqL.of e, by rw [rl.length]; exact Nat.le_refl _⟩⟩
  obtain ⟨v, hv, rv⟩ := rl.get hx
  refine ⟨⟨vs, v, SqL.of e, hv⟩, fun u H'' ⟨e1, y⟩ => ?_⟩
  subst e1
  have e2 := y vs (SqL.of e)
  rw [hv] at e2
  cases e2
  exact ⟨rv, hr, Fra.refl⟩
/-- a list or a tuple is walked -/
theorem pi_seq {e : Expr} {t : TE} (p : PE X e t) : PI X tg e (fun σ H R => t σ H fun x H1 => ∃ a, x = .ref a ∧ (((∃ xs, SqL X.K H1 a xs) ∧ R (Itl X.K a) H1) ∨ ((∃ xs, SqT X.K H1 a xs) ∧ R (Itt X.K a) H1))) := by
  refine ⟨fun pins s σ H R I w => thn (p.run pins s σ H _ I w) fun v s1 ⟨x, H1, I1, r1, a, ex, q⟩ => ?_⟩
  subst ex
  cases r1
  have fp : ∀ b ∈ [s1.heap.objs.size], FpOk X pins H1 b := fun b hb => by
    have eb : b = s1.heap.objs.size := by simpa using hb
    rw [eb]
    exact
          I1.fpOk (Nat.le_refl _) (I1.hok.fresh (Nat.le_refl _))
  rcases q with ⟨⟨xs, hq⟩, q⟩ | ⟨⟨xs, hq⟩, q⟩
  · obtain ⟨its, rv, pl, hz⟩ := I1.list hq
    exact wpAny_pyIter_list pl.isList ⟨_, _, _, _, H1, rfl, I1.kept (t' := s1.toks) fun b o e => Heap.get?_push_of_some _ e, turn_list a _, ⟨_, Heap.get?_push_size _ rfl, rfl, rfl⟩, fp, q⟩
  · obtain ⟨its, rv, pl, hz⟩ := I1.tuple hq
    exact wpAny_pyIter_tuple (show s1.heap.IsTuple a its.toArray from pl) ⟨_, _, _, _, H1, rfl, I1.kept (t' := s1.toks) fun b o e => Heap.get?_push_of_some _ e, turn_tuple a _, ⟨_, Heap.get?_push_size _ rfl, rfl, rfl⟩, fp, q⟩
theorem it_sq {U : Hp → Hp → Prop} (hU : ∀ H, U H H) (hK : X.K = G.K) {e : Expr} {m : E} (p : PE X e (rE G Γ W m)) : PI X tg e (rI G Γ W U (.sq m)) := by
  refine pi_imp (pi_seq p) fun σ H R ⟨ρ, h, K, Xp, o, w, fx, q⟩ => one o w fx fun x v H2 h2 rx hr f w => ?_
  cases x with
  | tup xs =>
    obtain ⟨a, vs, e, sq, rl⟩ := rep_tup rx
    subst e
    exact ⟨a, rfl, .inr ⟨⟨vs, by rw [hK]; exact sq⟩, q _ H2 h2 xs always hr f.kept (iter_tup rx hK) (back_fra hU f) w⟩⟩
  | lst xs =>
    obtain ⟨a, vs, e, sq, rl⟩ := rep_lst rx
    subst e
    exact ⟨a, rfl, .inl ⟨⟨vs, by rw [hK]; exact sq⟩, q _ H2 h2 xs always hr f.kept (iter_lst rx hK) (back_fra hU f) w⟩⟩
  | ref a =>
    obtain ⟨xs, e, w⟩ := w
    cases rx
    obtain ⟨vs, e2, rl⟩ := hr a _ e
    exact ⟨a, rfl, .inl ⟨⟨vs, SqL.of e2⟩, q _ H2 h2 xs _ hr f.kept (iter_ref hK) (back_fra hU f) w⟩⟩
  | _ => exact w.elim
theorem iter_rng {lo : Int} {n : Nat} : IterRep G H h (Itr lo n) (rngV lo n) always := fun H' h' f hr _ => by
  refine ⟨fun i x hx => ?_, by show n ≤ (rngV lo n).length; unfold rngV; simp⟩
  unfold rngV at hx
  rw [List.getElem?_map] at hx
  have hi : i < n := by
    by_cases c : i < n
    · exact c
    · rw [List.getElem?_eq_none (by simp; omega)] at hx; cases hx
  rw [List.getElem?_range hi] at hx
  cases hx
  refine ⟨hi, fun v H'' ⟨e, ev⟩ => ?_⟩
  subst e ev
  exact ⟨rfl, hr, Fra.refl⟩
theorem it_rg {U : Hp → Hp → Prop} (hU : ∀ H, U H H) (g : Gd G Γ N sc W k X) {e : Expr} {m : E} {p1 p2 : Pos} (p : PE X e (rE G Γ W m)) (pl : plainE e = true) (hg : glB sc "range" = true) : PI X tg (.Call (.Name "range" p1) [e] [] p2) (rI G Γ W U (.rg m)) := by
  have st : starEach [e] X.env = [(false, eval e X.env)] := by rw [star_plain pl]; rfl
  refine pi_imp (pi_range1 (g.gl hg) (g.tab.bl _ (by decide)) (pa_cons p pa_nil (star_plain pl)) st) fun σ H R ⟨ρ, h, K, Xp, o, w, fx, q⟩ => one o w fx fun x v H2 h2 rx hr f w => ?_
  obtain ⟨i, rfl, ⟨b1, b2⟩, w⟩ := w
  exact ⟨i, by rw [show v = V.int i from rx], b1, b2, q _ H2 h2 _ always hr f.kept iter_rng (back_fra hU f) w⟩
theorem it_rg2 {U : Hp → Hp → Prop} (hU : ∀ H, U H H) (g : Gd G Γ N sc W k X) {a b : Expr} {ma mb : E} {p1 p2 : Pos} (pa : PE X a (rE G Γ W ma)) (pb : PE X b (rE G Γ W mb)) (pla : plainE a = true) (plb : plainE b = true) (hg : glB sc "range" = true) : PI X tg (.Call (.Name "range" p1) [a, b] [] p2) (rI G Γ W U (.rg2 ma mb)) := by
  have st2 : starEach [b] X.env = [(false, eval b X.env)] := by rw [star_plain plb]; rfl
  have st : starEach [a, b] X.env = [(false, eval a X.env), (false, eval b X.env)] := by rw [star_plain pla, st2]
  refine pi_imp (pi_range2 (g.gl hg) (g.tab.bl _ (by decide)) (pa_cons pa (pa_cons pb pa_nil (star_plain plb)) (star_plain pla)) st st2) fun σ H R ⟨ρ, h, K, Xp, o, w, fx, q⟩ => ?_
  refine two o w fx fun x y v u H2 h2 rx ry hr f w => ?_
  obtain ⟨i, j, rfl, rfl, ⟨b1, b2⟩, ⟨b3, b4⟩, w⟩ := w
  exact ⟨i, j, by rw [show v = V.int i from rx, show u = V.int j from ry], ⟨b1, b2, b3, b4⟩, q _ H2 h2 _ always hr f.kept iter_rng (back_fra hU f) w⟩
theorem rep_pair {x y : Val} {v u : V} {p : Addr} (rx : RepV G H h x v) (ry : RepV G H h y u) (hr : HRep G H h) (n : H p = none) : RepV G (upd H p (.tup [v, u])) h (.tup [x, y]) (.ref p) :=
  rep_newT (RepL.cons rx (RepL.cons ry RepL.nil)) hr n
theorem iter_enum {a : Addr} {xs : List Val} (r : RepV G H h (.lst xs) (.ref a)) (hK : X.K = G.K) : IterRep G H h (Ite X.K a) (enumV xs) always := fun H' h' f hr _ => by
  have r2 := RepV.mono f.kept _ _ r
  obtain ⟨b, vs, e, sq, rl⟩ := rep_lst r2
  cases e
  rw [hK]
  refine ⟨fun i x hx => ?_, ⟨vs, sq, by unfold enumV; rw [List.length_mapIdx, rl.length]; exact Nat.le_refl _⟩⟩
  unfold enumV at hx
  rw [List.getElem?_mapIdx] at hx
  cases e0 : xs[i]? with
  | none => rw [e0] at hx; cases hx
  | some y =>
    rw [e0] at hx
    cases hx
    obtain ⟨v, hv, rv⟩ := rl.get e0
    refine ⟨⟨vs, v, sq, hv⟩, fun u H'' ⟨T, z, eu, nT, eH, y⟩ => ?_⟩
    subst eu eH
    have e2 := y vs sq
    rw [hv] at e2
    cases e2
    exact ⟨rep_pair (x := .int (i : Nat)) rfl rv hr nT, hr.new nT, Fra.new nT (hr.gone nT)⟩
theorem it_en {U : Hp → Hp → Prop} (hU : ∀ H, U H H) (g : Gd G Γ N sc W k X) {e : Expr} {m : E} {p1 p2 : Pos} (p : PE X e (rE G Γ W m)) (pl : plainE e = true) (hg : glB sc "enumerate" = true) (ht : isTup tg = true) : PI X tg (.Call (.Name "enumerate" p1) [e] [] p2) (rI G Γ W U (.en m)) := by
  have st : starEach [e] X.env = [(false, eval e X.env)] := by rw [star_plain pl]; rfl
  cases tg with
  | Tuple elts kk tp =>
    refine pi_imp (pi_enum (g.gl hg) (g.tab.bl _ (by decide)) (pa_cons p pa_nil (star_plain pl)) st) fun σ H R ⟨ρ, h, K, Xp, o, w, fx, q⟩ => one o w fx fun x v H2 h2 rx hr f w => ?_
    obtain ⟨xs, rfl, w⟩ := w
    obtain ⟨a, vs, e, sq, rl⟩ := rep_lst rx
    subst e
    exact ⟨a, vs, rfl, by rw [g.K]; exact sq, q _ H2 h2 _ always hr f.kept (iter_enum rx g.K) (back_fra hU f) w⟩
  | _ => cases ht
theorem iter_rev {a : Addr} {xs : List Val} (r : RepV G H h (.lst xs) (.ref a)) (hK : X.K = G.K) : IterRep G H h (Itv X.K a xs.length) xs.reverse always := fun H' h' f hr _ => by
  have r2 := RepV.mono f.kept _ _ r
  obtain ⟨b, vs, e, sq, rl⟩ := rep_lst r2
  cases e
  rw [hK]
  refine ⟨fun i x hx => ?_, by show xs.length ≤ xs.reverse.length; rw [List.length_reverse]; exact Nat.le_refl _⟩
  have hi : i < xs.length := by
    have := (List.getElem?_eq_some_iff.mp hx).1
    rwa [List.length_reverse] at this
  rw [List.getElem?_reverse hi] at hx
  obtain ⟨v, hv, rv⟩ := rl.get hx
  refine ⟨⟨hi, vs, v, sq, hv⟩, fun u H'' ⟨e1, y⟩ => ?_⟩
  subst e1
  have e2 := y vs sq
  rw [hv] at e2
  cases e2
  exact ⟨rv, hr, Fra.refl⟩
theorem it_rv {U : Hp → Hp → Prop} (hU : ∀ H, U H H) (g : Gd G Γ N sc W k X) {e : Expr} {m : E} {p1 p2 : Pos} (p : PE X e (rE G Γ W m)) (pl : plainE e = true) (hg : glB sc "reversed" = true) : PI X tg (.Call (.Name "reversed" p1) [e] [] p2) (rI G Γ W U (.rv m)) := by
  have st : starEach [e] X.env = [(false, eval e X.env)] := by rw [star_plain pl]; rfl
  refine pi_imp (pi_reversed (g.gl hg) (g.tab.bl _ (by decide)) (pa_cons p pa_nil (star_plain pl)) st) fun σ H R ⟨ρ, h, K, Xp, o, w, fx, q⟩ => one o w fx fun x v H2 h2 rx hr f w => ?_
  obtain ⟨xs, rfl, w⟩ := w
  obtain ⟨a, vs, e, sq, rl⟩ := rep_lst rx
  subst e
  exact ⟨a, vs, rfl, by rw [g.K]; exact sq, by rw [← rl.length]; exact q _ H2 h2 _ always hr f.kept (iter_rev rx g.K) (back_fra hU f) w⟩
theorem iter_zip {a b : Addr} {xs ys : List Val} (r : RepV G H h (.lst xs) (.ref a)) (r' : RepV G H h (.lst ys) (.ref b)) (hK : X.K = G.K) : IterRep G H h (Itz X.K a b) (List.zipWith (fun x y => .tup [x, y]) xs ys) always := fun H' h' f hr _ => by
  obtain ⟨c, vs, e, sq, rl⟩ := rep_lst (RepV.mono f.kept _ _ r)
  cases e
  obtain ⟨c, us, e, sq', rl'⟩ := rep_lst (RepV.mono f.kept _ _ r')
  cases e
  rw [hK]
  refine ⟨fun i x hx => ?_, ⟨vs, us, sq, sq', by rw [List.length_zipWith, ← rl.length, ← rl'.length]; omega⟩⟩
  rw [List.getElem?_zipWith] at hx
  cases e1 : xs[i]? with
  | none => rw [e1] at hx; cases hx
  | some y =>
    cases e2 : ys[i]? with
    | none => rw [e1, e2] at hx; cases hx
    | some z =>
      rw [e1, e2] at hx
      cases hx
      obtain ⟨v, hv, rv⟩ := rl.get e1
      obtain ⟨u, hu, ru⟩ := rl'.get e2
      refine ⟨⟨vs, us, v, u, sq, sq', hv, hu⟩, fun t H'' ⟨T, z1, z2, eu, nT, eH, y1, y2⟩ => ?_⟩
      subst eu eH
      have f1 := y1 vs sq
      have f2 := y2 us sq'
      rw [hv] at f1
      rw [hu] at f2
      cases f1
      cases f2
      exact ⟨rep_pair rv ru hr nT, hr.new nT, Fra.new nT (hr.gone nT)⟩
theorem it_zp {U : Hp → Hp → Prop} (hU : ∀ H, U H H) (g : Gd G Γ N sc W k X) {a b : Expr} {ma mb : E} {p1 p2 : Pos} (pa : PE X a (rE G Γ W ma)) (pb : PE X b (rE G Γ W mb)) (pla : plainE a = true) (plb : plainE b = true) (hg : glB sc "zip" = true) (ht : isTup tg = true) : PI X tg (.Call (.Name "zip" p1) [a, b] [] p2) (rI G Γ W U (.zp ma mb)) := by
  have st2 : starEach [b] X.env = [(false, eval b X.env)] := by rw [star_plain plb]; rfl
  cases tg with
  | Tuple elts kk tp =>
    refine pi_imp (pi_zip (g.gl hg) (g.tab.bl _ (by decide)) (pa_cons pa (pa_cons pb pa_nil (star_plain plb)) (star_plain pla)) (star_plain pla) (by rw [st2]; rfl)) fun σ H R ⟨ρ, h, K, Xp, o, w, fx, q⟩ => two o w fx fun x y v u H2 h2 rx ry hr f w => ?_
    obtain ⟨xs, ys, rfl, rfl, w⟩ := w
    obtain ⟨a, vs, e, sq, rl⟩ := rep_lst rx
    subst e
    obtain ⟨b, us, e, sq', rl'⟩ := rep_lst ry
    subst e
    exact ⟨a, b, vs, us, rfl, by rw [g.K]; exact sq, by rw [g.K]; exact sq', q _ H2 h2 _ always hr f.kept (iter_zip rx ry g.K) (back_fra hU f) w⟩
  | _ => cases ht
/-! ### dicts -/
theorem kept_lock {d : Addr} {od : Obj} {u : HO} (cu : cont u) (nt : ∀ vs, u ≠ .tup vs) (e : H d = some u) : Kept h H h (upd H d (.frz od u)) where
  t := fun a vs n q => by
    have ne : a ≠ d := fun z => by rw [z, e] at q; exact nt vs (Option.some.inj q)
    exact ⟨by rw [upd_ne ne]; exact q, n⟩
  c := fun a w cw n q => by
    refine ⟨?_, n⟩
    by_cases z : a = d
    · subst z
      rcases q with q | ⟨o, q⟩
      · rw [e] at q
        cases q
        exact .inr ⟨od, upd_same⟩
      · rw [e] at q
        cases q
        exact cu.elim
    · rcases q with q | ⟨o, q⟩
      · exact .inl (by rw [upd_ne z]; exact q)
      · exact .inr ⟨o, by rw [upd_ne z]; exact q⟩
  i := fun a C dx vs n q => by
    have ne : a ≠ d := fun z => by rw [z, e] at q; cases q; exact cu
    exact ⟨by rw [upd_ne ne]; exact q, n⟩
theorem kept_unlock {d : Addr} {od : Obj} {u : HO} (cu : cont u) (e : H d = some (.frz od u)) : Kept h H h (upd H d u) where
  t := fun a vs n q => by
    have ne : a ≠ d := fun z => by rw [z, e] at q; cases q
    exact ⟨by rw [upd_ne ne]; exact q, n⟩
  c := fun a w cw n q => by
    refine ⟨?_, n⟩
    by_cases z : a = d
    · subst z
      rcases q with q | ⟨o, q⟩
      · rw [e] at q
        cases q
        exact cw.elim
      · rw [e] at q
        cases q
        exact .inl upd_same
    · rcases q with q | ⟨o, q⟩
      · exact .inl (by rw [upd_ne z]; exact q)
      · exact .inr ⟨o, by rw [upd_ne z]; exact q⟩
  i := fun a C dx vs n q => by
    have ne : a ≠ d := fun z => by rw [z, e] at q; cases q
    exact ⟨by rw [upd_ne ne]; exact q, n⟩
theorem HRep.kept {H' : Hp} (r : HRep G H h) (k : Kept h H h H') (e : ∀ a x, h a = some x → H' a = H a) : HRep G H' h := fun a x q => (r a x q).mono k (e a x q)
/-- a dict that is not ours, locked: what stands, what comes back -/
theorem lock_dict {d : Addr} {u : HO} (f : Fra h H h1 H1) (hr : HRep G H1 h1) (cu : cont u) (nt : ∀ vs, u ≠ .tup vs) (n : h1 d = none) (e : H1 d = some u) (od : Obj) (nf : ∀ o' u', X.H_0 d ≠ some (.frz o' u')) :
    HRep G (upd H1 d (.frz od u)) h1 ∧ Kept h H h1 (upd H1 d (.frz od u)) ∧ Back G (Unl X) h H h1 (upd H1 d (.frz od u)) := by
  have k1 : Kept h1 H1 h1 (upd H1 d (.frz od u)) := kept_lock cu nt e
  refine ⟨hr.kept k1 (fun a x q => upd_ne fun z => by rw [z, n] at q; cases q), ⟨fun a vs na q => ?_, fun a w cw na q => ?_, fun a C dx vs na q => ?_⟩, fun hf Hf f2 hrf => ?_⟩
  · obtain ⟨q1, n1⟩ := f.kept.t a vs na q
    exact k1.t a vs n1 q1
  · obtain ⟨q1, n1⟩ := f.kept.c a w cw na q
    exact k1.c a w cw n1 q1
  · obtain ⟨q1, n1⟩ := f.kept.i a C dx vs na q
    exact k1.i a C dx vs n1 q1
  · obtain ⟨e2, n2⟩ := f2.f d n _ upd_same
    have k2 : Kept hf Hf hf (upd Hf d u) := kept_unlock cu e2
    refine ⟨upd Hf d u, .inr ⟨d, od, u, cu, e2, nf, rfl⟩, ⟨fun a na o q => ?_, fun a ja => ?_⟩, hrf.kept k2 (fun a x q => upd_ne fun z => by rw [z, n2] at q; cases q), k2⟩
    · obtain ⟨q1, n1⟩ := f.f a na o q
      by_cases z : a = d
      · subst z
        rw [e] at q1
        cases q1
        exact ⟨upd_same, n2⟩
      · obtain ⟨q2, n3⟩ := f2.f a n1 o (by rw [upd_ne z]; exact q1)
        exact ⟨by rw [upd_ne z]; exact q2, n3⟩
    · obtain ⟨q1, n1⟩ := f.j a ja
      have z : a ≠ d := fun z => by rw [z, n] at n1; cases n1
      obtain ⟨q2, n3⟩ := f2.j a n1
      rw [upd_ne z] at q2
      exact ⟨by rw [upd_ne z, q2, q1], n3⟩
/-- what a locked dict yields -/
theorem dct_locked {d : Addr} {od : Obj} {vs : List (Key × V)} {kvs : List (Key × Val)} (e : H d = some (.frz od (.dK vs))) (n : h d = none) (rk : RepK G H h kvs vs) :
    IterRep G H h (Itk d od vs) (kvs.map fun p => kval p.1) always ∧ IterRep G H h (Itd d od vs) (kvs.map fun p => p.2) always ∧ IterRep G H h (Iti d od vs) (kvs.map fun p => .tup [kval p.1, p.2]) always := by
  have key : ∀ (k : Key) {H' : Hp} {h' : CH}, RepV G H' h' (kval k) (kV k) := fun k H' h' => by cases k <;> rfl
  have ent : ∀ {kvs : List (Key × Val)} {vs : List (Key × V)} {H' : Hp} {h' : CH} (i : Nat), RepK G H' h' kvs vs → (∀ p, kvs[i]? = some p → ∃ v, vs[i]? = some (p.1, v) ∧ RepV G H' h' p.2 v) := by
    intro kvs
    induction kvs with
    | nil => intro vs H' h' i r p hp; simp at hp
    | cons q qs ih =>
      intro vs H' h' i r p hp
      obtain ⟨a, b⟩ := q
      obtain ⟨v, t, e1, q1, s1⟩ := r
      cases i with
      | zero =>
        have : (a, b) = p := by simpa using hp
        subst this
        exact ⟨v, by rw [e1]; rfl, q1⟩
      | succ i =>
        obtain ⟨u, h1, h2⟩ := ih i s1 p (by simpa using hp)
        exact ⟨u, by rw [e1]; simpa using h1, h2⟩
  refine ⟨fun H' h' f hr _ => ?_, fun H' h' f hr _ => ?_, fun H' h' f hr _ => ?_⟩ <;>
    have e' := (f d n _ e).1 <;> have rk' := RepK.mono f.kept _ _ rk <;> have hl := rk'.length
  · refine ⟨fun i x hx => ?_, ⟨e', by rw [List.length_map, hl]; exact Nat.le_refl _⟩⟩
    rw [List.getElem?_map] at hx
    cases e0 : kvs[i]? with
    | none => rw [e0] at hx; cases hx
    | some p =>
      rw [e0] at hx
      cases hx
      obtain ⟨v, hv, rv⟩ := ent i rk' p e0
      refine ⟨⟨e', (List.getElem?_eq_some_iff.mp hv).1⟩, fun u H'' ⟨e1, k, w, ek, eu⟩ => ?_⟩
      subst e1 eu
      rw [hv] at ek
      cases ek
      exact ⟨key _, hr, Fra.refl⟩
  · refine ⟨fun i x hx => ?_, ⟨e', by rw [List.length_map, hl]; exact Nat.le_refl _⟩⟩
    rw [List.getElem?_map] at hx
    cases e0 : kvs[i]? with
    | none => rw [e0] at hx; cases hx
    | some p =>
      rw [e0] at hx
      cases hx
      obtain ⟨v, hv, rv⟩ := ent i rk' p e0
      refine ⟨⟨e', (List.getElem?_eq_some_iff.mp hv).1⟩, fun u H'' ⟨e1, k, ek⟩ => ?_⟩
      subst e1
      rw [hv] at ek
      cases ek
      exact ⟨rv, hr, Fra.refl⟩
  · refine ⟨fun i x hx => ?_, ⟨e', by rw [List.length_map, hl]; exact Nat.le_refl _⟩⟩
    rw [List.getElem?_map] at hx
    cases e0 : kvs[i]? with
    | none => rw [e0] at hx; cases hx
    | some p =>
      rw [e0] at hx
      cases hx
      obtain ⟨v, hv, rv⟩ := ent i rk' p e0
      refine ⟨⟨e', (List.getElem?_eq_some_iff.mp hv).1⟩, fun u H'' ⟨T, k, w, ek, eu, nT, eH⟩ => ?_⟩
      subst eu eH
      rw [hv] at ek
      cases ek
      exact ⟨rep_pair (key _) rv hr nT, hr.new nT, Fra.new nT (hr.gone nT)⟩
/-- locking behind the expression, for a dict that is not ours -/
theorem dct_go {m : E} {σ : L2.St} {H : Hp} {R : It → Hp → Prop} {ρ : Env} {h : CH} {Xp : XP} {F : List (Key × Val) → List Val} {J : Addr → Obj → List (Key × V) → It} {K : List Val → (CH → Prop) → CH → Prop}
    (o : Ok G σ ρ H h) (w : wpE Γ m ρ h (fun x h1 => ∃ kvs, x = .dct kvs ∧ K (F kvs) always h1) Xp) (fx : FinX G W σ h H Xp)
    (hit : ∀ {H1 h1 d od vs kvs}, H1 d = some (.frz od (.dK vs)) → h1 d = none → RepK G H1 h1 kvs vs → IterRep G H1 h1 (J d od vs) (F kvs) always)
    (q : ∀ J H1 h1 xs stb, HRep G H1 h1 → Kept h H h1 H1 → IterRep G H1 h1 J xs stb → Back G (Unl X) h H h1 H1 → K xs stb h1 → R J H1) :
    lockA X (rE G Γ W m) σ H fun x H1 => ∃ d od vs, x = .ref d ∧ H1 d = some (.frz od (.dK vs)) ∧ R (J d od vs) H1 := by
  refine one o w fx fun x v H2 h2 rx hr f w => ?_
  obtain ⟨kvs, rfl, w⟩ := w
  obtain ⟨d, vs, ev, ⟨rd, n⟩, rk⟩ := rx
  subst ev
  refine ⟨d, rfl, ?_⟩
  rcases rd with e | ⟨od, e⟩
  · refine .inl ⟨_, e, trivial, fun od nf => ⟨d, od, vs, rfl, upd_same, ?_⟩⟩
    obtain ⟨h1, h2', h3⟩ := lock_dict (X := X) f hr (u := .dK vs) trivial (fun vs z => by cases z) n e od nf
    exact q _ _ h2 _ _ h1 h2' (hit upd_same n (RepK.mono (kept_lock (u := .dK vs) trivial (fun vs z => by cases z) e) _ _ rk)) h3 w
  · exact .inr ⟨od, _, e, d, od, vs, rfl, e, q _ _ h2 _ _ hr f.kept (hit e n rk) (back_fra unl_refl f) w⟩
theorem it_dk {e : Expr} {m : E} (p : PE X e (rE G Γ W m)) : PI X tg e (rI G Γ W (Unl X) (.dk m)) := by
  refine pi_imp (pi_keys (pe_lockA p)) fun σ H R ⟨ρ, h, K, Xp, o, w, fx, q⟩ => ?_
  have z := dct_go (X := X) (m := m) (R := R) (K := K) (F := fun kvs => kvs.map fun (p : Key × Val) => kval p.1) (J := Itk) o w fx (fun e n rk => (dct_locked e n rk).1) q
  refine (?_ : lockA X (rE G Γ W m) σ H _)
  obtain ⟨ρ', h', Q, Xp', o', w', fn, fx'⟩ := z
  refine ⟨ρ', h', Q, Xp', o', w', fun v H' x h' rx hr f qq => ?_, fx'⟩
  obtain ⟨d, ed, c⟩ := fn v H' x h' rx hr f qq
  refine ⟨d, ed, c.imp (fun ⟨u, e1, mu, c⟩ => ⟨u, e1, mu, fun od nf => ?_⟩) (fun ⟨od, u, e1, c⟩ => ⟨od, u, e1, ?_⟩)⟩
  · obtain ⟨d', od', vs, e2, e3, r⟩ := c od nf
    exact ⟨d', od', e2, .inl ⟨vs, e3, r⟩⟩
  · obtain ⟨d', od', vs, e2, e3, r⟩ := c
    exact ⟨d', od', e2, .inl ⟨vs, e3, r⟩⟩
theorem ent_p {G : Cfg} : ∀ {kvs : List (List Key × Val)} {vs : List (List Key × V)} {H' : Hp} {h' : CH} (i : Nat), RepP G H' h' kvs vs → ∀ p, kvs[i]? = some p → ∃ v, vs[i]? = some (p.1, v) ∧ RepV G H' h' p.2 v
  | [], vs, H', h', i, r, p, hp => by simp at hp
  | (a, b) :: qs, vs, H', h', i, ⟨v, t, e1, q1, s1⟩, p, hp => by
    cases i with
    | zero =>
      have : (a, b) = p := by simpa using hp
      subst this
      exact ⟨v, by rw [e1]; rfl, q1⟩
    | succ i =>
      obtain ⟨u, h1, h2⟩ := ent_p i s1 p (by simpa using hp)
      exact ⟨u, by rw [e1]; simpa using h1, h2⟩
theorem rep_kvals {G : Cfg} {H : Hp} {h : CH} : ∀ ks : List Key, RepL G H h (ks.map kval) (ks.map kV)
  | [] => rfl
  | k :: ks => ⟨_, _, rfl, by cases k <;> rfl, rep_kvals ks⟩
/-- what a locked dict of tuple keys yields -/
theorem dtt_locked {d : Addr} {od : Obj} {vs : List (List Key × V)} {kvs : List (List Key × Val)} (e : H d = some (.frz od (.dT vs))) (n : h d = none) (rk : RepP G H h kvs vs) :
    IterRep G H h (Itkt d od vs) (kvs.map fun p => .tup (p.1.map kval)) always := fun H' h' f hr _ => by
  have e' := (f d n _ e).1
  have rk' := RepP.mono f.kept _ _ rk
  have hl := rk'.length
  refine ⟨fun i x hx => ?_, ⟨e', by rw [List.length_map, hl]; exact Nat.le_refl _⟩⟩
  rw [List.getElem?_map] at hx
  cases e0 : kvs[i]? with
  | none => rw [e0] at hx; cases hx
  | some p =>
    rw [e0] at hx
    cases hx
    obtain ⟨v, hv, rv⟩ := ent_p i rk' p e0
    refine ⟨⟨e', (List.getElem?_eq_some_iff.mp hv).1⟩, fun u H'' ⟨e1, k, w, q, ek, eu, hq⟩ => ?_⟩
    subst e1 eu
    rw [hv] at ek
    cases ek
    exact ⟨⟨q, _, rfl, .inl ⟨hq, hr.tup hq⟩, rep_kvals _⟩, hr, Fra.refl⟩
theorem dtt_go {m : E} {σ : L2.St} {H : Hp} {R : It → Hp → Prop} {ρ : Env} {h : CH} {Xp : XP} {K : List Val → (CH → Prop) → CH → Prop}
    (o : Ok G σ ρ H h) (w : wpE Γ m ρ h (fun x h1 => ∃ kvs, x = .dtt kvs ∧ K (kvs.map fun p => .tup (p.1.map kval)) always h1) Xp) (fx : FinX G W σ h H Xp)
    (q : ∀ J H1 h1 xs stb, HRep G H1 h1 → Kept h H h1 H1 → IterRep G H1 h1 J xs stb → Back G (Unl X) h H h1 H1 → K xs stb h1 → R J H1) :
    lockA X (rE G Γ W m) σ H fun x H1 => ∃ d od vs, x = .ref d ∧ H1 d = some (.frz od (.dT vs)) ∧ R (Itkt d od vs) H1 := by
  refine one o w fx fun x v H2 h2 rx hr f w => ?_
  obtain ⟨kvs, rfl, w⟩ := w
  obtain ⟨d, vs, ev, ⟨rd, n⟩, rk⟩ := rx
  subst ev
  refine ⟨d, rfl, ?_⟩
  rcases rd with e | ⟨od, e⟩
  · refine .inl ⟨_, e, trivial, fun od nf => ⟨d, od, vs, rfl, upd_same, ?_⟩⟩
    obtain ⟨h1, h2', h3⟩ := lock_dict (X := X) f hr (u := .dT vs) trivial (fun vs z => by cases z) n e od nf
    exact q _ _ h2 _ _ h1 h2' (dtt_locked upd_same n (RepP.mono (kept_lock (u := .dT vs) trivial (fun vs z => by cases z) e) _ _ rk)) h3 w
  · exact .inr ⟨od, _, e, d, od, vs, rfl, e, q _ _ h2 _ _ hr f.kept (dtt_locked e n rk) (back_fra unl_refl f) w⟩
theorem rE_imp {m : E} {σ : L2.St} {H : Hp} {Q Q' : VK} (z : rE G Γ W m σ H Q) (i : ∀ v H, Q v H → Q' v H) : rE G Γ W m σ H Q' := by
  obtain ⟨ρ', h', Qq, Xp', o', w', fn, fx'⟩ := z
  exact ⟨ρ', h', Qq, Xp', o', w', fun v H' x h' rx hr f qq => i _ _ (fn v H' x h' rx hr f qq), fx'⟩
theorem lockA_imp {m : E} {σ : L2.St} {H : Hp} {Q Q' : VK} (z : lockA X (rE G Γ W m) σ H Q) (i : ∀ v H, Q v H → Q' v H) : lockA X (rE G Γ W m) σ H Q' :=
  rE_imp z fun v H' ⟨d, ed, c⟩ => ⟨d, ed, c.imp (fun ⟨u, e1, mu, c⟩ => ⟨u, e1, mu, fun od nf => i _ _ (c od nf)⟩) (fun ⟨od, u, e1, c⟩ => ⟨od, u, e1, i _ _ c⟩)⟩
theorem it_ky {e : Expr} {m : E} (p : PE X e (rE G Γ W m)) : PI X tg e (rI G Γ W (Unl X) (.ky m)) :=
  pi_imp (pi_keys (pe_lockA p)) fun σ H R ⟨ρ, h, K, Xp, o, w, fx, q⟩ => lockA_imp (dtt_go (X := X) (m := m) (R := R) (K := K) o w fx q) fun v H ⟨d, od, vs, e1, e2, r⟩ => ⟨d, od, e1, .inr ⟨vs, e2, r⟩⟩
theorem it_vs {e : Expr} {m : E} {ap cp : Pos} (p : PE X e (rE G Γ W m)) (nb : noBase e = true) (hl : (ap.endLine == cp.line) = true) : PI X tg (.Call (.Attribute e "values" ap) [] [] cp) (rI G Γ W (Unl X) (.vs m)) :=
  pi_imp (pi_values (pe_lockA p) (base_plain nb) hl) fun σ H R ⟨ρ, h, K, Xp, o, w, fx, q⟩ =>
    lockA_imp (dct_go (X := X) (m := m) (R := R) (K := K) (F := fun kvs => kvs.map fun (p : Key × Val) => p.2) (J := Itd) o w fx (fun e n rk => (dct_locked e n rk).2.1) q) fun v H ⟨d, od, vs, e1, e2, r⟩ => ⟨d, od, vs, e1, e2, r⟩
theorem it_its {e : Expr} {m : E} {ap cp : Pos} (p : PE X e (rE G Γ W m)) (nb : noBase e = true) (hl : (ap.endLine == cp.line) = true) (ht : isTup tg = true) : PI X tg (.Call (.Attribute e "items" ap) [] [] cp) (rI G Γ W (Unl X) (.its m)) := by
  cases tg with
  | Tuple elts kk tp =>
    exact pi_imp (pi_items (pe_lockA p) (base_plain nb) hl) fun σ H R ⟨ρ, h, K, Xp, o, w, fx, q⟩ =>
      lockA_imp (dct_go (X := X) (m := m) (R := R) (K := K) (F := fun kvs => kvs.map fun (p : Key × Val) => Val.tup [kval p.1, p.2]) (J := Iti) o w fx (fun e n rk => (dct_locked e n rk).2.2) q) fun v H ⟨d, od, vs, e1, e2, r⟩ => ⟨d, od, vs, e1, e2, r⟩
  | _ => cases ht
end
end Vc
/-! Vc10: comprehensions. -/
namespace Vc
open PySem L2 PyProof.Rows

def noW : WX := fun _ _ _ _ => False
theorem takesN {X : Cx} : Takes X noW := fun _ _ x => by
  obtain ⟨_, _, _, _, _, _, _, _, _, _, _, _, _, _, _, _, z⟩ :=
        x
  exact z.elim
section
variable {G : Cfg} {Γ : Fns} {N : List Str} {sc : Scope} {W : WX} {k : Nat} {X : Cx}
theorem Gd.blkOk (g : Gd G Γ N sc W k X) {scope : Scope} {own : List (Str × Nat)} (ok : blkC N sc scope own = true) : BlkOk X.N X.env.scope scope own := by
  have b := blkOk_by ok
  refine ⟨b.kind, b.uniq, fun p hp => by rw [g.n0]; exact b.ix p hp, fun y hy e => ?_, fun y hy e => by rw [g.n0]; exact b.own y hy e⟩
  obtain ⟨_, h2, h3, _⟩ := g.nm y.1
  rcases b.free y hy e with q | q
  · exact .inl (h2 q)
  · exact (h3 q).symm
theorem Gd.blk (g : Gd G Γ N sc W k X) {scope : Scope} (s : Shared) (H : Hp) (C : Addr) (cl : List (Str × Addr)) (fp : List Addr) : Gd G Γ N scope noW k (X.blk s H scope (compEnvC scope cl C X.env) fp) where
  tab := g.tab
  n0 := g.n0
  nd := g.nd
  nm := fun x => by
    show _ ∧ _ ∧ _ ∧ _
    have e : (compEnvC scope cl C X.env).scope = relS scope X.env.scope := rfl
    rw [e]
    refine ⟨lookup_relS_keep (by decide), lookup_relS_keep (by decide), fun h => ?_, lookup_relS_keep (by decide)⟩
    cases q : (relS scope X.env.scope).names.lookup x with
    | none =>
      exfalso
      have : ∀ {names : List (Str × NameKind)}, names.lookup x ≠ none → (names.map fun (n, k) => if (k == NameKind.free && X.env.scope.kind == .function && X.env.scope.names.lookup n == some .cell) then (n, NameKind.cell) else (n, k)).lookup x ≠ none := by
        intro names
        induction names with
        | nil => intro h; exact absurd rfl h
        | cons p r ih =>
          obtain ⟨n, k0⟩ := p
          intro h z
          have z' : List.lookup x ((if (k0 == NameKind.free && X.env.scope.kind == .function && X.env.scope.names.lookup n == some .cell) = true then (n, NameKind.cell) else (n, k0)) :: (r.map _)) = none := z
          cases hx : x == n with
          | true =>
            split at z' <;> (simp only [List.lookup_cons, hx] at z'; cases z')
          | false =>
            refine ih (fun w => h (by simp only [List.lookup_cons, hx]; exact w)) ?_
            split at z' <;> (simp only [List.lookup_cons, hx] at z'; exact z')
      exact this (by rw [h]; intro z; cases z) q
    | some k0 =>
      obtain ⟨k', e1, e2⟩ := lookup_relS q
      rw [h] at e1
      cases e1
      rcases e2 with e2 | ⟨_, e2⟩
      · exact .inl (congrArg some e2)
      · exact .inr (congrArg some e2)
  fnl := fun x h => by
    show (scope.names.lookup x == some .cell) = true
    rw [h]; rfl
  calm := g.calm
  rm := g.rm
  tk := takesN
  own := PassesOwn.never
theorem branch_iff {x : Val} {A B : Prop} : branch x A B = ∃ b, x = .bl b ∧ ((b = true → A) ∧ (b = false → B)) := by
  apply propext
  constructor
  · intro h
    cases x with
    | bl b => exact ⟨b, rfl, h⟩
    | _ => exact h.elim
  · rintro ⟨b, rfl, h⟩
    exact h
/-! ### conditions -/
def rCs (G : Cfg) (Γ : Fns) (c : Cs) : TT := fun σ H Q => ∃ ρ h K, Ok G σ ρ H h ∧ wpCs Γ c ρ h K ∧ FinB G h H K Q
theorem cs_sound {ifs : List Expr} {c : Cs} (h : ckCs N sc c ifs = true) (ih : ∀ e x, c = .cons e .nil → ckE N sc e x = true → PT X x (rT G Γ noW e)) : PTs X ifs (rCs G Γ c) := by
  cases c with
  | nil =>
    cases ifs with
    | nil => exact ⟨fun pins s σ H Q I ⟨ρ, h, K, o, w, f⟩ => pts_nil.run pins s σ H Q I (f true H h o.r Fra.refl w)⟩
    | cons _ _ => cases h
  | cons e r =>
    cases r with
    | cons _ _ => cases h
    | nil =>
      match ifs, h with
      | [x], h =>
        refine ⟨fun pins s σ H Q I ⟨ρ, h1, K, o, w, f⟩ => (pts_one (ih e x rfl h)).run pins s σ H Q I ⟨ρ, h1, fun b h' => (b = true → K true h') ∧ (b = false → K false h'), noX, o, ?_, fun b H' h' hr fr q => ?_, FinX.no⟩⟩
        · have w' : wpE Γ e ρ h1 (fun x h2 => branch x (K true h2) (K false h2)) noX := w
          have e0 : (fun x h2 => branch x (K true h2) (K false h2)) = fun x h' => ∃ b, x = .bl b ∧ ((b = true → K true h') ∧ (b = false → K false h')) := by
            funext x h2; exact branch_iff
          rw [e0] at w'
          exact w'
        · cases b
          · exact f false H' h' hr fr (q.2 rfl)
          · exact f true H' h' hr fr (q.1 rfl)
/-! ### list comprehensions -/
section
variable {h h' h1 : CH} {H H' H1 : Hp} {D : Addr}
theorem HRep.jw {o : HO} (nt : ∀ vs, o ≠ .tup vs) (r : HRep G H h) (e : h D = some junk) : HRep G (upd H D o) h := fun a x q => by
  by_cases c : a = D
  · subst c
    rw [e] at q
    cases q
    exact ⟨_, upd_same, nt⟩
  · exact (r a x q).mono (kept_write e fun _ _ => rfl) (upd_ne c)
theorem Fra.out {o : HO} (f : Fra h1 H1 h H) (n : h1 D = none) (nH : H1 D = none) : Fra h1 H1 h (upd H D o) where
  f := fun a na u e => by
    have ne : a ≠ D := ne_of_none e nH
    rw [upd_ne ne]
    exact f.f a na u e
  j := fun a e => by
    have ne : a ≠ D := fun z => by rw [z, n] at e; cases e
    rw [upd_ne ne]
    exact f.j a e
theorem Fra.undel (f : Fra h1 H1 h H) (n : h1 D = none) : Fra h1 H1 (h.del D) H where
  f := fun a na u e => by
    obtain ⟨q1, q2⟩ := f.f a na u e
    refine ⟨q1, ?_⟩
    by_cases c : a = D
    · rw [c, CH.del_same]
    · rw [CH.del_ne c]; exact q2
  j := fun a e => by
    have ne : a ≠ D := fun z => by rw [z, n] at e; cases e
    obtain ⟨q1, q2⟩ := f.j a e
    exact ⟨q1, by rw [CH.del_ne ne]; exact q2⟩
theorem Fra.reset {x : Val} (f : Fra h1 H1 h H) (n : h1 D = none) (nH : H1 D = none) : Fra h1 H1 (h.set D x) H where
  f := fun a na u e => by
    obtain ⟨q1, q2⟩ := f.f a na u e
    exact ⟨q1, by rw [CH.set_ne (ne_of_none e nH)]; exact q2⟩
  j := fun a e => by
    have ne : a ≠ D := fun z => by rw [z, n] at e; cases e
    obtain ⟨q1, q2⟩ := f.j a e
    exact ⟨q1, by rw [CH.set_ne ne]; exact q2⟩
theorem kept_set {x y : Val} (n : h D = some y) : Kept h H (h.set D x) H where
  t := fun a vs na r => ⟨r, by rw [CH.set_ne (fun z => by rw [z, n] at na; cases na)]; exact na⟩
  c := fun a u _ na r => ⟨r, by rw [CH.set_ne (fun z => by rw [z, n] at na; cases na)]; exact na⟩
  i := fun a C dx vs na r => ⟨r, by rw [CH.set_ne (fun z => by rw [z, n] at na; cases na)]; exact na⟩
theorem HRep.reset {x y : Val} (r : HRep G H h) (n : h D = some y) (ob : ObAt G H (h.set D x) D x) : HRep G H (h.set D x) := fun a z e => by
  by_cases c : a = D
  · subst c
    rw [CH.set_same] at e
    cases e
    exact ob
  · rw [CH.set_ne c] at e
    exact (r a z e).mono (kept_set n) rfl
theorem del_some {a : Addr} {x : Val} (e : h.del D a = some x) : h a = some x := by
  by_cases c : a = D
  · rw [c, CH.del_same] at e; cases e
  · rwa [CH.del_ne c] at e
end
def lcF (Γ : Fns) (own : List Nat) (ρ : Env) (t : Tg) (c : Cs) (r : Cl) : Val → CH → List Val → (List Val → CH → Prop) → Prop := fun x h acc K => setT t x (wipe own ρ) fun ρ' => wpCs Γ c ρ' h fun b h' => (b = true → wpCl Γ r ρ' h' acc K) ∧ (b = false → K acc h')
/-- where the walk of a list comprehension stands -/
def LcI (G : Cfg) (D : Addr) (h1 : CH) (H1 : Hp) (P : List Val → CH → Prop) (H' : Hp) : Prop :=
  ∃ h' acc vs, h' D = some junk ∧ H' D = some (.lst vs) ∧ RepL G H' h' acc vs ∧ HRep G H' h' ∧ Fra h1 H1 h' H' ∧ P acc h'
theorem lc_law {mu : Bool} {U : Hp → Hp → Prop} {own : List Nat} {t : Tg} {it : I} {c : Cs} {e : E} {σ : L2.St} {ρ : Env} {H : Hp} {h : CH} {Q : VP} {Q' : VK} {Xp : XP} (ht : tgIn own t = true)
    (o : Ok G σ ρ H h) (w : wpE Γ (.lc mu own t it c (.el e)) ρ h Q Xp) (fn : Fin G h H Q Q') (fx : FinX G W σ h H Xp) :
    tLc (rI G Γ W U it) (rG G t) (rCs G Γ c) (rE G Γ noW e) own σ H (fun v H' => ∃ H2, U H' H2 ∧ Q' v H2) := by
  refine ⟨ρ, h, _, Xp, o, w, fx, fun J H1 h1 xs stb hr1 kp itr bk w1 D nD => ?_⟩
  have hd : h1 D = none := hr1.gone nD
  have w1 : goL stb (lcF Γ own ρ t c (.el e)) xs (h1.set D junk) [] fun acc h' => Q (if mu then .ref D else .lst acc) (if mu then h'.set D (.lst acc) else h'.del D) := w1 D hd
  have sl0 : Slots G (L2.wipe σ own) (wipe own ρ) H1 h1 := (o.s.mono kp).wipe own
  refine ⟨fun i m H' => m = xs.length - i ∧ i ≤ xs.length ∧ LcI G D h1 H1 (fun acc h' => goL stb (lcF Γ own ρ t c (.el e)) (xs.drop i) h' acc fun acc h' => Q (if mu then .ref D else .lst acc) (if mu then h'.set D (.lst acc) else h'.del D)) H',
    ⟨xs.length, by simp, Nat.zero_le _, h1.set D junk, [], [], CH.set_same, upd_same, rfl, hr1.own nD (by rw [show ObAt G _ _ D junk = ∃ u, _ from rfl]; exact ⟨_, upd_same, fun vs z => by cases z⟩), Fra.own nD hd, w1⟩, ?_⟩
  rintro i m H' ⟨rfl, hi, h', acc, vs, hj, hD, ra, hr, f, w⟩
  by_cases hlt : i < xs.length
  · rw [List.drop_eq_getElem_cons hlt] at w
    obtain ⟨hst, w⟩ := w
    obtain ⟨it1, _⟩ := itr H' h' f.fro hr hst
    obtain ⟨go, y⟩ := it1 i _ (List.getElem?_eq_getElem hlt)
    refine .inr ⟨go, LcI G D h1 H1 (fun acc h' => goL stb (lcF Γ own ρ t c (.el e)) (xs.drop (i + 1)) h' acc fun acc h' => Q (if mu then .ref D else .lst acc) (if mu then h'.set D (.lst acc) else h'.del D)), fun H'' p => ⟨xs.length - (i + 1), by omega, rfl, hlt, p⟩, fun v H2 yl => ?_⟩
    obtain ⟨rx, hr2, f2⟩ := y v H2 yl
    refine ⟨wipe own ρ, h', xs[i], _, (sl0.mono f.kept).mono f2.kept, hr2, rx, w, fun σ' ρ' sl wp pw => ⟨(wp own ht).trans wipe_wipe, ρ', h', _, ⟨sl, hr2⟩, pw, fun b H3 h3 hr3 f3 q => ?_⟩⟩
    cases b with
    | false =>
      rw [if_neg (by decide)]
      have f23 := f2.trans f3
      obtain ⟨e1, e2⟩ := f23.j D hj
      exact ⟨h3, acc, vs, e2, e1.trans hD, RepL.mono f23.kept _ _ ra, hr3, f.trans f23, q.2 rfl⟩
    | true =>
      rw [if_pos rfl]
      refine ⟨ρ', h3, _, noX, ⟨sl.mono f3.kept, hr3⟩, q.1 rfl, fun u H4 x h4 ru hr4 f4 q4 => ?_, FinX.no⟩
      have f24 := (f2.trans f3).trans f4
      obtain ⟨e1, e2⟩ := f24.j D hj
      have kw : Kept h4 H4 h4 (upd H4 D (.lst (vs ++ [u]))) := kept_write e2 fun _ _ => rfl
      refine ⟨vs, e1.trans hD, by rw [← ra.length]; exact q4.1, h4, acc ++ [x], vs ++ [u], e2, upd_same, ?_, HRep.jw (fun vs z => by cases z) hr4 e2, (f.trans f24).out hd nD, q4.2⟩
      exact RepL.append (RepL.mono kw _ _ (RepL.mono f24.kept _ _ ra)) (RepL.cons (RepV.mono kw _ _ ru) RepL.nil)
  · have ei : i = xs.length := by omega
    subst ei
    rw [List.drop_length] at w
    obtain ⟨hst, w⟩ := w
    obtain ⟨_, sp⟩ := itr H' h' f.fro hr hst
    cases mu with
    | false =>
      obtain ⟨Hf, u, fr, hrf, kf⟩ := bk (h'.del D) H' (f.undel hd) (hr.less fun a x => del_some)
      exact .inl ⟨sp, Hf, u, fn _ Hf (.lst acc) (h'.del D) (RepV.mono kf (.lst acc) (.ref D) ⟨D, vs, rfl, .inl ⟨.inl hD, CH.del_same⟩, RepL.mono (kept_less fun a x => del_some) _ _ ra⟩) hrf fr w⟩
    | true =>
      have ks := kept_set (x := .lst acc) hj (H := H')
      obtain ⟨Hf, u, fr, hrf, kf⟩ := bk (h'.set D (.lst acc)) H' (f.reset hd nD) (hr.reset hj ⟨vs, hD, RepL.mono ks _ _ ra⟩)
      exact .inl ⟨sp, Hf, u, fn _ Hf (.ref D) (h'.set D (.lst acc)) rfl hrf fr w⟩
theorem tgIn_self {t : Tg} : tgIn (tgs t) t = true := by
  unfold tgIn
  simp
def lc1F (Γ : Fns) (ρ : Env) (t : Tg) (c : Cs) (r : Cl) : Val → CH → List Val → (List Val → CH → Prop) → Prop := fun x h acc K => setT t x (wipe (tgs t) ρ) fun ρ' => wpCs Γ c ρ' h fun b h' => (b = true → wpCl Γ r ρ' h' acc K) ∧ (b = false → K acc h')
theorem lc2_law {mu : Bool} {U : Hp → Hp → Prop} {own : List Nat} {t t1 : Tg} {it it1 : I} {c c1 : Cs} {e : E} {σ : L2.St} {ρ : Env} {H : Hp} {h : CH} {Q : VP} {Q' : VK} {Xp : XP} (ht : tgIn own t = true)
    (o : Ok G σ ρ H h) (w : wpE Γ (.lc mu own t it c (.fo t1 it1 c1 (.el e))) ρ h Q Xp) (fn : Fin G h H Q Q') (fx : FinX G W σ h H Xp) :
    tLc2 (rI G Γ W U it) (rG G t) (rCs G Γ c) (rI G Γ noW Eq it1) (rG G t1) (rCs G Γ c1) (rE G Γ noW e) own (tgs t1) σ H (fun v H' => ∃ H2, U H' H2 ∧ Q' v H2) := by
  refine ⟨ρ, h, _, Xp, o, w, fx, fun J H1 h1 xs stb hr1 kp itr bk w1 D nD => ?_⟩
  have hd : h1 D = none := hr1.gone nD
  have w1 : goL stb (lcF Γ own ρ t c (.fo t1 it1 c1 (.el e))) xs (h1.set D junk) [] fun acc h' => Q (if mu then .ref D else .lst acc) (if mu then h'.set D (.lst acc) else h'.del D) := w1 D hd
  have sl0 : Slots G (L2.wipe σ own) (wipe own ρ) H1 h1 := (o.s.mono kp).wipe own
  refine ⟨fun i m H' => m = xs.length - i ∧ i ≤ xs.length ∧ LcI G D h1 H1 (fun acc h' => goL stb (lcF Γ own ρ t c (.fo t1 it1 c1 (.el e))) (xs.drop i) h' acc fun acc h' => Q (if mu then .ref D else .lst acc) (if mu then h'.set D (.lst acc) else h'.del D)) H',
    ⟨xs.length, by simp, Nat.zero_le _, h1.set D junk, [], [], CH.set_same, upd_same, rfl, hr1.own nD (by rw [show ObAt G _ _ D junk = ∃ u, _ from rfl]; exact ⟨_, upd_same, fun vs z => by cases z⟩), Fra.own nD hd, w1⟩, ?_⟩
  rintro i m H' ⟨rfl, hi, h', acc, vs, hj, hD, ra, hr, f, w⟩
  by_cases hlt : i < xs.length
  · rw [List.drop_eq_getElem_cons hlt] at w
    obtain ⟨hst, w⟩ := w
    obtain ⟨i1, _⟩ := itr H' h' f.fro hr hst
    obtain ⟨go, y⟩ := i1 i _ (List.getElem?_eq_getElem hlt)
    refine .inr ⟨go, LcI G D h1 H1 (fun acc h' => goL stb (lcF Γ own ρ t c (.fo t1 it1 c1 (.el e))) (xs.drop (i + 1)) h' acc fun acc h' => Q (if mu then .ref D else .lst acc) (if mu then h'.set D (.lst acc) else h'.del D)), fun H'' p => ⟨xs.length - (i + 1), by omega, rfl, hlt, p⟩, fun v H2 yl => ?_⟩
    obtain ⟨rx, hr2, f2⟩ := y v H2 yl
    refine ⟨wipe own ρ, h', xs[i], _, (sl0.mono f.kept).mono f2.kept, hr2, rx, w, fun σ' ρ' sl wp pw => ⟨(wp own ht).trans wipe_wipe, ρ', h', _, ⟨sl, hr2⟩, pw, fun b H3 h3 hr3 f3 q => ?_⟩⟩
    cases b with
    | false =>
      rw [if_neg (by decide)]
      have f23 := f2.trans f3
      obtain ⟨e1, e2⟩ := f23.j D hj
      exact ⟨h3, acc, vs, e2, e1.trans hD, RepL.mono f23.kept _ _ ra, hr3, f.trans f23, q.2 rfl⟩
    | true =>
      rw [if_pos rfl]
      refine ⟨ρ', h3, _, noX, ⟨sl.mono f3.kept, hr3⟩, q.1 rfl, FinX.no, fun J1 H4 h4 ys stb1 hr4 kp1 itr1 bk1 w4 => ?_⟩
      obtain ⟨_, rfl, f4, _, _⟩ := bk1 h4 H4 Fra.refl hr4
      have f24 := (f2.trans f3).trans f4
      obtain ⟨e1, e2⟩ := f24.j D hj
      have sl1 : Slots G (L2.wipe σ' (tgs t1)) (wipe (tgs t1) ρ') H4 h4 := (sl.mono (f3.trans f4).kept).wipe _
      refine ⟨fun j k H' => k = ys.length - j ∧ j ≤ ys.length ∧ ∃ h5, Fro h4 H4 h5 H' ∧ ∃ acc vs, h5 D = some junk ∧ H' D = some (.lst vs) ∧ RepL G H' h5 acc vs ∧ HRep G H' h5 ∧ Fra h1 H1 h5 H' ∧ goL stb1 (lc1F Γ ρ' t1 c1 (.el e)) (ys.drop j) h5 acc fun acc h' => goL stb (lcF Γ own ρ t c (.fo t1 it1 c1 (.el e))) (xs.drop (i + 1)) h' acc fun acc h' => Q (if mu then .ref D else .lst acc) (if mu then h'.set D (.lst acc) else h'.del D),
        ⟨ys.length, by simp, Nat.zero_le _, h4, Fra.refl.fro, acc, vs, e2, e1.trans hD, RepL.mono f24.kept _ _ ra, hr4, f.trans f24, w4⟩, ?_⟩
      rintro j k H5 ⟨rfl, hj5, h5, fr5, acc5, vs5, j5, D5, ra5, hr5, f5, w5⟩
      by_cases hlt5 : j < ys.length
      · rw [List.drop_eq_getElem_cons hlt5] at w5
        obtain ⟨hst5, w5⟩ := w5
        obtain ⟨i5, _⟩ := itr1 H5 h5 fr5 hr5 hst5
        obtain ⟨go5, y5⟩ := i5 j _ (List.getElem?_eq_getElem hlt5)
        refine .inr ⟨go5, fun H' => ∃ h5, Fro h4 H4 h5 H' ∧ ∃ acc vs, h5 D = some junk ∧ H' D = some (.lst vs) ∧ RepL G H' h5 acc vs ∧ HRep G H' h5 ∧ Fra h1 H1 h5 H' ∧ goL stb1 (lc1F Γ ρ' t1 c1 (.el e)) (ys.drop (j + 1)) h5 acc fun acc h' => goL stb (lcF Γ own ρ t c (.fo t1 it1 c1 (.el e))) (xs.drop (i + 1)) h' acc fun acc h' => Q (if mu then .ref D else .lst acc) (if mu then h'.set D (.lst acc) else h'.del D), fun H'' p => ⟨ys.length - (j + 1), by omega, rfl, hlt5, p⟩, fun v6 H6 yl6 => ?_⟩
        obtain ⟨rx6, hr6, f6⟩ := y5 v6 H6 yl6
        refine ⟨wipe (tgs t1) ρ', h5, ys[j], _, (sl1.mono fr5.kept).mono f6.kept, hr6, rx6, w5, fun σ7 ρ7 sl7 wp7 pw7 => ⟨(wp7 _ tgIn_self).trans wipe_wipe, ρ7, h5, _, ⟨sl7, hr6⟩, pw7, fun b7 H7 h7 hr7 f7 q7 => ?_⟩⟩
        cases b7 with
        | false =>
          rw [if_neg (by decide)]
          have f67 := f6.trans f7
          obtain ⟨g1, g2⟩ := f67.j D j5
          exact ⟨h7, fr5.trans f67.fro, acc5, vs5, g2, g1.trans D5, RepL.mono f67.kept _ _ ra5, hr7, f5.trans f67, q7.2 rfl⟩
        | true =>
          rw [if_pos rfl]
          refine ⟨ρ7, h7, _, noX, ⟨sl7.mono f7.kept, hr7⟩, q7.1 rfl, fun u H8 x h8 ru hr8 f8 q8 => ?_, FinX.no⟩
          have f68 := (f6.trans f7).trans f8
          obtain ⟨g1, g2⟩ := f68.j D j5
          have kw : Kept h8 H8 h8 (upd H8 D (.lst (vs5 ++ [u]))) := kept_write g2 fun _ _ => rfl
          have fw : Fro h8 H8 h8 (upd H8 D (.lst (vs5 ++ [u]))) := fun a na o ea => ⟨by rw [upd_ne (fun z => by rw [z, g2] at na; cases na)]; exact ea, na⟩
          refine ⟨vs5, g1.trans D5, by rw [← ra5.length]; exact q8.1, h8, (fr5.trans f68.fro).trans fw, acc5 ++ [x], vs5 ++ [u], g2, upd_same, ?_, HRep.jw (fun vs z => by cases z) hr8 g2, (f5.trans f68).out hd nD, q8.2⟩
          exact RepL.append (RepL.mono kw _ _ (RepL.mono f68.kept _ _ ra5)) (RepL.cons (RepV.mono kw _ _ ru) RepL.nil)
      · have ej : j = ys.length := by omega
        subst ej
        rw [List.drop_length] at w5
        obtain ⟨hst5, w5⟩ := w5
        obtain ⟨_, sp5⟩ := itr1 H5 h5 fr5 hr5 hst5
        exact .inl ⟨sp5, h5, acc5, vs5, j5, D5, ra5, hr5, f5, w5⟩
  · have ei : i = xs.length := by omega
    subst ei
    rw [List.drop_length] at w
    obtain ⟨hst, w⟩ := w
    obtain ⟨_, sp⟩ := itr H' h' f.fro hr hst
    cases mu with
    | false =>
      obtain ⟨Hf, u, fr, hrf, kf⟩ := bk (h'.del D) H' (f.undel hd) (hr.less fun a x => del_some)
      exact .inl ⟨sp, Hf, u, fn _ Hf (.lst acc) (h'.del D) (RepV.mono kf (.lst acc) (.ref D) ⟨D, vs, rfl, .inl ⟨.inl hD, CH.del_same⟩, RepL.mono (kept_less fun a x => del_some) _ _ ra⟩) hrf fr w⟩
    | true =>
      have ks := kept_set (x := .lst acc) hj (H := H')
      obtain ⟨Hf, u, fr, hrf, kf⟩ := bk (h'.set D (.lst acc)) H' (f.reset hd nD) (hr.reset hj ⟨vs, hD, RepL.mono ks _ _ ra⟩)
      exact .inl ⟨sp, Hf, u, fn _ Hf (.ref D) (h'.set D (.lst acc)) rfl hrf fr w⟩
/-! ### dict comprehensions -/
def dcF (Γ : Fns) (own : List Nat) (ρ : Env) (t : Tg) (c : Cs) (k e : E) : Val → CH → List (Key × Val) → (List (Key × Val) → CH → Prop) → Prop := fun x h acc K => setT t x (wipe own ρ) fun ρ' => wpCs Γ c ρ' h fun b h' =>
  (b = true → wpE Γ k ρ' h' (fun y h2 => wpE Γ e ρ' h2 (fun z h3 => ∃ kk, keyOf y = some kk ∧ acc.length < sizeLine ∧ K (vput acc kk z) h3) noX) noX) ∧ (b = false → K acc h')
def DcI (G : Cfg) (D : Addr) (h1 : CH) (H1 : Hp) (P : List (Key × Val) → CH → Prop) (H' : Hp) : Prop :=
  ∃ h' acc vs, h' D = some junk ∧ H' D = some (.dK vs) ∧ RepK G H' h' acc vs ∧ HRep G H' h' ∧ Fra h1 H1 h' H' ∧ P acc h'
theorem dc_law {mu : Bool} {U : Hp → Hp → Prop} {own : List Nat} {t : Tg} {it : I} {c : Cs} {kk e : E} {σ : L2.St} {ρ : Env} {H : Hp} {h : CH} {Q : VP} {Q' : VK} {Xp : XP} (ht : tgIn own t = true)
    (o : Ok G σ ρ H h) (w : wpE Γ (.dc mu own t it c kk e) ρ h Q Xp) (fn : Fin G h H Q Q') (fx : FinX G W σ h H Xp) :
    tDc (rI G Γ W U it) (rG G t) (rCs G Γ c) (rE G Γ noW kk) (rE G Γ noW e) own σ H (fun v H' => ∃ H2, U H' H2 ∧ Q' v H2) := by
  refine ⟨ρ, h, _, Xp, o, w, fx, fun J H1 h1 xs stb hr1 kp itr bk w1 D nD => ?_⟩
  have hd : h1 D = none := hr1.gone nD
  have w1 : goL stb (dcF Γ own ρ t c kk e) xs (h1.set D junk) [] fun acc h' => Q (if mu then .ref D else .dct acc) (if mu then h'.set D (.dct acc) else h'.del D) := w1 D hd
  have sl0 : Slots G (L2.wipe σ own) (wipe own ρ) H1 h1 := (o.s.mono kp).wipe own
  refine ⟨fun i m H' => m = xs.length - i ∧ i ≤ xs.length ∧ DcI G D h1 H1 (fun acc h' => goL stb (dcF Γ own ρ t c kk e) (xs.drop i) h' acc fun acc h' => Q (if mu then .ref D else .dct acc) (if mu then h'.set D (.dct acc) else h'.del D)) H',
    ⟨xs.length, by simp, Nat.zero_le _, h1.set D junk, [], [], CH.set_same, upd_same, rfl, hr1.own nD (by rw [show ObAt G _ _ D junk = ∃ u, _ from rfl]; exact ⟨_, upd_same, fun vs z => by cases z⟩), Fra.own nD hd, w1⟩, ?_⟩
  rintro i m H' ⟨rfl, hi, h', acc, vs, hj, hD, ra, hr, f, w⟩
  by_cases hlt : i < xs.length
  · rw [List.drop_eq_getElem_cons hlt] at w
    obtain ⟨hst, w⟩ := w
    obtain ⟨it1, _⟩ := itr H' h' f.fro hr hst
    obtain ⟨go, y⟩ := it1 i _ (List.getElem?_eq_getElem hlt)
    refine .inr ⟨go, DcI G D h1 H1 (fun acc h' => goL stb (dcF Γ own ρ t c kk e) (xs.drop (i + 1)) h' acc fun acc h' => Q (if mu then .ref D else .dct acc) (if mu then h'.set D (.dct acc) else h'.del D)), fun H'' p => ⟨xs.length - (i + 1), by omega, rfl, hlt, p⟩, fun v H2 yl => ?_⟩
    obtain ⟨rx, hr2, f2⟩ := y v H2 yl
    refine ⟨wipe own ρ, h', xs[i], _, (sl0.mono f.kept).mono f2.kept, hr2, rx, w, fun σ' ρ' sl wp pw => ⟨(wp own ht).trans wipe_wipe, ρ', h', _, ⟨sl, hr2⟩, pw, fun b H3 h3 hr3 f3 q => ?_⟩⟩
    cases b with
    | false =>
      rw [if_neg (by decide)]
      have f23 := f2.trans f3
      obtain ⟨e1, e2⟩ := f23.j D hj
      exact ⟨h3, acc, vs, e2, e1.trans hD, RepK.mono f23.kept _ _ ra, hr3, f.trans f23, q.2 rfl⟩
    | true =>
      rw [if_pos rfl]
      refine ⟨ρ', h3, _, noX, ⟨sl.mono f3.kept, hr3⟩, q.1 rfl, fun u H4 x h4 ru hr4 f4 q4 => ?_, FinX.no⟩
      refine ⟨ρ', h4, _, noX, ⟨sl.mono (f3.trans f4).kept, hr4⟩, q4, fun u5 H5 z h5 ru5 hr5 f5 q5 => ?_, FinX.no⟩
      obtain ⟨key, ek, sz, q5⟩ := q5
      have f25 := ((f2.trans f3).trans f4).trans f5
      obtain ⟨e1, e2⟩ := f25.j D hj
      have kw : Kept h5 H5 h5 (upd H5 D (.dK (putK vs key u5))) := kept_write e2 fun _ _ => rfl
      refine ⟨vs, key, rep_key ru ek, e1.trans hD, by rw [← ra.length]; exact sz, h5, vput acc key z, putK vs key u5, e2, upd_same, ?_, HRep.jw (fun vs z => by cases z) hr5 e2, (f.trans f25).out hd nD, q5⟩
      exact RepK.put (RepK.mono kw _ _ (RepK.mono f25.kept _ _ ra)) (RepV.mono kw _ _ ru5)
  · have ei : i = xs.length := by omega
    subst ei
    rw [List.drop_length] at w
    obtain ⟨hst, w⟩ := w
    obtain ⟨_, sp⟩ := itr H' h' f.fro hr hst
    cases mu with
    | false =>
      obtain ⟨Hf, u, fr, hrf, kf⟩ := bk (h'.del D) H' (f.undel hd) (hr.less fun a x => del_some)
      exact .inl ⟨sp, Hf, u, fn _ Hf (.dct acc) (h'.del D) (RepV.mono kf (.dct acc) (.ref D) ⟨D, vs, rfl, ⟨.inl hD, CH.del_same⟩, RepK.mono (kept_less fun a x => del_some) _ _ ra⟩) hrf fr w⟩
    | true =>
      have ks := kept_set (x := .dct acc) hj (H := H')
      obtain ⟨Hf, u, fr, hrf, kf⟩ := bk (h'.set D (.dct acc)) H' (f.reset hd nD) (hr.reset hj ⟨vs, hD, RepK.mono ks _ _ ra⟩)
      exact .inl ⟨sp, Hf, u, fn _ Hf (.ref D) (h'.set D (.dct acc)) rfl hrf fr w⟩
end
end Vc
/-! Vd: dict comprehensions with tuple keys. -/
namespace Vc
open PySem L2 PyProof.Rows
/-- what the turns of such a comprehension do: D the new dict -/
def tDp (wi : TI) (gt : TG) (tt : TT) (tk tv : TE) (vs : List Nat) : TE := fun σ H Q => wi σ H fun J H1 => ∀ D, H1 D = none → ∃ M : Nat → Nat → Hp → Prop, (∃ m, M 0 m (upd H1 D (.dT []))) ∧
  ∀ i m H, M i m H → (J.stop i H ∧ Q (.ref D) H) ∨ (J.go i H ∧ ∃ Nx : Hp → Prop, (∀ H', Nx H' → ∃ m', m' < m ∧ M (i + 1) m' H') ∧
    ∀ x H', J.yld i H x H' → gt x (L2.wipe σ vs) H' fun σ2 H2 => L2.wipe σ2 vs = L2.wipe σ vs ∧ tt σ2 H2 fun b H3 =>
      if b = true then tk σ2 H3 fun y H4 => tv σ2 H4 fun z H5 => ∃ kvs k c, y = .ref c ∧ H5 c = some (.tup (k.map kV)) ∧ H5 D = some (.dT kvs) ∧ kvs.length < sizeLine ∧ Nx (upd H5 D (.dT (putK kvs k z))) else Nx H3)
section
variable {X : Cx}
theorem dp_store {pins : List (Addr × Obj)} {σ : L2.St} {H : Hp} {s : Shared} {E : Value → Shared → Prop} {D c : Addr} {kvs : List (List Key × V)} {k : List Key} {z : V} {u r : Value} {Q : Unit → Shared → Prop} (hu : X.A.units < cLine) (I : Inv X pins σ H s)
    (hD : H D = some (.dT kvs)) (hc : H c = some (.tup (k.map kV))) (hz : kvs.length < sizeLine) (ru : RelV (.ref c) u) (rz : RelV z r) (fin : ∀ s', Inv X pins σ (upd H D (.dT (putK kvs k z))) s' → Q () s') :
    wpAny (model X.prog X.w) X.A (dictSet D u r) Q E s := by
  cases (show u = Value.ref c from ru)
  obtain ⟨z1, hd, xs, rel, dd⟩ := dt_of I.hok hD
  have l1 : xs.length ≤ sizeLine := (Paired.length rel) ▸ z1
  have l2 := length_putK kvs k z
  refine wpAny_dictSet_heap (hsz := l1) (show (tupleKind (mixKind X.prog X.w)).room X.A from hu) (key_of I.hok hc) dd fun hp dn sb => fin _ ?_
  obtain ⟨ob, es, ep, g0, g1, g2, g3, _, g4⟩ := dn
  have rl := rel.put k hc rz
  exact d_write I (by rw [hD]; trivial) sb ⟨ob, g0⟩ ⟨by omega, hd, _, rl.keeps fun a ys ea => (upd_ne (ne_of ea hD fun z => nomatch z)).trans ea, ob, es, ep, g0, g1, g2, g3, g4⟩
/-- where a block's context begins -/
def blkAt (X : Cx) (s : Shared) (H : Hp) (scope : Scope) (fp : List Addr) : Cx := X.blk s H scope (compEnvC scope (cellsFrom (s.heap.objs.size + 1) scope.names (cloFrom X.env.cells scope.names [])) s.heap.objs.size X.env) fp
theorem pe_dp {kx vx tg iter : Expr} {ifs : List Expr} {scope : Scope} {own : List (Str × Nat)} {pos : Pos} {wi : TI} {gt : TG} {tt : TT} {tk tv : TE} (hu : X.A.units < cLine) (hc : X.calm = true) (hN : X.N.Nodup) (hi : PI X tg iter wi) (bo : BlkOk X.N X.env.scope scope own)
    (all : ∀ (s : Shared) (H : Hp) (C : Addr) (cl : List (Str × Addr)) (fp : List Addr), PG (X.blk s H scope (compEnvC scope cl C X.env) fp) tg gt ∧ PTs (X.blk s H scope (compEnvC scope cl C X.env) fp) ifs tt ∧ PE (X.blk s H scope (compEnvC scope cl C X.env) fp) kx tk ∧ PE (X.blk s H scope (compEnvC scope cl C X.env) fp) vx tv)
    (hs : ∀ x, foldedSetIterable iter X.env x = pure x) : PE X (.DictComp kx vx [⟨tg, iter, ifs, 0⟩] scope pos) (tDp wi gt tt tk tv (own.map (·.2))) := by
  constructor
  intro pins s σ H Q I h
  rw [arm_eval_DictComp]
  have caught : ∀ y ∈ scope.names, y.2 = .free → ∃ c, X.env.cells.lookup y.1 = some c := fun y hy e => I.ok.has _ ((bo.free y hy e).elim .inl .inr)
  refine wpAny_comprehension_free rfl hs (closure_ok caught) bo.kind (fun y hy e => (bo.uniq y hy).trans (congrArg some e)) (thn (hi.run pins s σ H _ I h) fun _ _ q1 => thn q1 fun _ s2 q2 => ?_)
  obtain ⟨it, fp, tn, J, H2, rfl, I2, T, t2, f2, q⟩ := q2
  refine
        wpAny_newObj_type (newEnv_comp ?_)
  obtain ⟨D, hD⟩ : ∃ D, s2.heap.objs.size = D := ⟨_, rfl⟩
  obtain ⟨M, ⟨m0, w0⟩, turn⟩ := q D (I2.hok.fresh (Nat.le_of_eq hD))
  obtain ⟨s3, hs3⟩ : ∃ s3 : Shared, s3 = { s2 with heap := s2.heap.push { cls := .type "dict", data := .dict #[] } } := ⟨_, rfl⟩
  obtain ⟨H3, hH3⟩ : ∃ H3, H3 = upd H2 D (.dT []) := ⟨_, rfl⟩
  have h3 : s3.heap = s2.heap.push { cls := .type "dict", data := .dict #[] } := congrArg Shared.heap hs3
  have up : ∀ b o, s2.heap.get? b = some o → s3.heap.get? b = some o := fun b o e => by rw [h3]; exact Heap.get?_push_of_some _ e
  have I3 : Inv X pins σ H3 s3 := by
    subst hs3 hH3
    exact I2.laid (t' := s2.toks) (fun b o e => Heap.get?_push_of_some _ e) (Nat.le_of_eq hD) (by rw [← hD]; exact dt_empty s2.heap I2.big)
  have f3 : ∀ b ∈ fp, FpOk X pins H3 b ∧ b < s3.heap.objs.size := fun b hb => by
    obtain ⟨o, e, _⟩ := T.obj _ _ t2 b hb
    have lt : b < s2.heap.objs.size := Heap.lt_size e
    obtain ⟨k1, k2⟩ := f2 b hb
    exact ⟨⟨by rw [hH3, upd_ne (Nat.ne_of_lt (hD ▸ lt))]; exact k1, k2⟩, by rw [h3, Heap.size_push]; exact Nat.lt_succ_of_lt lt⟩
  have t3 : tn 0 s3.heap := T.keep _ _ _ t2 fun b _ o e => up b o e
  have I4 := block_start I3 bo hN f3
  obtain ⟨pg, pt, pk, pv⟩ := all s3 H3 s3.heap.objs.size (cellsFrom (s3.heap.objs.size + 1) scope.names (cloFrom X.env.cells scope.names [])) fp
  rw [← hH3] at w0
  have n3 : ∀ b ∈ fp, H3 b = none := fun b hb => (f3 b hb).1.1
  rw [← hs3]
  obtain ⟨s4, hs4⟩ : ∃ s4 : Shared, s4 = { s3 with heap := pushCells (s3.heap.push { cls := .type "dict", data := .dict #[] }) scope.names } := ⟨_, rfl⟩
  obtain ⟨ce, hce⟩ : ∃ ce, ce = compEnvC scope (cellsFrom (s3.heap.objs.size + 1) scope.names (cloFrom X.env.cells scope.names [])) s3.heap.objs.size X.env := ⟨_, rfl⟩
  have cl : ce.locals = s3.heap.objs.size := congrArg Env.locals hce
  rw [← hce] at I4 pg pt pk pv
  rw [← hs4] at I4
  have t4 : tn 0 s4.heap := T.keep _ _ _ t3 fun b _ o e => by rw [hs4]; exact pushCells_keeps _ _ _ _ (Heap.get?_push_of_some _ e)
  have okf : ∀ {σ' : L2.St} {H' : Hp} {s' : Shared}, Inv (X.blk s3 H3 scope ce fp) [] σ' H' s' → (∀ b ∈ fp, H' b = none) → ∀ b ∈ fp, FpOk (X.blk s3 H3 scope ce fp) [] H' b := fun J n b hb =>
    ⟨n b hb, (J.ok.exf b hb).1, J.ok.exfs b hb, .inl hb, fun x c e => (J.ok.exf b hb).2 x c e, fun p hp => by cases hp⟩
  have post : ∀ (H' : Hp) (s' : Shared) (σ' : L2.St), Inv (X.blk s3 H3 scope ce fp) [] σ' H' s' → Q (.ref D) H' → compPost (model X.prog X.w) X.A X.xe none (EP X pins σ Q) (.ref D) s3.heap.objs.size (.ok .next) s' := fun H' s' σ' I6 qq => by
    have I7 : Inv X pins σ H' s' := I3.call' (ch := fp) I6.os I6.base I6.hok I6.bare fun b hb => ⟨(f3 b hb).1.2.2.2.1, (f3 b hb).1.2.1, (f3 b hb).1.2.2.2.2.1, (f3 b hb).1.2.2.2.2.2⟩
    have nc : H' s3.heap.objs.size = none := cl ▸ (show H' ce.locals = none from I6.free)
    obtain ⟨m, hn, _⟩ := I6.loc
    have hn' : s'.heap.Ns s3.heap.objs.size m := cl ▸ (show s'.heap.Ns ce.locals m from hn)
    have g := I3.fpOk (H' := H') (Nat.le_refl _) nc
    exact ⟨m, hn', fun h2 sb => ⟨.ref D, H', I7.turned (t' := s'.toks) (fun b o hb e => (sb.2 b hb).trans e) g.1 g.2.1 g.2.2.2.1 g.2.2.2.2.1 g.2.2.2.2.2, rfl, qq⟩⟩
  have loop : codeAny (model X.prog X.w) X.A (.compLoop (.DictComp kx vx [⟨tg, iter, ifs, 0⟩] scope pos) 0 (.ref it) (.ref D) ce) (compPost (model X.prog X.w) X.A X.xe none (EP X pins σ Q) (.ref D) s3.heap.objs.size) s4 := by
    refine compLoop_anyD (fun n s' => ∃ i H', Inv (X.blk s3 H3 scope ce fp) [] (L2.wipe σ (own.map (·.2))) H' s' ∧ tn i s'.heap ∧ (∀ b ∈ fp, H' b = none) ∧ M i n H') (fun n s5 hI => ?_) m0 ⟨0, H3, I4, t4, n3, w0⟩
    obtain ⟨i, H5, I5, t5, n5, w5⟩ := hI
    rcases
          turn i n H5 w5 with ⟨stop, qq⟩ | ⟨go, Nx, hNx, step⟩
    · refine thnF (T.done (X.blk s3 H3 scope ce fp) rfl rfl rfl hc i [] s5 _ H5 (fun _ _ => False) I5 (okf I5 n5) t5 stop) fun r s6 ⟨hr, I6⟩ => ?_
      rw [hr]
      exact post H5 s6 _ I6 qq
    · refine thnF (T.item (X.blk s3 H3 scope ce fp) rfl rfl rfl hc i [] s5 _ H5 (fun _ _ => False) I5 (okf I5 n5) t5 go) fun r s6 ⟨u, hr, g6⟩ => ?_
      rw [hr]
      refine thnF g6 fun _ s7 ⟨x, H7, I7, r7, y7, t7, n7⟩ => thnF (pg.run _ s7 _ H7 x u _ (I7.pinned (okf I7 n7) (T.obj _ _ t7)) r7 (step x H7 y7)) fun _ s8 ⟨σ8, H8, I8, e8, q8⟩ => thnF (pt.run _ s8 σ8 H8 _ I8 q8) fun b s9 ⟨H9, I9, q9⟩ => ?_
      have back : ∀ {s' : Shared} {H' : Hp}, Inv (X.blk s3 H3 scope ce fp) ([] ++ pinsAt fp s7.heap) σ8 H' s' → Nx H' → ∃ m, m < n ∧ ∃ i H', Inv (X.blk s3 H3 scope ce fp) [] (L2.wipe σ (own.map (·.2))) H' s' ∧ tn i s'.heap ∧ (∀ b ∈ fp, H' b = none) ∧ M i m H' := by
        intro s' H' J nx
        obtain ⟨m', lt, w'⟩ := hNx H' nx
        have pin : ∀ b ∈ fp, ∀ o, s7.heap.get? b = some o → s'.heap.get? b = some o ∧ H' b = none := fun b hb o e => by
          obtain ⟨z1, z2, _⟩ := J.pin (b, o) (List.mem_append_right _ (List.mem_append_right _ (mem_pinsAt hb e)))
          exact ⟨z1, z2⟩
        refine ⟨m', lt, i + 1, H', (J.unpinned (pins := [])).weak (by rw [← e8, wipe_length]) (fun j v e => (wipe_some (e8 ▸ e)).1), T.keep _ _ _ t7 (fun b hb o e => (pin b hb o e).1), fun b hb => ?_, w'⟩
        obtain ⟨o, e, _⟩ := T.obj _ _ t7 b hb
        exact (pin b hb o e).2
      cases b with
      | false => exact back I9 (by simpa using q9)
      | true =>
        rw [if_pos rfl] at q9 ⊢
        refine thnF (pk.run _ s9 σ8 H9 _ I9 q9) fun _ s10 ⟨y, H10, I10, r10, q10⟩ => thnF (pv.run _ s10 σ8 H10 _ I10 q10) fun _ s11 ⟨z, H11, I11, r11, kvs, k, c, ey, h1, h2, hz, nx⟩ => ?_
        subst ey
        exact dp_store (X := X.blk s3 H3 scope ce fp) hu I11 h2 h1 hz r10 r11 fun s12 I12 => back I12 nx
  have fin := codeAny_compStart_dict loop (T.self X.A 0 _ _ _ t4 loop)
  rw [hs4, hce] at fin
  rw [hs3] at fin ⊢
  exact hD ▸ fin
end
section
variable {G : Cfg} {Γ : Fns} {N : List Str} {sc : Scope} {W : WX} {k : Nat} {X : Cx}
/-! ### .. with tuple keys -/
def dpF (Γ : Fns) (own : List Nat) (ρ : Env) (t : Tg) (c : Cs) (k e : E) : Val → CH → List (List Key × Val) → (List (List Key × Val) → CH → Prop) → Prop := fun x h acc K => setT t x (wipe own ρ) fun ρ' => wpCs Γ c ρ' h fun b h' =>
  (b = true → wpE Γ k ρ' h' (fun y h2 => wpE Γ e ρ' h2 (fun z h3 => ∃ kk, pkeyOf y = some kk ∧ acc.length < sizeLine ∧ K (vput acc kk z) h3) noX) noX) ∧ (b = false → K acc h')
def DpI (G : Cfg) (D : Addr) (h1 : CH) (H1 : Hp) (P : List (List Key × Val) → CH → Prop) (H' : Hp) : Prop :=
  ∃ h' acc vs, h' D = some junk ∧ H' D = some (.dT vs) ∧ RepP G H' h' acc vs ∧ HRep G H' h' ∧ Fra h1 H1 h' H' ∧ P acc h'
theorem dp_law {mu : Bool} {U : Hp → Hp → Prop} {own : List Nat} {t : Tg} {it : I} {c : Cs} {kk e : E} {σ : L2.St} {ρ : Env} {H : Hp} {h : CH} {Q : VP} {Q' : VK} {Xp : XP} (ht : tgIn own t = true)
    (o : Ok G σ ρ H h) (w : wpE Γ (.dp mu own t it c kk e) ρ h Q Xp) (fn : Fin G h H Q Q') (fx : FinX G W σ h H Xp) :
    tDp (rI G Γ W U it) (rG G t) (rCs G Γ c) (rE G Γ noW kk) (rE G Γ noW e) own σ H (fun v H' => ∃ H2, U H' H2 ∧ Q' v H2) := by
  refine ⟨ρ, h, _, Xp, o, w, fx, fun J H1 h1 xs stb hr1 kp itr bk w1 D nD => ?_⟩
  have hd : h1 D = none := hr1.gone nD
  have w1 : goL stb (dpF Γ own ρ t c kk e) xs (h1.set D junk) [] fun acc h' => Q (if mu then .ref D else .dtt acc) (if mu then h'.set D (.dtt acc) else h'.del D) := w1 D hd
  have sl0 : Slots G (L2.wipe σ own) (wipe own ρ) H1 h1 := (o.s.mono kp).wipe own
  refine ⟨fun i m H' => m = xs.length - i ∧ i ≤ xs.length ∧ DpI G D h1 H1 (fun acc h' => goL stb (dpF Γ own ρ t c kk e) (xs.drop i) h' acc fun acc h' => Q (if mu then .ref D else .dtt acc) (if mu then h'.set D (.dtt acc) else h'.del D)) H',
    ⟨xs.length, by simp, Nat.zero_le _, h1.set D junk, [], [], CH.set_same, upd_same, rfl, hr1.own nD (by rw [show ObAt G _ _ D junk = ∃ u, _ from rfl]; exact ⟨_, upd_same, fun vs z => by cases z⟩), Fra.own nD hd, w1⟩, ?_⟩
  rintro i m H' ⟨rfl, hi, h', acc, vs, hj, hD, ra, hr, f, w⟩
  by_cases hlt : i < xs.length
  · rw [List.drop_eq_getElem_cons hlt] at w
    obtain ⟨hst, w⟩ := w
    obtain ⟨it1, _⟩ := itr H' h' f.fro hr hst
    obtain ⟨go, y⟩ := it1 i _ (List.getElem?_eq_getElem hlt)
    refine .inr ⟨go, DpI G D h1 H1 (fun acc h' => goL stb (dpF Γ own ρ t c kk e) (xs.drop (i + 1)) h' acc fun acc h' => Q (if mu then .ref D else .dtt acc) (if mu then h'.set D (.dtt acc) else h'.del D)), fun H'' p => ⟨xs.length - (i + 1), by omega, rfl, hlt, p⟩, fun v H2 yl => ?_⟩
    obtain ⟨rx, hr2, f2⟩ := y v H2 yl
    refine ⟨wipe own ρ, h', xs[i], _, (sl0.mono f.kept).mono f2.kept, hr2, rx, w, fun σ' ρ' sl wp pw => ⟨(wp own ht).trans wipe_wipe, ρ', h', _, ⟨sl, hr2⟩, pw, fun b H3 h3 hr3 f3 q => ?_⟩⟩
    cases b with
    | false =>
      rw [if_neg (by decide)]
      have f23 := f2.trans f3
      obtain ⟨e1, e2⟩ := f23.j D hj
      exact ⟨h3, acc, vs, e2, e1.trans hD, RepP.mono f23.kept _ _ ra, hr3, f.trans f23, q.2 rfl⟩
    | true =>
      rw [if_pos rfl]
      refine ⟨ρ', h3, _, noX, ⟨sl.mono f3.kept, hr3⟩, q.1 rfl, fun u H4 x h4 ru hr4 f4 q4 => ?_, FinX.no⟩
      refine ⟨ρ', h4, _, noX, ⟨sl.mono (f3.trans f4).kept, hr4⟩, q4, fun u5 H5 z h5 ru5 hr5 f5 q5 => ?_, FinX.no⟩
      obtain ⟨key, ek, sz, q5⟩ := q5
      have f25 := ((f2.trans f3).trans f4).trans f5
      obtain ⟨e1, e2⟩ := f25.j D hj
      have kw : Kept h5 H5 h5 (upd H5 D (.dT (putK vs key u5))) := kept_write e2 fun _ _ => rfl
      obtain ⟨c5, ec5, hc5⟩ := rep_pkey (RepV.mono f5.kept _ _ ru) ek
      refine ⟨vs, key, c5, ec5, hc5, e1.trans hD, by rw [← ra.length]; exact sz, h5, vput acc key z, putK vs key u5, e2, upd_same, ?_, HRep.jw (fun vs z => by cases z) hr5 e2, (f.trans f25).out hd nD, q5⟩
      exact RepP.put (RepP.mono kw _ _ (RepP.mono f25.kept _ _ ra)) (RepV.mono kw _ _ ru5)
  · have ei : i = xs.length := by omega
    subst ei
    rw [List.drop_length] at w
    obtain ⟨hst, w⟩ := w
    obtain ⟨_, sp⟩ := itr H' h' f.fro hr hst
    cases mu with
    | false =>
      obtain ⟨Hf, u, fr, hrf, kf⟩ := bk (h'.del D) H' (f.undel hd) (hr.less fun a x => del_some)
      exact .inl ⟨sp, Hf, u, fn _ Hf (.dtt acc) (h'.del D) (RepV.mono kf (.dtt acc) (.ref D) ⟨D, vs, rfl, ⟨.inl hD, CH.del_same⟩, RepP.mono (kept_less fun a x => del_some) _ _ ra⟩) hrf fr w⟩
    | true =>
      have ks := kept_set (x := .dtt acc) hj (H := H')
      obtain ⟨Hf, u, fr, hrf, kf⟩ := bk (h'.set D (.dtt acc)) H' (f.reset hd nD) (hr.reset hj ⟨vs, hD, RepP.mono ks _ _ ra⟩)
      exact .inl ⟨sp, Hf, u, fn _ Hf (.ref D) (h'.set D (.dtt acc)) rfl hrf fr w⟩
end
end Vc
/-! Vc11: expressions, form by form. -/
namespace Vc
open PySem L2 PyProof.Rows
section
variable {G : Cfg} {Γ : Fns} {N : List Str} {sc : Scope} {W : WX} {k : Nat} {X : Cx}
/-- told, as a value and as a test -/
structure Ev (G : Cfg) (Γ : Fns) (W : WX) (X : Cx) (e : Expr) (m : E) : Prop where
  v : PE X e (rE G Γ W m)
  t : PT X e (rT G Γ W m)
theorem rT_tB {m : E} {t : TE} (i : ∀ σ H Q, rE G Γ W m σ H Q → t σ H Q) {σ : L2.St} {H : Hp} {Q : Bool → Hp → Prop} (z : rT G Γ W m σ H Q) : tB t σ H Q := by
  obtain ⟨ρ, h, Q0, Xp, o, w, fb, fx⟩ := z
  refine i σ H _ ⟨ρ, h, fun x h' => ∃ b, x = .bl b ∧ Q0 b h', Xp, o, w, fun v H' x h' rx hr f q => ?_, fx⟩
  obtain ⟨b, rfl, q⟩ := q
  exact ⟨b, rx, fb b H' h' hr f q⟩
theorem Ev.val {e : Expr} {m : E} (p : PE X e (rE G Γ W m)) (he : ∀ whole, isTrue e X.env whole = (do let v ← whole; standAt e.pos; holding [v] (truthy v)) := by intro _; rfl) : Ev G Γ W X e m :=
  ⟨p, pt_imp (pt_val p he) fun σ H Q z => rT_tB (fun _ _ _ z => z) z⟩
theorem rep_nk {h : CH} {H : Hp} : Kept noC noH h H where
  t := fun a vs n e => by cases e
  c := fun a u cu n e => by rcases e with e | ⟨o, e⟩ <;> cases e
  i := fun a C dx vs n e => by cases e
theorem c_var (g : Gd G Γ N sc W k X) {i : Nat} {x : Str} {p : Pos} (h : ckE N sc (.var i) (.Name x p) = true) : Ev G Γ W X (.Name x p) (.var i) := by
  obtain ⟨h1, h3⟩ := and2 (show (decide (N[i]? = some x) && visB sc x && dbg x) = true from h)
  obtain ⟨h1, h2⟩ := and2 h1
  obtain ⟨d1, d2⟩ := dbg1 h3
  refine .val (pe_imp (pe_var (g.ix (of_decide_eq_true h1)) (g.vis h2) d1 d2) fun σ H Q ⟨ρ, hh, Q0, Xp, o, ⟨y, e, q⟩, fn, fx⟩ => ?_)
  obtain ⟨v, e1, r⟩ := o.s.2 i y e
  exact ⟨v, e1, fin_v fn o.r r q⟩
theorem c_glo (g : Gd G Γ N sc W k X) {z x : Str} {p : Pos} (h : ckE N sc (.glo z) (.Name x p) = true) : Ev G Γ W X (.Name x p) (.glo z) := by
  obtain ⟨h1, h3⟩ := and2 (show (decide (z = x) && glB sc x && dbg x) = true from h)
  obtain ⟨h1, h2⟩ := and2 h1
  obtain ⟨d1, d2⟩ := dbg1 h3
  cases of_decide_eq_true h1
  refine .val ⟨fun pins s σ H Q I ⟨ρ, hh, Q0, Xp, o, ⟨y, e, q⟩, fn, fx⟩ => ?_⟩
  obtain ⟨u, vv, hm, r, rr⟩ := g.tab.gl _ y e
  exact (pe_glob (g.gl h2) hm r d1).run pins s σ H Q I (fin_v fn o.r (RepV.mono rep_nk _ _ rr) q)
theorem c_cst {v : Val} {c : Const} {j p} (h : constB v c = true) : Ev G Γ W X (.Constant c j p) (.cst v) := by
  cases v with
  | non => cases c with
    | none => exact .val (pe_imp pe_non fun σ H Q ⟨ρ, hh, Q0, Xp, o, q, fn, fx⟩ => fin_v (x := .non) fn o.r rfl q)
    | _ => cases h
  | bl b => cases c with
    | bool d =>
      have e : b = d := by simpa [constB] using h
      subst e
      exact .val (pe_imp pe_bl fun σ H Q ⟨ρ, hh, Q0, Xp, o, q, fn, fx⟩ => fin_v (x := .bl b) fn o.r rfl q)
    | _ => cases h
  | int i => cases c with
    | int d =>
      have e : i = d := by simpa [constB] using h
      subst e
      exact .val (pe_imp pe_int fun σ H Q ⟨ρ, hh, Q0, Xp, o, q, fn, fx⟩ => fin_v (x := .int i) fn o.r rfl q)
    | _ => cases h
  | str i => cases c with
    | str d =>
      have e : i = d := by simpa [constB] using h
      subst e
      exact .val (pe_imp pe_str fun σ H Q ⟨ρ, hh, Q0, Xp, o, q, fn, fx⟩ => fin_v (x := .str i) fn o.r rfl q)
    | _ => cases h
  | _ => cases c <;> cases h
theorem c_tup {es : List Expr} {m : Es} {kk p} (a : PA X es (rA G Γ W m)) : Ev G Γ W X (.Tuple es kk p) (.tup m) := by
  refine .val (pe_imp (pe_tup a) fun σ H Q ⟨ρ, h, Q0, Xp, o, w, fn, fx⟩ => ⟨ρ, h, _, Xp, o, w, fun vs H' xs h' rl hr f ⟨l, q⟩ => ⟨by rw [← rl.length]; exact l, fun p np => ?_⟩, fx⟩)
  exact fn _ _ (.tup xs) h' (rep_newT rl hr np) (hr.new np) (f.trans (Fra.new np (hr.gone np))) q
theorem c_dsp {es : List Expr} {m : Es} {p} (a : PA X es (rA G Γ W m)) : Ev G Γ W X (.List es p) (.dsp m) := by
  refine .val (pe_imp (pe_lst a) fun σ H Q ⟨ρ, h, Q0, Xp, o, w, fn, fx⟩ => ⟨ρ, h, _, Xp, o, w, fun vs H' xs h' rl hr f ⟨l, q⟩ => ⟨by rw [← rl.length]; exact l, fun p np => ?_⟩, fx⟩)
  exact fn _ _ (.lst xs) h' (rep_newL rl hr np) (hr.new np) (f.trans (Fra.new np (hr.gone np))) q
theorem c_new {es : List Expr} {m : Es} {p} (a : PA X es (rA G Γ W m)) : Ev G Γ W X (.List es p) (.new m) := by
  refine .val (pe_imp (pe_lst a) fun σ H Q ⟨ρ, h, Q0, Xp, o, w, fn, fx⟩ => ⟨ρ, h, _, Xp, o, w, fun vs H' xs h' rl hr f ⟨l, q⟩ => ⟨by rw [← rl.length]; exact l, fun p np => ?_⟩, fx⟩)
  refine fn _ _ (.ref p) (h'.set p (.lst xs)) rfl (hr.own np ⟨vs, upd_same, RepL.mono (Fra.own np (hr.gone np)).kept _ _ rl⟩) (f.trans (Fra.own np (hr.gone np))) (q p (hr.gone np))
theorem c_dnw {p} : Ev G Γ W X (.Dict [] [] p) .dnw := by
  refine .val (pe_imp pe_dnewK fun σ H Q ⟨ρ, h, Q0, Xp, o, w, fn, fx⟩ p np => ?_)
  exact fn _ _ (.ref p) (h.set p (.dct [])) rfl (o.r.own np ⟨[], upd_same, rfl⟩) (Fra.own np (o.r.gone np)) (w p (o.r.gone np))
theorem c_pnw {p} : Ev G Γ W X (.Dict [] [] p) .pnw := by
  refine .val (pe_imp pe_dnewT fun σ H Q ⟨ρ, h, Q0, Xp, o, w, fn, fx⟩ p np => ?_)
  exact fn _ _ (.ref p) (h.set p (.dtt [])) rfl (o.r.own np ⟨[], upd_same, rfl⟩) (Fra.own np (o.r.gone np)) (w p (o.r.gone np))
theorem c_bin (g : Gd G Γ N sc W k X) {op : Operator} {a b : Expr} {ma mb : E} {p} (pa : PE X a (rE G Γ W ma)) (pb : PE X b (rE G Γ W mb)) : Ev G Γ W X (.BinOp a op b p) (.bin op ma mb) := by
  refine .val (pe_imp (pe_op (op_sound g.K op) pa pb) fun σ H Q ⟨ρ, h, Q0, Xp, o, w, fn, fx⟩ => two o w fx fun x y v u H2 h2 rx ry hr f q => ⟨x, y, h2, Q0, rx, ry, hr, q, fun v H' x h' rx hr f2 q => fn v H' x h' rx hr (f.trans f2) q⟩)
theorem c_neg {a : Expr} {ma : E} {p} (pa : PE X a (rE G Γ W ma)) : Ev G Γ W X (.UnaryOp .USub a p) (.neg ma) := by
  refine .val (pe_imp (pe_un un_neg pa) fun σ H Q ⟨ρ, h, Q0, Xp, o, w, fn, fx⟩ => one o w fx fun x v H2 h2 rx hr f q => ?_)
  obtain ⟨i, rfl, q⟩ := q
  exact ⟨i, rx, fn _ H2 (.int (-i)) h2 rfl hr f q⟩
theorem c_not {a : Expr} {ma : E} {p} (pa : Ev G Γ W X a ma) : Ev G Γ W X (.UnaryOp .Not a p) (.not ma) := by
  constructor
  · refine pe_imp (pe_not pa.v) fun σ H Q ⟨ρ, h, Q0, Xp, o, w, fn, fx⟩ => one o w fx fun x v H2 h2 rx hr f q => ?_
    obtain ⟨i, rfl, q⟩ := q
    exact ⟨i, rx, fn _ H2 (.bl (!i)) h2 rfl hr f q⟩
  · refine pt_imp (pt_not pa.t) fun σ H Q ⟨ρ, h, Q0, Xp, o, w, fb, fx⟩ => ⟨ρ, h, fun b h1 => Q0 (!b) h1, Xp, o, ?_, fun b H' h' hr f q => fb (!b) H' h' hr f q, fx⟩
    have e : (fun x h1 => ∃ b, x = Val.bl b ∧ (fun x h' => ∃ b, x = Val.bl b ∧ Q0 b h') (.bl (!b)) h1) = fun x h1 => ∃ b, x = Val.bl b ∧ Q0 (!b) h1 := by
      funext x h1
      apply propext
      constructor
      · rintro ⟨b, rfl, b', e, q⟩
        cases e
        exact ⟨b, rfl, q⟩
      · rintro ⟨b, rfl, q⟩
        exact ⟨b, rfl, !b, rfl, q⟩
    rw [← e]
    exact w
theorem Ev.cmp {a b : Expr} {op : CmpOp} {r : R2} {ta tb : TE} {m : E} {p} (ho : OpR X (compareOp op) r) (ha : PE X a ta) (hb : PE X b tb) (hm : behindInMarks op b = false)
    (i : ∀ σ H Q, rE G Γ W m σ H Q → tOp r ta tb σ H Q) : Ev G Γ W X (.Compare a [op] [b] p) m :=
  ⟨pe_imp (pe_cmpR ho ha hb hm) i, pt_imp (pt_cmpR ho ha hb hm) fun σ H Q z => rT_tB i z⟩
theorem c_cmp (g : Gd G Γ N sc W k X) {op : CmpOp} {a b : Expr} {ma mb : E} {p} (pa : PE X a (rE G Γ W ma)) (pb : PE X b (rE G Γ W mb)) (pl : plainE b = true) : Ev G Γ W X (.Compare a [op] [b] p) (.cmp op ma mb) :=
  .cmp (cmp_sound g.K g.rm op) pa pb (mark_plain pl) fun σ H Q ⟨ρ, h, Q0, Xp, o, w, fn, fx⟩ => two o w fx fun x y v u H2 h2 rx ry hr f q => ⟨x, y, h2, Q0, rx, ry, hr, q, fun v H' x h' rx hr f2 q => fn v H' x h' rx hr (f.trans f2) q⟩
theorem rep_non {H : Hp} {h : CH} {x : Val} {v : V} (r : RepV G H h x v) : decide (v = .non) = isNon x := by
  cases x with
  | non => cases (show v = .non from r); rfl
  | bl b => cases (show v = .bl b from r); rfl
  | int b => cases (show v = .int b from r); rfl
  | str b => cases (show v = .str b from r); rfl
  | tup xs => obtain ⟨a, vs, e, _⟩ := r; subst e; rfl
  | lst xs => obtain ⟨a, vs, e, _⟩ := r; subst e; rfl
  | dct xs => obtain ⟨a, vs, e, _⟩ := r; subst e; rfl
  | dtt xs => obtain ⟨a, vs, e, _⟩ := r; subst e; rfl
  | obj C xs => obtain ⟨a, dx, vs, e, _⟩ := r; subst e; rfl
  | ref a => cases (show v = .ref a from r); rfl
  | fn x => cases (show v = .ref _ from r); rfl
  | kd _ => exact r.elim
theorem c_isn {a : Expr} {ma : E} {j p p2} (pa : PE X a (rE G Γ W ma)) : Ev G Γ W X (.Compare a [.Is] [.Constant .none j p2] p) (.isn ma) :=
  .cmp op_isN pa pe_non rfl fun σ H Q ⟨ρ, h, Q0, Xp, o, w, fn, fx⟩ => one o w fx fun x v H2 h2 rx hr f q => ⟨rfl, by rw [rep_non rx]; exact fn _ H2 (.bl _) h2 rfl hr f q⟩
theorem c_ntn {a : Expr} {ma : E} {j p p2} (pa : PE X a (rE G Γ W ma)) : Ev G Γ W X (.Compare a [.IsNot] [.Constant .none j p2] p) (.ntn ma) :=
  .cmp op_notN pa pe_non rfl fun σ H Q ⟨ρ, h, Q0, Xp, o, w, fn, fx⟩ => one o w fx fun x v H2 h2 rx hr f q => ⟨rfl, by rw [rep_non rx]; exact fn _ H2 (.bl _) h2 rfl hr f q⟩
theorem c_isb {a b : Expr} {ma mb : E} {p} {n : Bool} (pa : PE X a (rE G Γ W ma)) (pb : PE X b (rE G Γ W mb)) (pl : plainE b = true) : Ev G Γ W X (.Compare a [if n then .IsNot else .Is] [b] p) (.isb n ma mb) := by
  cases n with
  | true =>
    refine .cmp op_isnot_bl pa pb (mark_plain pl) fun σ H Q ⟨ρ, h, Q0, Xp, o, w, fn, fx⟩ => two o w fx fun x y v u H2 h2 rx ry hr f q => ?_
    obtain ⟨c, d, rfl, rfl, q⟩ := q
    exact ⟨c, d, rx, ry, fn _ H2 (.bl _) h2 rfl hr f q⟩
  | false =>
    refine .cmp op_is_bl pa pb (mark_plain pl) fun σ H Q ⟨ρ, h, Q0, Xp, o, w, fn, fx⟩ => two o w fx fun x y v u H2 h2 rx ry hr f q => ?_
    obtain ⟨c, d, rfl, rfl, q⟩ := q
    exact ⟨c, d, rx, ry, fn _ H2 (.bl _) h2 rfl hr f q⟩
theorem chain_plain {o o' : CmpOp} {b c : Expr} (h1 : plainE b = true) (h2 : plainE c = true) : lastMarks [o, o'] [b, c] = false := by
  cases b <;> first | (cases h1; done) | (cases c <;> first | (cases h2; done) | rfl)
theorem c_chn (g : Gd G Γ N sc W k X) {op op' : CmpOp} {a b c : Expr} {ma mb mc : E} {p} (pa : PE X a (rE G Γ W ma)) (pb : PE X b (rE G Γ W mb)) (pc : PE X c (rE G Γ W mc)) (pl : plainE b = true) (pl2 : plainE c = true) : Ev G Γ W X (.Compare a [op, op'] [b, c] p) (.chn op op' ma mb mc) := by
  have i : ∀ σ H Q, rE G Γ W (.chn op op' ma mb mc) σ H Q → tChain (RO G (cmpV op)) (RO G (cmpV op')) (rE G Γ W ma) (rE G Γ W mb) (rE G Γ W mc) σ H Q := fun σ H Q ⟨ρ, h, Q0, Xp, o, w, fn, fx⟩ => by
    refine two o w fx fun x y v u H2 h2 rx ry hr f q => ⟨x, y, h2, _, rx, ry, hr, q, fun z H3 zx h3 rz hr3 f3 q3 => ?_⟩
    rw [branch_iff] at q3
    obtain ⟨b, rfl, q4, q5⟩ := q3
    refine ⟨b, rz, ?_⟩
    cases b with
    | false => exact fn _ H3 (.bl false) h3 rfl hr3 (f.trans f3) (q5 rfl)
    | true =>
      have f03 := f.trans f3
      exact ⟨ρ, h3, _, Xp, o.next f03 hr3, q4 rfl, fun w' H4 wx h4 rw' hr4 f4 q6 => ⟨y, wx, h4, Q0, RepV.mono (f3.trans f4).kept _ _ ry, rw', hr4, q6, fun v H' x h' rx hr f5 q => fn v H' x h' rx hr ((f03.trans f4).trans f5) q⟩, fx.next f03⟩
  exact ⟨pe_imp (pe_chain (cmp_sound g.K g.rm op) (cmp_sound g.K g.rm op') pa pb pc (chain_plain pl pl2)) i, pt_imp (pt_chain (cmp_sound g.K g.rm op) (cmp_sound g.K g.rm op') pa pb pc (chain_plain pl pl2)) fun σ H Q z => rT_tB i z⟩
end
end Vc
/-! Vc12: calls, and, or, subscripts. -/
namespace Vc
open PySem L2 PyProof.Rows
theorem meth_any {M : Model} {A : Around} {E : Value → Shared → Prop} {s : Shared} {env : PySem.Env} {o : Expr} {name : Str} {apos pos : Pos} {args : List Expr} {Q : Value → Shared → Prop}
    (hbase :
          attributeBase o name env (eval o env) = eval o env)
    (hfew : ((backTo pos (starEach args env)).all (fun x => !x.1) && (backToKw pos (keywordEach [] env)).all (fun x => x.1.isSome) && decide (args.length + ([] : List Keyword).length + (if ([] : List Keyword).isEmpty then 0 else 1) < 30)) = true)
    (hline :
          (apos.endLine == pos.line) = true)
    (h : wpAny M A (eval o env) (fun ov s₁ => ∀ pl, wpAny M A (getMethod ov name pl) (fun fx s₂ => wpAny M A (callWith pos fx.1 fx.2 (backTo pos (starEach args env)) (backToKw pos (keywordEach [] env))) Q E s₂) E s₁) E s) :
    wpAny
          M A (eval (.Call (.Attribute o name apos) args [] pos) env) Q E s := by
  rw [arm_eval_Call, hbase]
  refine
        wpAny_bind (wpAny_mono h (fun ov s₁ h₁ => ?_) fun _ _ e => e)
  refine
        wpAny_bind (wpAny_standAt ?_)
  have hform : methodCallForm (args.length + ([] : List Keyword).length) (backTo pos (starEach args env)) (backToKw pos (keywordEach [] env)) = true :=
        hfew
  have hpos : methodCallPos true o env apos pos = pure pos :=
        by unfold methodCallPos; simp [hline]
  unfold methodCall
  rw [hform]
  refine
        wpAny_bind (wpAny_holding ?_)
  unfold calleeOf
  exact wpAny_mono (h₁ _) (fun fx s₂ h₂ => wpAny_bind (wpAny_of_eq hpos h₂)) fun _ _ e => e
section
variable {G : Cfg} {Γ : Fns} {N : List Str} {sc : Scope} {W : WX} {k : Nat} {X : Cx}
/-! ### and, or, if -/
theorem PW.of {op : BoolOp} {vs : List Expr} {p : Pos} {t : TT} (h : PT X (.BoolOp op vs p) t) : PW X (.BoolOp op vs p) t := ⟨fun wh pins s σ H Q I q => by
  have := h.run pins s σ H Q I q
  exact this⟩
theorem and_i {ma mb : E} {ta tb : TE} (ia : ∀ σ H Q, rE G Γ W ma σ H Q → ta σ H Q) (ib : ∀ σ H Q, rE G Γ W mb σ H Q → tb σ H Q) : ∀ σ H Q, rE G Γ W (.and ma mb) σ H Q → tAndV ta tb σ H Q := fun σ H Q ⟨ρ, h, Q0, Xp, o, w, fn, fx⟩ => by
  refine ia σ H _ (one o w fx fun x v H2 h2 rx hr f q => ?_)
  rw [branch_iff] at q
  obtain ⟨b, rfl, q1, q2⟩ := q
  refine ⟨b, rx, ?_⟩
  cases b with
  | false => exact fn _ H2 (.bl false) h2 rfl hr f (q2 rfl)
  | true => exact ib σ H2 Q ⟨ρ, h2, Q0, Xp, o.next f hr, q1 rfl, fun v H' x h' rx hr f2 q => fn v H' x h' rx hr (f.trans f2) q, fx.next f⟩
theorem or_i {ma mb : E} {ta tb : TE} (ia : ∀ σ H Q, rE G Γ W ma σ H Q → ta σ H Q) (ib : ∀ σ H Q, rE G Γ W mb σ H Q → tb σ H Q) : ∀ σ H Q, rE G Γ W (.or ma mb) σ H Q → tOrV ta tb σ H Q := fun σ H Q ⟨ρ, h, Q0, Xp, o, w, fn, fx⟩ => by
  refine ia σ H _ (one o w fx fun x v H2 h2 rx hr f q => ?_)
  rw [branch_iff] at q
  obtain ⟨b, rfl, q1, q2⟩ := q
  refine ⟨b, rx, ?_⟩
  cases b with
  | true => exact fn _ H2 (.bl true) h2 rfl hr f (q1 rfl)
  | false => exact ib σ H2 Q ⟨ρ, h2, Q0, Xp, o.next f hr, q2 rfl, fun v H' x h' rx hr f2 q => fn v H' x h' rx hr (f.trans f2) q, fx.next f⟩
theorem bl_as {Q0 : Bool → CH → Prop} {A : Prop} {h1 : CH} {b : Bool} : (fun x h' => ∃ b, x = Val.bl b ∧ Q0 b h') (.bl b) h1 = Q0 b h1 := by
  apply propext
  constructor
  · rintro ⟨b', e, q⟩
    cases e
    exact q
  · intro q
    exact ⟨b, rfl, q⟩
theorem and_t {ma mb : E} : ∀ σ H Q, rT G Γ W (.and ma mb) σ H Q → tAnd (rT G Γ W ma) (rT G Γ W mb) σ H Q := fun σ H Q ⟨ρ, h, Q0, Xp, o, w, fb, fx⟩ => by
  have w' : wpE Γ ma ρ h (fun x h1 => branch x (wpE Γ mb ρ h1 (fun x h' => ∃ b, x = .bl b ∧ Q0 b h') Xp) (∃ b, Val.bl false = .bl b ∧ Q0 b h1)) Xp := w
  have e : (fun x h1 => branch x (wpE Γ mb ρ h1 (fun x h' => ∃ b, x = .bl b ∧ Q0 b h') Xp) (∃ b, Val.bl false = .bl b ∧ Q0 b h1)) = fun x h1 => ∃ b, x = .bl b ∧ ((b = true → wpE Γ mb ρ h1 (fun x h' => ∃ b, x = .bl b ∧ Q0 b h') Xp) ∧ (b = false → ∃ b, Val.bl false = .bl b ∧ Q0 b h1)) := by
    funext x h1; exact branch_iff
  rw [e] at w'
  refine ⟨ρ, h, _, Xp, o, w', fun b H2 h2 hr f q => ?_, fx⟩
  cases b with
  | false =>
    obtain ⟨b, e, q⟩ := q.2 rfl
    cases e
    exact fb false H2 h2 hr f q
  | true => exact ⟨ρ, h2, Q0, Xp, o.next f hr, q.1 rfl, fun b H' h' hr f2 q => fb b H' h' hr (f.trans f2) q, fx.next f⟩
theorem or_t {ma mb : E} : ∀ σ H Q, rT G Γ W (.or ma mb) σ H Q → tOr (rT G Γ W ma) (rT G Γ W mb) σ H Q := fun σ H Q ⟨ρ, h, Q0, Xp, o, w, fb, fx⟩ => by
  have w' : wpE Γ ma ρ h (fun x h1 => branch x (∃ b, Val.bl true = .bl b ∧ Q0 b h1) (wpE Γ mb ρ h1 (fun x h' => ∃ b, x = .bl b ∧ Q0 b h') Xp)) Xp := w
  have e : (fun x h1 => branch x (∃ b, Val.bl true = .bl b ∧ Q0 b h1) (wpE Γ mb ρ h1 (fun x h' => ∃ b, x = .bl b ∧ Q0 b h') Xp)) = fun x h1 => ∃ b, x = .bl b ∧ ((b = true → ∃ b, Val.bl true = .bl b ∧ Q0 b h1) ∧ (b = false → wpE Γ mb ρ h1 (fun x h' => ∃ b, x = .bl b ∧ Q0 b h') Xp)) := by
    funext x h1; exact branch_iff
  rw [e] at w'
  refine ⟨ρ, h, _, Xp, o, w', fun b H2 h2 hr f q => ?_, fx⟩
  cases b with
  | true =>
    obtain ⟨b, e, q⟩ := q.1 rfl
    cases e
    exact fb true H2 h2 hr f q
  | false => exact ⟨ρ, h2, Q0, Xp, o.next f hr, q.2 rfl, fun b H' h' hr f2 q => fb b H' h' hr (f.trans f2) q, fx.next f⟩
theorem ev_one {op : BoolOp} {y : Expr} {m : E} {p} (h : Ev G Γ W X y m) : Ev G Γ W X (.BoolOp op [y] p) m := by
  refine ⟨pe_one h.v, ?_⟩
  cases op with
  | And => exact (pw_and1 h.t).pt
  | Or => exact (pw_or1 h.t).pt
theorem c_and {x y : Expr} {r : List Expr} {ma mb : E} {p} (ha : Ev G Γ W X x ma) (hb : Ev G Γ W X (.BoolOp .And (y :: r) p) mb) : Ev G Γ W X (.BoolOp .And (x :: y :: r) p) (.and ma mb) :=
  ⟨pe_imp (pe_and ha.v hb.v) (and_i (fun _ _ _ z => z) fun _ _ _ z => z), pt_imp (pw_and ha.t (PW.of hb.t)).pt and_t⟩
theorem c_or {x y : Expr} {r : List Expr} {ma mb : E} {p} (ha : Ev G Γ W X x ma) (hb : Ev G Γ W X (.BoolOp .Or (y :: r) p) mb) : Ev G Γ W X (.BoolOp .Or (x :: y :: r) p) (.or ma mb) :=
  ⟨pe_imp (pe_or ha.v hb.v) (or_i (fun _ _ _ z => z) fun _ _ _ z => z), pt_imp (pw_or ha.t (PW.of hb.t)).pt or_t⟩
theorem pt_ife {c a b : Expr} {tc ta tb : TT} {p} (hc : PT X c tc) (ha : PT X a ta) (hb : PT X b tb) : PT X (.IfExp c a b p) (fun σ H Q => tc σ H fun d H1 => if d = true then ta σ H1 Q else tb σ H1 Q) := by
  refine
        ⟨fun pins s σ H Q I h => ?_⟩
  show wpAny _ X.A (do
    if ← isTrue c X.env (eval c X.env) then isTrue a X.env (eval a X.env) else isTrue b X.env (eval b X.env)) _ _ s
  refine wpAny_bind (thn (hc.run pins s σ H _ I h) fun d s1 ⟨H1, I1, q1⟩ => ?_)
  cases d with
  | true => exact
        ha.run pins s1 σ H1 Q I1 q1
  | false => exact
        hb.run pins s1 σ H1 Q I1 q1
theorem if_test {mc : E} {ρ : Env} {h : CH} {A B : CH → Prop} {Xp : XP} (w : wpE Γ mc ρ h (fun x h1 => branch x (A h1) (B h1)) Xp) : wpE Γ mc ρ h (fun x h' => ∃ b, x = .bl b ∧ (fun b h' => (b = true → A h') ∧ (b = false → B h')) b h') Xp := by
  have e : (fun x h1 => branch x (A h1) (B h1)) = fun x h' => ∃ b, x = .bl b ∧ ((b = true → A h') ∧ (b = false → B h')) := by
    funext x h1; exact branch_iff
  rw [← e]
  exact w
theorem c_ife {c a b : Expr} {mc ma mb : E} {p} (hc : Ev G Γ W X c mc) (ha : Ev G Γ W X a ma) (hb : Ev G Γ W X b mb) : Ev G Γ W X (.IfExp c a b p) (.ife mc ma mb) := by
  constructor
  · refine pe_imp (pe_ifExp hc.t ha.v hb.v) fun σ H Q ⟨ρ, h, Q0, Xp, o, w, fn, fx⟩ => ⟨ρ, h, _, Xp, o, if_test w, fun d H2 h2 hr f q => ?_, fx⟩
    cases d with
    | true => exact ⟨ρ, h2, Q0, Xp, o.next f hr, q.1 rfl, fun v H' x h' rx hr f2 q => fn v H' x h' rx hr (f.trans f2) q, fx.next f⟩
    | false => exact ⟨ρ, h2, Q0, Xp, o.next f hr, q.2 rfl, fun v H' x h' rx hr f2 q => fn v H' x h' rx hr (f.trans f2) q, fx.next f⟩
  · refine pt_imp (pt_ife hc.t ha.t hb.t) fun σ H Q ⟨ρ, h, Q0, Xp, o, w, fb, fx⟩ => ⟨ρ, h, _, Xp, o, if_test w, fun d H2 h2 hr f q => ?_, fx⟩
    cases d with
    | true => exact ⟨ρ, h2, Q0, Xp, o.next f hr, q.1 rfl, fun b H' h' hr f2 q => fb b H' h' hr (f.trans f2) q, fx.next f⟩
    | false => exact ⟨ρ, h2, Q0, Xp, o.next f hr, q.2 rfl, fun b H' h' hr f2 q => fb b H' h' hr (f.trans f2) q, fx.next f⟩
/-! ### subscripts, fields -/
theorem c_ix (g : Gd G Γ N sc W k X) {a b : Expr} {ma mb : E} {p} (pa : PE X a (rE G Γ W ma)) (pb : PE X b (rE G Γ W mb)) (pl : plainE b = true) : Ev G Γ W X (.Subscript a b p) (.ix ma mb) :=
  .val (pe_imp (pe_ix (ix_sound g.K g.rm) pa pb (ix_plain pl)) fun σ H Q ⟨ρ, h, Q0, Xp, o, w, fn, fx⟩ => two o w fx fun x y v u H2 h2 rx ry hr f q => ⟨x, y, h2, Q0, rx, ry, hr, q, fun v H' x h' rx hr f2 q => fn v H' x h' rx hr (f.trans f2) q⟩)
def rO (G : Cfg) (Γ : Fns) (W : WX) (m : Op) : TO := fun σ H Q' => ∃ ρ h Q Xp, Ok G σ ρ H h ∧ wpO Γ m ρ h Q Xp ∧ (∀ i H' h', HRep G H' h' → Fra h H h' H' → Q i h' → Q' i H') ∧ FinX G W σ h H Xp
theorem po_imp {e : Option Expr} {t t' : TO} (p : PO X e t) (h : ∀ σ H Q, t' σ H Q → t σ H Q) : PO X e t' := ⟨fun pins s σ H Q I q => p.run pins s σ H Q I (h σ H Q q)⟩
theorem o_none : PO X none (rO G Γ W .no) := po_imp po_none fun σ H Q ⟨ρ, h, Q0, Xp, o, w, fn, fx⟩ => fn none H h o.r Fra.refl w
theorem o_some {e : Expr} {m : E} (p : PE X e (rE G Γ W m)) : PO X (some e) (rO G Γ W (.so m)) := po_imp (po_some p) fun σ H Q ⟨ρ, h, Q0, Xp, o, w, fn, fx⟩ => one o w fx fun x v H2 h2 rx hr f q => by
  obtain ⟨i, rfl, q⟩ := q
  exact ⟨i, rx, fn _ H2 h2 hr f q⟩
theorem c_sl (g : Gd G Γ N sc W k X) {a : Expr} {lo hi : Option Expr} {ma : E} {ml mh : Op} {p p2} (pa : PE X a (rE G Γ W ma)) (pl : PO X lo (rO G Γ W ml)) (ph : PO X hi (rO G Γ W mh)) : Ev G Γ W X (.Subscript a (.Slice lo hi none p2) p) (.sl ma ml mh) := by
  refine .val (pe_imp (pe_slice (SlR.or sl_list sl_tupA) pa pl ph) fun σ H Q ⟨ρ, h, Q0, Xp, o, w, fn, fx⟩ => one o w fx fun x v H1 h1 rx hr1 f1 w1 => ⟨ρ, h1, _, Xp, o.next f1 hr1, w1, fun i H2 h2 hr2 f2 w2 => ?_, fx.next f1⟩)
  have f12 := f1.trans f2
  refine ⟨ρ, h2, _, Xp, o.next f12 hr2, w2, fun j H3 h3 hr3 f3 w3 => ?_, fx.next f12⟩
  have rx3 := RepV.mono (f2.trans f3).kept _ _ rx
  have f03 := f12.trans f3
  rcases w3 with ⟨xs, e, q⟩ | ⟨xs, rfl, q⟩
  · obtain ⟨b, vs, ev, sq, rl⟩ := rep_rdL rx3 hr3 e
    refine .inl ⟨b, vs, ev, by rw [g.K]; exact sq, fun p np => ?_⟩
    have rc : RepL G H3 h3 (cutL xs i j) (cutV vs i j) := by
      unfold cutL cutV
      rw [← rl.length]
      exact (rl.drop _).take _
    exact fn _ _ (.lst _) h3 (rep_newL rc hr3 np) (hr3.new np) (f03.trans (Fra.new np (hr3.gone np))) q
  · obtain ⟨b, vs, ev, sq, rl⟩ := rep_tup rx3
    refine .inr ⟨b, vs, ev, by rw [g.K]; exact sq, fun hw => ?_, fun _ p np => ?_⟩
    · have e : cutL xs i j = xs := by
        unfold cutL
        rw [rl.length, hw.1, hw.2, ← rl.length]
        simp
      rw [e] at q
      subst ev
      exact fn _ _ (.tup xs) h3 rx3 hr3 f03 q
    · have rc : RepL G H3 h3 (cutL xs i j) (cutV vs i j) := by
        unfold cutL cutV
        rw [← rl.length]
        exact (rl.drop _).take _
      exact fn _ _ (.tup _) h3 (rep_newT rc hr3 np) (hr3.new np) (f03.trans (Fra.new np (hr3.gone np))) q
theorem c_fld (g : Gd G Γ N sc W k X) {a : Expr} {f : Str} {ma : E} {p} (pa : PE X a (rE G Γ W ma)) (nb : noBase a = true) : Ev G Γ W X (.Attribute a f p) (.fld ma f) := by
  refine .val (pe_imp (pe_fld pa (base_plain nb)) fun σ H Q ⟨ρ, h, Q0, Xp, o, w, fn, fx⟩ => one o w fx fun x v H2 h2 rx hr fr q => ?_)
  obtain ⟨C, fs, y, e, hf, l, q⟩ := q
  obtain ⟨b, dx, vs, ev, eb, rf⟩ := rep_rdO rx hr e
  obtain ⟨c1, c2⟩ := g.tab.fld _ _ hf
  obtain ⟨u, lu, ru⟩ := (rf.look (f := f)).1 y l
  exact ⟨b, G.cad C, dx, vs, u, ev, eb, c1, c2, lu, fn _ H2 y h2 ru hr fr q⟩
end
end Vc
/-! Vc13: calls; every expression. -/
namespace Vc
open PySem L2 PyProof.Rows
section
variable {G : Cfg} {Γ : Fns} {N : List Str} {sc : Scope} {W : WX} {k : Nat} {X : Cx}
/-! ### argument lists -/
theorem a_nil : PA X [] (rA G Γ W .nil) := pa_imp pa_nil fun σ H Q ⟨ρ, h, Q0, Xp, o, w, fn, fx⟩ => fn [] H [] h rfl o.r Fra.refl w
theorem a_cons {e : Expr} {es : List Expr} {m : E} {ms : Es} (pe : PE X e (rE G Γ W m)) (ps : PA X es (rA G Γ W ms)) (pl : plainE e = true) : PA X (e :: es) (rA G Γ W (.cons m ms)) :=
  pa_imp (pa_cons pe ps (star_plain pl)) fun σ H Q ⟨ρ, h, Q0, Xp, o, w, fn, fx⟩ => one o w fx fun x v H1 h1 rx hr1 f1 w1 =>
    ⟨ρ, h1, _, Xp, o.next f1 hr1, w1, fun vs H2 xs h2 rl hr2 f2 q => fn (v :: vs) H2 (x :: xs) h2 (RepL.cons (RepV.mono f2.kept _ _ rx) rl) hr2 (f1.trans f2) q, fx.next f1⟩
/-! ### calls of defs -/
theorem lift_in {n : Nat} {sp : Spec} {xs : List Val} {vs : List V} {h : CH} {H : Hp} {Q : VP} {Q' : VK} {Xp : XP} {σ : L2.St} (l : xs.length = n) (rl : RepL G H h xs vs) (hr : HRep G H h) (w : sp xs h Q Xp) (fn : Fin G h H Q Q') (fx : FinX G W σ h H Xp) :
    lift G n sp vs H Q' (WE W σ) := ⟨xs, h, Q, Xp, l, rl, hr, w, fun v H' x h' rx hr' f q => fn v H' x h' rx hr' f q, fun C H' h' hr' f q => fx C H' h' hr' f q⟩
theorem rA_call {ms : Es} {ρ : Env} {h : CH} {H : Hp} {σ : L2.St} {Q0 : VP} {Q : VK} {Xp : XP} {n : Nat} {sp : Spec} (ar : arity sp n) (o : Ok G σ ρ H h) (w : wpEs Γ ms ρ h (fun vs h1 => sp vs h1 Q0 Xp) Xp) (fn : Fin G h H Q0 Q) (fx : FinX G W σ h H Xp) :
    rA G Γ W ms σ H fun vs H1 => lift G n sp vs H1 Q (WE W σ) :=
  ⟨ρ, h, _, Xp, o, w, fun vs H1 xs h1 rl hr1 f1 q => lift_in (ar _ _ _ _ q) rl hr1 q (fun v H' x h' rx hr f q => fn v H' x h' rx hr (f1.trans f) q) (fx.next f1), fx⟩
theorem rA_nil {ms : Es} {σ : L2.St} {H : Hp} {R : List V → Hp → Prop} (h : ckEs N sc ms [] = true) (z : rA G Γ W ms σ H R) : R [] H := by
  cases ms with
  | nil =>
    obtain ⟨ρ, h, Q0, Xp, o, w, fn, fx⟩ := z
    exact fn [] H [] h rfl o.r Fra.refl w
  | cons _ _ => cases h
theorem c_call (g : Gd G Γ N sc W k X) {x : Str} {es : List Expr} {ms : Es} {p pos} (hx : glB sc x = true) (hd : dbg x = true) (hc : ckEs N sc ms es = true) (pa : PA X es (rA G Γ W ms)) : Ev G Γ W X (.Call (.Name x p) es [] pos) (.call x ms) := by
  have pl := cks_plain ms hc
  refine .val ⟨fun pins s σ H Q I ⟨ρ, h, Q0, Xp, o, ⟨ok, w⟩, fn, fx⟩ => ?_⟩
  obtain ⟨fd, ps, F, ar, hm, hk, hb⟩ := g.tab.fn x ok
  have z := rA_call ar o w fn fx
  refine wpAny_Call_Name_kw (ld_glob I (g.gl hx) hm ?_ (dbg1 hd).1)
  cases es with
  | nil => exact PySem.W.callWith_K0 I.kIn hk (run_s (us := []) F g.rm hb g.tk I .nil (rA_nil hc z))
  | cons e es =>
    rw [List.all_cons, Bool.and_eq_true] at pl
    refine PySem.W.callWith_K (h₀ := X.base) I.ok.mod.kin hk (thn (pa.run pos pins s σ H _ I z) fun us s1 ⟨vs, H1, I1, r, q⟩ => ⟨I1.kIn, ?_⟩) (star_plain pl.1) (star_any pl.2)
    exact run_s F g.rm hb g.tk I1 r q
theorem c_met (g : Gd G Γ N sc W k X) {a : Expr} {m : Str} {es : List Expr} {ma : E} {ms : Es} {ap pos} (nb : noBase a = true) (hl : (ap.endLine == pos.line) = true) (few : es.length < 20) (hc : ckEs N sc ms es = true) (pe : PE X a (rE G Γ W ma)) (pa : PA X es (rA G Γ W ms)) :
    Ev G Γ W X (.Call (.Attribute a m ap) es [] pos) (.met ma m ms) := by
  have pl := cks_plain ms hc
  refine .val ⟨fun pins s σ H Q I ⟨ρ, h, Q0, Xp, o, w, fn, fx⟩ => ?_⟩
  have z1 : rE G Γ W ma σ H fun v H1 => ∃ C ok b dx fs, v = .ref b ∧ H1 b = some (.ins (G.cad C) dx fs) ∧ fs.lookup m = none ∧ Γ.okm C m ∧ ok = True ∧ rA G Γ W ms σ H1 fun vs H2 => ∀ n, arity (Γ.mt C m) n → lift G n (Γ.mt C m) (v :: vs) H2 Q (WE W σ) := by
    refine one o w fx fun x v H1 h1 rx hr1 f1 w1 => ?_
    obtain ⟨C, fs, e, l, ok, w1⟩ := w1
    obtain ⟨b, dx, vs, ev, eb, rf⟩ := rep_rdO rx hr1 e
    refine ⟨C, True, b, dx, vs, ev, eb, (rf.look (f := m)).2 l, ok, rfl, ρ, h1, _, Xp, o.next f1 hr1, w1, fun vs H2 xs h2 rl hr2 f2 q n ar => ?_, fx.next f1⟩
    exact lift_in (ar _ _ _ _ q) (RepL.cons (RepV.mono f2.kept _ _ rx) rl) hr2 q (fun v H' x h' rx hr f q => fn v H' x h' rx hr ((f1.trans f2).trans f) q) (fx.next (f1.trans f2))
  refine meth_any (base_plain nb) (star_few pl few) hl (thn (pe.run pins s σ H _ I z1) fun u s1 ⟨v, H1, I1, rv, C, _, b, dx, fs, ev, eb, l, ok, _, z2⟩ pl0 => ?_)
  obtain ⟨f, fd, ps, F, ar, hC, hM, hb⟩ := g.tab.mt C m ok
  subst ev
  obtain rfl : u = Value.ref b := rv
  refine getmeth_ok I1 eb hC hM l ?_
  cases es with
  | nil => exact PySem.W.callWith_K0 (first := [.ref b]) I1.kIn hM.kp (run_s (us := [.ref b]) (vs := [.ref b]) F g.rm hb g.tk I1 (.cons rfl .nil) (rA_nil hc z2 _ ar))
  | cons e es =>
    rw [List.all_cons, Bool.and_eq_true] at pl
    refine PySem.W.callWith_K (first := [.ref b]) (h₀ := X.base) I.ok.mod.kin hM.kp (thn (pa.run pos pins s1 σ H1 _ I1 z2) fun us s2 ⟨vs, H2, I2, r, q2⟩ => ⟨I2.kIn, ?_⟩) (star_plain pl.1) (star_any pl.2)
    exact run_s (us := .ref b :: us) (vs := .ref b :: vs) F g.rm hb g.tk I2 (.cons rfl r) (q2 _ ar)
theorem c_mk (g : Gd G Γ N sc W k X) {x : Str} {es : List Expr} {ms : Es} {p pos} (hx : glB sc x = true) (hd : dbg x = true) (hc : ckEs N sc ms es = true) (pa : PA X es (rA G Γ W ms)) : Ev G Γ W X (.Call (.Name x p) es [] pos) (.mk x ms) := by
  have pl := cks_plain ms hc
  refine .val ⟨fun pins s σ H Q I ⟨ρ, h, Q0, Xp, o, ⟨ok, w⟩, fn, fx⟩ => ?_⟩
  obtain ⟨f, fd, ps, j, rfl, M, hm, hb, sp, F, ar⟩ := g.tab.cn x ok
  have go : ∀ vs H1 xs h1, RepL G H1 h1 xs vs → HRep G H1 h1 → Fra h H h1 H1 → Γ.cn x xs h1 Q0 Xp → ∀ a dx, H1 a = none → H1 dx = none → dx ≠ a →
      lift G ps.length sp (.ref a :: vs) (upd (upd H1 dx (.own a)) a (.ins (G.cad x) dx [])) (fun v H2 => v = .non ∧ Q (.ref a) H2) (fun _ _ _ => False) := by
    intro vs H1 xs h1 rl hr1 f1 q a dx na nd ne
    obtain ⟨len, q⟩ := ar _ _ _ _ q
    have ha : h1 a = none := hr1.gone na
    have hd' : h1 dx = none := hr1.gone nd
    have fa : Fra h1 H1 h1 (upd H1 dx (.own a)) := Fra.new nd hd'
    have na2 : upd H1 dx (.own a) a = none := by rw [upd_ne (Ne.symm ne)]; exact na
    have fb : Fra h1 (upd H1 dx (.own a)) (h1.set a (.obj x [])) (upd (upd H1 dx (.own a)) a (.ins (G.cad x) dx [])) := Fra.own na2 ha
    have fab := fa.trans fb
    refine ⟨.ref a :: xs, h1.set a (.obj x []), _, noX, by simpa using len, RepL.cons rfl (RepL.mono fab.kept _ _ rl), (hr1.new nd).own na2 ⟨dx, [], upd_same, rfl⟩, q a ha, fun v H' y h' ry hr' f' q' => ?_, fun C H' h' _ _ q' => q'.elim⟩
    obtain ⟨rfl, F, n, nj, q'⟩ := q'
    exact ⟨ry, fn _ H' _ (h'.sub F) (fz_rep hr' n (.ref a) (.ref a) rfl) (hr'.less fun a x e => sub_some e) (((f1.trans fab).trans f').trans (fra_sub nj)) q'⟩
  have z : rA G Γ W ms σ H fun vs H1 => ∀ a dx, H1 a = none → H1 dx = none → dx ≠ a → lift G ps.length sp (.ref a :: vs) (upd (upd H1 dx (.own a)) a (.ins (G.cad x) dx [])) (fun v H2 => v = .non ∧ Q (.ref a) H2) (fun _ _ _ => False) :=
    ⟨ρ, h, _, Xp, o, w, fun vs H1 xs h1 rl hr1 f1 q => go vs H1 xs h1 rl hr1 f1 q, fx⟩
  refine wpAny_Call_Name_kw (ld_glob I (g.gl hx) hm ?_ (dbg1 hd).1)
  cases es with
  | nil => exact PySem.W.callWith_K0 I.kIn M.kp (run_m (us := []) M F g.rm hb takesN I .nil (rA_nil hc z))
  | cons e es =>
    rw [List.all_cons, Bool.and_eq_true] at pl
    refine PySem.W.callWith_K (h₀ := X.base) I.ok.mod.kin M.kp (thn (pa.run pos pins s σ H _ I z) fun us s1 ⟨vs, H1, I1, r, q⟩ => ⟨I1.kIn, ?_⟩) (star_plain pl.1) (star_any pl.2)
    exact run_m M F g.rm hb takesN I1 r q
/-! ### built-ins -/
theorem biV_ok (b : Bi) : (∃ id, biV b = .builtin id) ∨ ∃ T, biV b = .type T := by cases b <;> first | exact .inl ⟨_, rfl⟩ | exact .inr ⟨_, rfl⟩
theorem biN_in (b : Bi) : biN b ∈ bnames := by cases b <;> decide
theorem biN_ne (b : Bi) : biN b ≠ "__name__" ∧ (biN b == ("__debug__" : Str)) = false := by cases b <;> decide
theorem c_blt (g : Gd G Γ N sc W k X) {b : Bi} {es : List Expr} {ms : Es} {p pos} (hx : glB sc (biN b) = true) (hl : 0 < es.length) (hc : ckEs N sc ms es = true) (pa : PA X es (rA G Γ W ms)) : Ev G Γ W X (.Call (.Name (biN b) p) es [] pos) (.blt b ms) := by
  have pl := cks_plain ms hc
  cases es with
  | nil => cases hl
  | cons e es =>
    rw [List.all_cons, Bool.and_eq_true] at pl
    have hr := blt_sound (G := G) (X := X) g.K g.calm b
    have hm := g.tab.bl _ (biN_in b)
    have hv := biN_val b
    obtain ⟨n1, n2⟩ := biN_ne b
    have i : ∀ σ H Q, rE G Γ W (.blt b ms) σ H Q → tCB (RC G (bltV b)) (rA G Γ W ms) σ H Q := fun σ H Q ⟨ρ, h, Q0, Xp, o, w, fn, fx⟩ =>
      ⟨ρ, h, _, Xp, o, w, fun vs H1 xs h1 rl hr1 f1 q => ⟨xs, h1, Q0, rl, hr1, q, fun v H' x h' rx hr f q => fn v H' x h' rx hr (f1.trans f) q⟩, fx⟩
    rcases biV_ok b with ⟨id, e⟩ | ⟨T, e⟩
    · rw [e] at hr hv
      exact .val (pe_imp (pe_callB hr (g.gl hx) hm hv pa n1 n2 (star_plain pl.1) (star_any pl.2)) i)
    · rw [e] at hr hv
      exact .val (pe_imp (pe_callTy hr (g.gl hx) hm hv pa n1 n2 (star_plain pl.1) (star_any pl.2)) i)
end
end Vc
/-! Vc14: methods of built-in types; every expression. -/
namespace Vc
open PySem L2 PyProof.Rows
section
variable {G : Cfg} {Γ : Fns} {N : List Str} {sc : Scope} {W : WX} {k : Nat} {X : Cx}
theorem and3 {a b c : Bool} (h : (a && b && c) = true) : a = true ∧ b = true ∧ c = true := by simpa [Bool.and_eq_true, and_assoc] using h
def bmId : Bm → String
  | .pop => "list.pop"
  | .index => "list.index"
  | .get => "dict.get"
def bmTy : Bm → String
  | .get => "dict"
  | _ => "list"
theorem bm_attrs (m : Bm) : PlainAttrs (bmTy m) := by cases m <;> first | exact PySem.F.plainAttrs_list | exact PySem.F.plainAttrs_dict
theorem bm_slot (m : Bm) : Slot (bmTy m) (bmN m) (bmId m) := by cases m <;> first | exact PySem.F.slot_list_pop | exact PySem.F.slot_list_index | exact PySem.F.slot_dict_get
theorem bm_type (m : Bm) : typeOf (.builtin (bmId m)) = pure (.type "method_descriptor") := by cases m <;> first | exact PySem.F.type_list_pop | exact PySem.F.type_list_index | exact PySem.F.type_dict_get
theorem bm_is {m : Bm} {pins : List (Addr × Obj)} {σ : L2.St} {H : Hp} {s : Shared} {h : CH} {x : Val} {v : V} {u : Value} (kk : X.K = G.K) (I : Inv X pins σ H s) (rv : RelV v u) (rx : RepV G H h x v) (hr : HRep G H h) (t : bmT m h x) :
    s.TypeIs u (bmTy m) ∧ ∀ a, u = .ref a → ∃ ob, s.heap.get? a = some ob ∧ ob.dict = none := by
  have ls : (∃ xs, rdL h x = some xs) → s.TypeIs u "list" ∧ ∀ a, u = .ref a → ∃ ob, s.heap.get? a = some ob ∧ ob.dict = none := by
    rintro ⟨xs, e⟩
    obtain ⟨a, vs, ev, sq, rl⟩ := rep_rdL rx hr e
    subst ev
    cases rv
    rw [← kk] at sq
    obtain ⟨its, _, pl, _⟩ := I.list sq
    refine ⟨pl.isList.typeIs, fun b e => ?_⟩
    cases e
    obtain ⟨o, n, e, c, hd, _⟩ :=
          pl
    exact ⟨o, e, hd⟩
  cases m with
  | pop => exact ls t
  | index => exact ls t
  | get =>
    rcases t with ⟨kvs, e⟩ | ⟨kvs, e⟩
    · obtain ⟨a, vs, ev, rd, _⟩ := rep_rdD rx hr e
      subst ev
      cases rv
      obtain ⟨t1, t2, _⟩ := isD_at I (.inl ⟨vs, rd⟩)
      exact ⟨t1, t2⟩
    · obtain ⟨a, vs, ev, rd, _⟩ := rep_rdP rx hr e
      subst ev
      cases rv
      obtain ⟨t1, t2, _⟩ := isD_at I (.inr ⟨vs, rd⟩)
      exact ⟨t1, t2⟩
def RM (G : Cfg) (m : Bm) : V → List V → Hp → VK → Prop := fun x vs H Q' => ∃ xv xs h Q, RepV G H h xv x ∧ RepL G H h xs vs ∧ HRep G H h ∧ bmV m xv xs h Q ∧ Fin G h H Q Q'
theorem MtR.imp {id : String} {r r' : V → List V → Hp → VK → Prop} (o : MtR X id r) (h : ∀ x xs H Q, r' x xs H Q → r x xs H Q) : MtR X id r' := fun pins s σ H x xs v us Q I rx rxs q => o pins s σ H x xs v us Q I rx rxs (h x xs H Q q)
theorem getD_rep {H : Hp} {h : CH} {oz : Option Val} {ov : Option V} {d : Val} {dv : V} (z0 : oz = none → ov = none) (z1 : ∀ z, oz = some z → ∃ zv, ov = some zv ∧ RepV G H h z zv) (rd : RepV G H h d dv) : RepV G H h (oz.getD d) (ov.getD dv) := by
  cases oz with
  | none => rw [z0 rfl]; exact rd
  | some z =>
    obtain ⟨zv, e, r⟩ := z1 z rfl
    rw [e]
    exact r
theorem bm_sound (kk : X.K = G.K) (rm : Rm k X.A) (m : Bm) : MtR X (bmId m) (RM G m) := by
  have hu1 : X.A.units + 1 < cLine := by have := rm.un; omega
  have hu65 : X.A.units + 65 < cLine := by have := rm.un; omega
  cases m with
  | pop =>
    refine fun pins s σ H x xs v us Q I rx rxs q => mt_pop pins s σ H x xs v us Q I rx rxs ?_
    obtain ⟨xv, ys, h, Q0, ra, rl, hr, w, fn⟩ := q
    match ys, w with
    | [], ⟨a, zs, y, exv, e, ey, q⟩ =>
      subst exv
      cases ra
      obtain ⟨vs, e1, rz⟩ := hr a _ e
      obtain ⟨u, eu, ru⟩ := rz.get ey
      have kw : Kept h H (h.set a (.lst zs.dropLast)) (upd H a (.lst vs.dropLast)) := kept_write e fun b nb => CH.set_ne nb
      exact ⟨a, vs, u, rfl, rl, e1, by rw [← rz.length]; exact eu, fn _ _ y (h.set a (.lst zs.dropLast)) (RepV.mono kw _ _ ru) (hr.write e ⟨vs.dropLast, upd_same, RepL.mono kw _ _ rz.dropLast⟩) (Fra.write e nofun) q⟩
  | index =>
    refine MtR.imp (mt_indexD hu65) fun x xs H Q' ⟨xv, ys, h, Q0, ra, rl, hr, w, fn⟩ => ?_
    match ys, w with
    | [y], ⟨d, ds, j, z, e1, e2, s1, s2, e3, e4, e5, q⟩ =>
      obtain ⟨u, rfl, ru⟩ := repL1 rl
      have h1 := rep_dat ra hr e2
      have h2 := rep_dp.1 _ _ _ ru e1
      rw [← kk] at h1 h2
      have hx : ∃ a, x = V.ref a := by
        cases h1 with
        | lst _ _ => exact ⟨_, rfl⟩
      obtain ⟨a, rfl⟩ := hx
      exact ⟨a, u, d, ds, j, z, rfl, rfl, h1, h2, s1, s2, e3, e4, e5, fn _ H (.int (j : Nat)) h rfl hr Fra.refl q⟩
  | get =>
    intro pins s σ H x xs v us Q' I rx rxs hh
    obtain ⟨xv, ys, h, Q0, ra, rl, hr, w, fn⟩ := hh
    match ys, w with
    | [y], w =>
      obtain ⟨u, rfl, ru⟩ := repL1 rl
      obtain ⟨a, ov, oz, ev, g, q, z0, z1⟩ := dget_of (P := fun o => Q0 (o.getD .non) h) ra ru hr w
      subst ev
      cases rx
      obtain ⟨uu, rfl, ruu⟩ := rxs.one
      exact d_get1 hu1 I g ruu fun w' s3 I3 rw' => ⟨_, H, I3, rw', fn _ H _ h (getD_rep (d := .non) z0 z1 rfl) hr Fra.refl q⟩
    | [y, d], w =>
      obtain ⟨u, t, rfl, ru, rt⟩ := repL2 rl
      obtain ⟨a, ov, oz, ev, g, q, z0, z1⟩ := dget_of (P := fun o => Q0 (o.getD d) h) ra ru hr w
      subst ev
      cases rx
      cases rxs with
      | cons r1 r2 =>
        obtain ⟨ut, rfl, rut⟩ := Vals.one r2
        exact d_get2 hu1 I g r1 rut fun w' s3 I3 rw' => ⟨_, H, I3, rw', fn _ H _ h (getD_rep z0 z1 rt) hr Fra.refl q⟩
theorem c_bm (g : Gd G Γ N sc W k X) {a : Expr} {m : Bm} {es : List Expr} {ma : E} {ms : Es} {ap pos} (nb : noBase a = true) (hl : (ap.endLine == pos.line) = true) (few : es.length < 20) (hc : ckEs N sc ms es = true) (pe : PE X a (rE G Γ W ma)) (pa : PA X es (rA G Γ W ms)) :
    Ev G Γ W X (.Call (.Attribute a (bmN m) ap) es [] pos) (.bm ma m ms) := by
  have pl := cks_plain ms hc
  refine .val ⟨fun pins s σ H Q I ⟨ρ, h, Q0, Xp, o, w, fn, fx⟩ => ?_⟩
  have z1 : rE G Γ W ma σ H fun v H1 => (∃ x h1, RepV G H1 h1 x v ∧ HRep G H1 h1 ∧ bmT m h1 x) ∧ rA G Γ W ms σ H1 fun vs H2 => RM G m v vs H2 Q := by
    refine one o w fx fun x v H1 h1 rx hr1 f1 w1 => ⟨⟨x, h1, rx, hr1, w1.1⟩, ρ, h1, _, Xp, o.next f1 hr1, w1.2, fun vs H2 xs h2 rl hr2 f2 q => ?_, fx.next f1⟩
    exact ⟨x, xs, h2, Q0, RepV.mono f2.kept _ _ rx, rl, hr2, q, fun v H' x h' rx hr f q => fn v H' x h' rx hr ((f1.trans f2).trans f) q⟩
  refine wpAny_Call_method_late (base_plain nb) (star_few pl few) hl rfl (thn (pe.run pins s σ H _ I z1) fun u s1 ⟨v, H1, I1, rv, ⟨x, h1, rx, hr1, t⟩, z2⟩ => ?_)
  obtain ⟨t1, t2⟩ := bm_is g.K I1 rv rx hr1 t
  refine ⟨_, _, bm_attrs m, bm_slot m, bm_type m, t1, t2, ?_⟩
  have hm := bm_sound (G := G) (X := X) g.K g.rm m
  cases es with
  | nil => exact Calls.callWith_builtin rfl (PySem.evalArgs_none (hm pins s1 σ H1 v [] u [] Q I1 rv .nil (rA_nil hc z2)))
  | cons e es =>
    rw [List.all_cons, Bool.and_eq_true] at pl
    have hA := pa.run pos pins s1 σ H1 _ I1 z2
    rw [star_plain pl.1] at hA ⊢
    refine Calls.callWith_builtin (by show (false || (backTo pos (starEach es X.env)).any (·.1)) = false; rw [star_any pl.2] <;> rfl) (Calls.evalArgs_plain ?_)
    exact thn hA fun us s2 ⟨vs, H2, I2, r2, q2⟩ => hm pins s2 σ H2 v vs u us Q I2 rv r2 q2
/-! ### giving up -/
theorem fz_bl {n : Nat} {h1 : CH} {F : Addr → Bool} {x : Val} {b : Bool} : fz n h1 F x = .bl b ↔ x = .bl b := by
  constructor
  · intro e
    cases n with
    | zero => exact e
    | succ n =>
      cases x with
      | bl c => exact e
      | ref a =>
        exfalso
        have e' : (if F a = true then (match h1 a with
          | some (.lst xs) => Val.lst (xs.map (fz n h1 F))
          | some (.dct xs) => .dct (xs.map fun (p : Key × Val) => (p.1, fz n h1 F p.2))
          | some (.dtt xs) => .dtt (xs.map fun (p : List Key × Val) => (p.1, fz n h1 F p.2))
          | some (.obj C xs) => .obj C (xs.map fun (p : Str × Val) => (p.1, fz n h1 F p.2))
          | _ => .ref a) else .ref a) = .bl b := e
        split at e'
        · split at e' <;> cases e'
        · cases e'
      | _ => exact absurd e nofun
  · rintro rfl
    cases n <;> rfl
theorem c_frz {e : Expr} {m : E} (h : Ev G Γ W X e m) : Ev G Γ W X e (.frz m) := by
  refine ⟨pe_imp h.v fun σ H Q ⟨ρ, hh, Q0, Xp, o, w, fn, fx⟩ => one o w fx fun x v H2 h2 rx hr f q => ?_, pt_imp h.t fun σ H Q ⟨ρ, hh, Q0, Xp, o, w, fb, fx⟩ => ?_⟩
  · obtain ⟨F, n, nj, q⟩ := q
    exact fn _ H2 _ (h2.sub F) (fz_rep hr n x v rx) (hr.less fun a x e => sub_some e) (f.trans (fra_sub nj)) q
  · have e0 : (fun x h1 => ∃ (F : Addr → Bool) (n : Nat), (∀ a, F a = true → h1 a ≠ some junk) ∧ (fun x h' => ∃ b, x = Val.bl b ∧ Q0 b h') (fz n h1 F x) (h1.sub F)) = fun x h1 => ∃ b, x = .bl b ∧ ∃ (F : Addr → Bool), (∀ a, F a = true → h1 a ≠ some junk) ∧ Q0 b (h1.sub F) := by
      funext x h1
      apply propext
      constructor
      · rintro ⟨F, n, nj, b, e, q⟩
        exact ⟨b, fz_bl.mp e, F, nj, q⟩
      · rintro ⟨b, e, F, nj, q⟩
        exact ⟨F, 0, nj, b, e, q⟩
    have w' : wpE Γ m ρ hh (fun x h1 => ∃ (F : Addr → Bool) (n : Nat), (∀ a, F a = true → h1 a ≠ some junk) ∧ (fun x h' => ∃ b, x = Val.bl b ∧ Q0 b h') (fz n h1 F x) (h1.sub F)) Xp := w
    rw [e0] at w'
    refine ⟨ρ, hh, _, Xp, o, w', fun b H' h' hr f q => ?_, fx⟩
    obtain ⟨F, nj, q⟩ := q
    exact fb b H' (h'.sub F) (hr.less fun a x e => sub_some e) (f.trans (fra_sub nj)) q
end
end Vc
set_option
      maxHeartbeats 4000000
/-! Ve: sets of lists, tuples. -/
namespace Ve
open PySem PyProof.Rows L2
section
variable
      {P : Program} {w : World} {A : Around} {E : Value → Shared → Prop} {s : Shared}
def seqIs (tp : Bool) (h : Heap) (l : Addr) (items : Array Value) : Prop := if tp = true then h.IsTuple l items else h.IsList l items
def freshSet (w : World) : Obj := { cls := .type "set", dict := none, data := .set #[] 0 (.fresh 0 0 (!w.params.followText "set-order")) }
theorem old_none {b : Addr} (hb : s.heap.objs.size ≤ b) : s.heap.get? b = none := by
  cases q : s.heap.get? b with
  | none => rfl
  | some o => exact absurd (Heap.lt_size q) (Nat.not_lt.mpr hb)
/-- set(xs): the loop is yet to be told -/
theorem set_by {l : Addr} {items : Array Value} (tp : Bool) {Res : Heap → Prop} {Q : Value → Shared → Prop} (hh : A.handled = none) (hu : A.units + 3 < cLine) (hl : seqIs tp s.heap l items)
    (loop : ∀ (A' : Around) (I : Addr) (fp wr : List Addr) (G : Array GenState → Array GenState → Prop) (Pv : Nat → Value → Prop) (St : Nat → Shared → Prop) (s1 : Shared) (R : Result → Shared → Prop), A'.in1.units < cLine → WalksS P w A'.in1 I fp wr G items.size Pv St →
      s.heap.objs.size ∉ fp → (∀ i v, Pv i v → items[i]? = some v) → (∀ b ∈ wr, s.heap.get? b = none) → St 0 s1 → (∀ b o, s.heap.get? b = some o → s1.heap.get? b = some o) → s1.heap.get? s.heap.objs.size = some (freshSet w) →
      (∀ s', Moved (s.heap.objs.size :: wr) G s1 s' → Res s'.heap → R (.ok (.ret .none)) s') → codeAny (model P w) A' (.builtin "set.update.loop" ⟨[.ref s.heap.objs.size, .ref I], []⟩) R s1)
    (fin : ∀ (h' : Heap) (tk : Nat), Res h' → (∀ b o, s.heap.get? b = some o → h'.get? b = some o) → Q (.ref s.heap.objs.size) { s with heap := h', toks := tk }) : wpAny (model P w) A (call (.type "set") [.ref l]) Q E s := by
  obtain ⟨c, tl, hmro⟩ :=
        F.called_set.mro
  have hmade := F.called_set.made; have hsub := F.called_set.sub; have h1 := F.called_set.notType; have h2 := F.called_set.canCreate
  have hct :=
        F.typeCall_set_1 (.ref l)
  refine
        wpAny_call (codeAny_of_tree ?_)
  show
        wpAny _ _ (callAny (.type "set") _) _ _ _
  refine
        wpAny_pure ⟨Code.quiet_builtin _ (by decide +kernel), codeAny_builtin F.entry_type_call ?_⟩
  rw
        [Around.under_plain (weight_type_call_type "set" [.ref l] []) rfl]
  repeat any_goals first | assumption | wp_step
  refine codeAny_mono (code_set_led1 (.ref l) (E := E) (Q₁ := fun obj s₁ => obj = .ref s.heap.objs.size ∧ s₁ = { s with heap := s.heap.push (freshSet w) }) ⟨rfl, rfl⟩) fun r s₁ hr => ?_
  match r, hr with
  | .ok (.ret obj), hr =>
    obtain ⟨rfl, rfl⟩ := hr
    have hS : (s.heap.push (freshSet w)).get? s.heap.objs.size = some (freshSet w) := Heap.get?_push_size _ rfl
    have hT : Shared.TypeIs { s with heap := s.heap.push (freshSet w) } (.ref s.heap.objs.size) "set" := ⟨_, hS, rfl⟩
    have hli :=
          F.called_set.init.lookup
    have hbi :=
          F.called_set.init.bind (.ref s.heap.objs.size)
    repeat any_goals first | assumption | wp_step
    refine codeAny_mono (codeAny_call_builtin (R := wants (fun r s₂ => r = .none ∧ ∃ h' tk, s₂ = { s with heap := h', toks := tk } ∧ Res h' ∧ (∀ b o, s.heap.get? b = some o → h'.get? b = some o)) E) F.called_set.init.plain F.entry_set_init (check_set_init_1 hT ?_)) fun r₂ s₂ hr₂ => ?_
    · have lS : ∀ o, s.heap.get? l = some o → l < s.heap.objs.size := fun o e => Heap.lt_size e
      have hh3 : A.in1.in1.in1.handled = none :=
            by simp [hh]
      have szp : (s.heap.push (freshSet w)).objs.size = s.heap.objs.size + 1 := Heap.size_push ..
      have keeps : ∀ {wr : List Addr} {G : Array GenState → Array GenState → Prop} {s1 s2 : Shared}, (∀ b o, s.heap.get? b = some o → s1.heap.get? b = some o) → (∀ b ∈ wr, s.heap.get? b = none) → Moved (s.heap.objs.size :: wr) G s1 s2 → ∀ b o, s.heap.get? b = some o → s2.heap.get? b = some o :=
        fun k n m b o e => m.heap b o (fun hb => by
          rcases
                List.mem_cons.mp hb with z | z
          · rw [z, old_none (Nat.le_refl _)] at e; cases e
          · rw [n b z] at e; cases e) (k b o e)
      cases tp with
      | false =>
        obtain ⟨⟨oc, od, odt, osl⟩, hol, hcl, nl, hdl⟩ := (show s.heap.IsList l items from hl)
        simp only at hcl hdl
        subst hcl hdl
        have hol' : (s.heap.push (freshSet w)).get? l = some { cls := .type "list", dict := od, data := .seq items nl, slots := osl } := Heap.get?_push_of_some _ hol
        have a1 := F.sub_list_set; have a2 := F.sub_list_frozenset; have a3 : (Value.type "list" == Value.type "dict") = false := by decide
        have hl1 : (s.heap.push (freshSet w)).IsList l items := ⟨_, hol', rfl, nl, rfl⟩
        have nI : l ≠ (s.heap.push (freshSet w)).objs.size := by rw [szp]; exact Nat.ne_of_lt (Nat.lt_succ_of_lt (lS _ hol))
        unfold
              Builtin.«set.__init__» noKeywords Builtin.Frozenset.updateFrom
        generalize hPI : pyIter = PI
        wp_walk
        subst hPI
        refine wpAny_pyIter_list hl1 (wpAny_bind (wpAny_runValue ?_))
        refine loop _ _ _ _ _ _ _ _ _ hu ((Walks.list hh3 _ l nI items).toS) ?_ (fun i v z => z) (fun b hb => old_none ?_) ⟨⟨_, Heap.get?_push_size _ rfl, rfl, rfl⟩, hl1.push _⟩ (fun b o e => Heap.get?_push_of_some _ (Heap.get?_push_of_some _ e)) (Heap.get?_push_of_some _ hS) fun s' hm hres => ?_
        · rw [szp]; simp only [List.mem_cons, List.not_mem_nil, or_false, not_or]
          exact ⟨Nat.ne_of_lt (Nat.lt_succ_self _), Nat.ne_of_gt (lS _ hol)⟩
        · rw [List.mem_singleton.mp hb, szp]; exact Nat.le_succ _
        · have kp := keeps (fun b o e => Heap.get?_push_of_some _ (Heap.get?_push_of_some _ e)) (fun b hb => old_none (by rw [List.mem_singleton.mp hb, szp]; exact Nat.le_succ _)) hm
          obtain ⟨h', g', d', tk', os'⟩ :=
                s'
          cases (show g' = s.gens from hm.gens); cases (show d' = s.drawn from hm.drawn); cases (show os' = s.os from hm.os)
          show wpAny _ _ _ _ _ _
          refine wpAny_pure ?_
          show
                wpAny _ _ (ret Value.none) _ _ _
          exact wpAny_pure ⟨rfl, h', tk', rfl, hres, kp⟩
      | true =>
        obtain ⟨⟨oc, od, odt, osl⟩, hol, hcl, nl, hdl⟩ := (show s.heap.IsTuple l items from hl)
        simp only at hcl hdl
        subst hcl hdl
        have hol' : (s.heap.push (freshSet w)).get? l = some { cls := .type "tuple", dict := od, data := .seq items nl, slots := osl } := Heap.get?_push_of_some _ hol
        have a1 := F.sub_tuple_set; have a2 := F.sub_tuple_frozenset; have a3 : (Value.type "tuple" == Value.type "dict") = false := by decide
        have hl1 : (s.heap.push (freshSet w)).IsTuple l items := ⟨_, hol', rfl, nl, rfl⟩
        have nI : l ≠ (s.heap.push (freshSet w)).objs.size := by rw [szp]; exact Nat.ne_of_lt (Nat.lt_succ_of_lt (lS _ hol))
        unfold
              Builtin.«set.__init__» noKeywords Builtin.Frozenset.updateFrom
        generalize hPI : pyIter = PI
        wp_walk
        subst hPI
        refine wpAny_pyIter_tuple hl1 (wpAny_bind (wpAny_runValue ?_))
        refine loop _ _ _ _ _ _ _ _ _ hu ((Walks.tuple hh3 _ l nI items).toS) ?_ (fun i v z => z) (fun b hb => old_none ?_) ⟨⟨_, Heap.get?_push_size _ rfl, rfl, rfl⟩, hl1.push _⟩ (fun b o e => Heap.get?_push_of_some _ (Heap.get?_push_of_some _ e)) (Heap.get?_push_of_some _ hS) fun s' hm hres => ?_
        · rw [szp]; simp only [List.mem_cons, List.not_mem_nil, or_false, not_or]
          exact ⟨Nat.ne_of_lt (Nat.lt_succ_self _), Nat.ne_of_gt (lS _ hol)⟩
        · rw [List.mem_singleton.mp hb, szp]; exact Nat.le_succ _
        · have kp := keeps (fun b o e => Heap.get?_push_of_some _ (Heap.get?_push_of_some _ e)) (fun b hb => old_none (by rw [List.mem_singleton.mp hb, szp]; exact Nat.le_succ _)) hm
          obtain ⟨h', g', d', tk', os'⟩ :=
                s'
          cases (show g' = s.gens from hm.gens); cases (show d' = s.drawn from hm.drawn); cases (show os' = s.os from hm.os)
          show wpAny _ _ _ _ _ _
          refine wpAny_pure ?_
          show
                wpAny _ _ (ret Value.none) _ _ _
          exact wpAny_pure ⟨rfl, h', tk', rfl, hres, kp⟩
    · match r₂, hr₂ with
      | .ok (.ret r), hr₂ =>
        obtain ⟨rfl, h', tk, rfl, hres, hk⟩ := hr₂
        repeat any_goals first | assumption | wp_step
        exact fin _ _ hres hk
      | .error e, hr₂ => exact hr₂
      | .ok .next, hr₂ => exact hr₂.elim
      | .ok .brk, hr₂ => exact hr₂.elim
      | .ok .cont, hr₂ => exact hr₂.elim
  | .error e, hr => exact hr
  | .ok .next, hr => exact hr.elim
  | .ok .brk, hr => exact hr.elim
  | .ok .cont, hr => exact hr.elim
end
end Ve
/-! Vs: sorted(set(xs)). -/
namespace Vc
open PySem L2 PyProof.Rows
section
variable {G : Cfg} {X : Cx} {k : Nat}
def rSetX (K : PySem.W.Frag) (P : Program) (w : World) : List V → Hp → VK → Prop := fun vs H Q => ∃ (l : Addr) (xs : List V), vs = [V.ref l] ∧ (SqL K H l xs ∨ SqT K H l xs) ∧
  ((∃ ns : List Int, xs = ns.map V.int ∧ ns.length < 64 ∧ ∀ a c, H a = none → c ≤ ns.length → Q (.ref a) (upd H a (SetO w a (fun j => decide (j ∈ ns)) c))) ∨
  ∃ ks : List (Addr × List Int), xs = ks.map (fun p => V.ref p.1) ∧ (∀ p ∈ ks, SqT K H p.1 (p.2.map V.int)) ∧ ks.length < 64 ∧ ∀ a L, H a = none → (∀ p ∈ L, p ∈ ks) → (∀ p ∈ ks, p.2 ∈ L.map (·.2)) → Q (.ref a) (upd H a (SetTO P w a L)))
theorem cr_setX (hc : X.calm = true) (rm : Rm k X.A) : CallR X (.type "set") (rSetX X.K X.prog X.w) := by
  have hu : X.A.units + 3 < cLine := by have := rm.un; omega
  intro pins s σ H vs us Q I r hh
  obtain ⟨l, xs, rfl, sq, w⟩ := hh
  rw [Vals.ref1 r]
  obtain ⟨tp, its, rv, hl⟩ : ∃ tp, ∃ its : List Value, Vals xs its ∧ Ve.seqIs tp s.heap l its.toArray := by
    rcases sq with sq | sq
    · obtain ⟨its, rv, pl, _⟩ := I.list sq
      exact ⟨false, its, rv, pl.isList⟩
    · obtain ⟨its, rv, pl, _⟩ := I.tuple sq
      exact ⟨true, its, rv, show s.heap.IsTuple l its.toArray from pl⟩
  have hn : H s.heap.objs.size = none :=
        I.hok.fresh (Nat.le_refl _)
  have hlen := rv.length
  rcases w with ⟨ns, e, few, q⟩ | ⟨ks, e, hk, few, q⟩
  · subst e
    have hz : its.toArray.size = ns.length := by rw [List.size_toArray, ← hlen, List.length_map]
    refine Ve.set_by (P := X.prog) (w := X.w) tp (Res := fun h' => ∃ c, c ≤ ns.length ∧ SetR X.w h' s.heap.objs.size (fun j => decide (j ∈ ns)) c) (I.ok.hd hc) hu hl ?_ fun h' tk ⟨c, hc, R⟩ kp => ?_
    · intro A' It fp wr Gn Pv St s1 R hu' W nf hv hw h0 kp hf post
      refine set_update_ints W s.heap.objs.size nf ns hz (by unfold scanBound; omega) (fun i v pv => ?_) its.toArray.size 0 s1 (by omega) (Nat.zero_le _) h0 ⟨0, Nat.le_refl _, setR_new_at hf⟩ fun s' c hm hc hR => post s' hm ⟨c, by omega, hR⟩
      have q1 := hv i v pv
      have q2 : its[i]? = some v := by simpa using q1
      have lt : i < ns.length := by
        have := (List.getElem?_eq_some_iff.mp q2).1
        rw [← hlen, List.length_map] at this
        exact this
      obtain ⟨u, hu2, t, rt⟩ := Vals.get (i := i) (x := V.int ns[i]) rv (by rw [List.getElem?_map, List.getElem?_eq_getElem lt]; rfl)
      rw [q2] at hu2
      cases hu2
      exact ⟨ns[i], t, List.getElem?_eq_getElem lt, rt⟩
    · exact ⟨.ref s.heap.objs.size, _, I.laid (t' := tk) kp (Nat.le_refl _) (setO_new R), rfl, q _ c hn hc⟩
  · subst e
    have hz : its.toArray.size = ks.length := by rw [List.size_toArray, ← hlen, List.length_map]
    have hit : its = ks.map fun p => Value.ref p.1 := refs_of_vals rv
    refine Ve.set_by (P := X.prog) (w := X.w) tp (Res := fun h' => ∃ L es ep t, SetTR X.prog X.w h' s.heap.objs.size L es ep t ∧ Got ks ks.length L) (I.ok.hd hc) hu hl ?_ fun h' tk ⟨L, es, ep, t, R, g⟩ kp => ?_
    · intro A' It fp wr Gn Pv St s1 R hu' W nf hv hw h0 kp hf post
      refine set_update_tups W s.heap.objs.size nf ks hz few (fun i v pv => ?_) s.heap (fun p hp => I.isT (hk p hp)) (Ve.old_none (Nat.le_refl _)) hw hu' its.toArray.size 0 s1 (by omega) (Nat.zero_le _) h0 kp ⟨[], #[], 0, _, setTR_fresh hf, Got.zero ks⟩ fun s' L es ep t hm hR g _ => post s' hm ⟨L, es, ep, t, hR, hz ▸ g⟩
      have q1 := hv i v pv
      have q2 : its[i]? = some v := by simpa using q1
      rw [hit, List.getElem?_map] at q2
      cases q3 : ks[i]? with
      | none => rw [q3] at q2; cases q2
      | some p =>
        rw [q3] at q2
        cases q2
        exact ⟨p, rfl, rfl⟩
    · refine ⟨.ref s.heap.objs.size, _, I.laid (t' := tk) kp (Nat.le_refl _) (setTO_new R.t0), rfl, q _ L hn (fun p hp => List.mem_of_mem_take (g.sub p hp)) fun p hp => g.all p (by rw [List.take_length]; exact hp)⟩
def rSrt (K : PySem.W.Frag) (P : Program) (w : World) : List V → Hp → VK → Prop := fun xs H Q => rSortedSet w xs H Q ∨ rSortedT K P w xs H Q
def prL (p : Addr × List Int) : Int × Int := match p.2 with
  | [i, j] => (i, j)
  | _ => (0, 0)
theorem ss_law (kk : X.K = G.K) {H : Hp} {h : CH} {x : Val} {v : V} {Q : VP} {Q' : VK} (rx : RepV G H h x v) (hr : HRep G H h) (w : ssOp x h Q) (fn : Fin G h H Q Q') :
    rSetX X.K X.prog X.w [v] H fun a H2 => rSrt X.K X.prog X.w [a] H2 Q' := by
  obtain ⟨xs, e, w⟩ := w
  obtain ⟨l, vs, ev, sq, rl⟩ : ∃ l vs, v = .ref l ∧ (SqL X.K H l vs ∨ SqT X.K H l vs) ∧ RepL G H h xs vs := by
    rcases e with e | rfl
    · obtain ⟨l, vs, ev, sq, rl⟩ := rep_rdL rx hr e
      exact ⟨l, vs, ev, .inl (kk ▸ sq), rl⟩
    · obtain ⟨l, vs, ev, sq, rl⟩ := rep_tup rx
      exact ⟨l, vs, ev, .inr (kk ▸ sq), rl⟩
  subst ev
  refine ⟨l, vs, rfl, sq, ?_⟩
  rcases w with ⟨ns, e1, few, q⟩ | ⟨ps, e1, few, bd, q⟩
  · have e3 := ints_rep rl e1
    refine .inl ⟨ns, e3, few, fun a c na hc => .inl ⟨a, _, c, rfl, upd_same, by omega, fun ms p s1 s2 _ np => ?_⟩⟩
    have f1 : Fra h H h (upd H a (SetO X.w a (fun j => decide (j ∈ ns)) c)) := Fra.new na (hr.gone na)
    have h1 := hr.new (o := SetO X.w a (fun j => decide (j ∈ ns)) c) na
    exact fn _ _ (.lst (ms.map .int)) h (rep_newL (rep_map_int ms) h1 np) (h1.new np) (f1.trans (Fra.new np (h1.gone np))) (q ms s1 fun i => by rw [s2 i]; simp)
  · let key : V → Int × Int := fun v => match v with
      | .ref t => (match H t with
        | some (.tup [.int i, .int j]) => (i, j)
        | _ => (0, 0))
      | _ => (0, 0)
    have hk : ∀ t i j, H t = some (.tup [.int i, .int j]) → key (.ref t) = (i, j) := fun t i j e => by
      show (match H t with
        | some (.tup [.int i, .int j]) => (i, j)
        | _ => (0, 0)) = (i, j)
      rw [e]
    obtain ⟨i1, i2⟩ := pairs_rep rl e1 key hk
    let adr : V → Addr := fun v => match v with
      | .ref t => t
      | _ => 0
    let ks : List (Addr × List Int) := vs.map fun v => (adr v, [(key v).1, (key v).2])
    have hks : ∀ p ∈ ks, ∃ v ∈ vs, v = .ref p.1 ∧ p.2 = [(key v).1, (key v).2] ∧ H p.1 = some (.tup [.int (key v).1, .int (key v).2]) ∧ h p.1 = none := fun p hp => by
      obtain ⟨v, hv, rfl⟩ := List.mem_map.mp hp
      obtain ⟨t, rfl, ht, nt⟩ := i2 v hv
      exact ⟨.ref t, hv, rfl, rfl, ht, nt⟩
    have ev : vs = ks.map fun p => V.ref p.1 := by
      rw [List.map_map]
      refine Eq.trans (List.map_id vs).symm (List.map_congr_left fun v hv => ?_)
      obtain ⟨t, rfl, _⟩ := i2 v hv
      rfl
    have kl : ks.length = ps.length := by rw [← i1, List.length_map, List.length_map]
    have inP : ∀ p ∈ ks, prL p ∈ ps ∧ p.2 = [(prL p).1, (prL p).2] ∧ key (.ref p.1) = prL p := fun p hp => by
      obtain ⟨v, hv, ev, e2, ht, _⟩ := hks p hp
      have e3 : prL p = key v := by unfold prL; rw [e2]
      rw [e3]
      exact ⟨by rw [← i1]; exact List.mem_map.mpr ⟨v, hv, rfl⟩, e2, by rw [ev]⟩
    have tup : ∀ p ∈ ks, H p.1 = some (.tup (p.2.map V.int)) ∧ h p.1 = none := fun p hp => by
      obtain ⟨v, hv, ev, e2, ht, nt⟩ := hks p hp
      rw [e2]
      exact ⟨ht, nt⟩
    refine .inr ⟨ks, ev, fun p hp => .inl (.inl (tup p hp).1), by omega, fun a L na sub all => .inr ⟨a, L, 2, 64, rfl, upd_same, fun p hp => .inl (.inl ?_), by decide, fun p hp => ?_, fun L' p pm nd _ pw np => ?_⟩⟩
    · rw [upd_ne (ne_of_none (tup p (sub p hp)).1 na)]
      exact (tup p (sub p hp)).1
    · obtain ⟨m1, m2, _⟩ := inP p (sub p hp)
      obtain ⟨b1, b2⟩ := bd _ m1
      rw [m2]
      refine ⟨rfl, fun m hm => ?_⟩
      rcases List.mem_cons.mp hm with hm | hm
      · rw [hm]; exact b1
      · rw [List.mem_singleton.mp hm]; exact b2
    · have subL : ∀ q ∈ L', q ∈ ks := fun q hq => sub q (pm.mem_iff.mp hq)
      have f1 : Fra h H h (upd H a (SetTO X.prog X.w a L)) := Fra.new na (hr.gone na)
      have h1 := hr.new (o := SetTO X.prog X.w a L) na
      have ek : (L'.map fun q => V.ref q.1).map key = L'.map prL := by
        rw [List.map_map]
        exact List.map_congr_left fun q hq => (inP q (subL q hq)).2.2
      have rl' : RepL G H h ((L'.map prL).map pairV) (L'.map fun q => V.ref q.1) := by
        rw [← ek]
        refine rep_of_pairs key fun v hv => ?_
        obtain ⟨q, hq, rfl⟩ := List.mem_map.mp hv
        obtain ⟨m1, m2, m3⟩ := inP q (subL q hq)
        obtain ⟨t1, t2⟩ := tup q (subL q hq)
        refine ⟨q.1, rfl, ?_, t2⟩
        rw [m3, t1]
        rw [m2]
        rfl
      refine fn _ _ (.lst ((L'.map prL).map pairV)) h (rep_newL (RepL.mono f1.kept _ _ rl') h1 np) (h1.new np) (f1.trans (Fra.new np (h1.gone np))) (q _ ?_ fun r => ?_)
      · rw [List.pairwise_map]
        have nd2 : L'.Pairwise fun q r => q.2 ≠ r.2 := List.pairwise_map.mp nd
        refine List.Pairwise.imp_of_mem (fun {q r} hq hr' z => ?_) (pw.and nd2)
        obtain ⟨m1, m2, _⟩ := inP q (subL q hq)
        obtain ⟨n1, n2, _⟩ := inP r (subL r hr')
        obtain ⟨b1, b2⟩ := bd _ m1
        obtain ⟨b3, b4⟩ := bd _ n1
        have z1 := z.1
        have z2 := z.2
        rw [m2, n2] at z1 z2
        exact pair_lt z1 z2 b1 b2 b3 b4
      · constructor
        · intro hr'
          obtain ⟨q, hq, rfl⟩ := List.mem_map.mp hr'
          exact (inP q (subL q hq)).1
        · intro hr'
          rw [← i1] at hr'
          obtain ⟨v, hv, ev'⟩ := List.mem_map.mp hr'
          have hm := all (adr v, [(key v).1, (key v).2]) (List.mem_map.mpr ⟨v, hv, rfl⟩)
          obtain ⟨q, hq, eq⟩ := List.mem_map.mp hm
          refine List.mem_map.mpr ⟨q, pm.mem_iff.mpr hq, ?_⟩
          unfold prL
          rw [eq]
          exact ev'
/-- the form -/
theorem c_ss {Γ : Fns} {N : List Str} {sc : Scope} {W : WX} (g : Gd G Γ N sc W k X) {x : Expr} {m : E} {p1 p2 p3 p4 : Pos} (h1 : glB sc "sorted" = true) (h2 : glB sc "set" = true) (pl : plainE x = true) (px : PE X x (rE G Γ W m)) :
    PE X (.Call (.Name "sorted" p1) [.Call (.Name "set" p2) [x] [] p3] [] p4) (fun σ H Q => ∃ ρ h Q0 Xp, Ok G σ ρ H h ∧ wpE Γ m ρ h (fun y h1 => ssOp y h1 Q0) Xp ∧ Fin G h H Q0 Q ∧ FinX G W σ h H Xp) := by
  have hu64 : X.A.units + 64 < cLine := by have := g.rm.un; omega
  have s1 := pe_callTy (p := p2) (pos := p3) (cr_setX g.calm g.rm) (g.gl h2) (g.tab.bl _ (by decide)) (by decide +kernel) (pa_cons px pa_nil (star_plain pl)) (by decide) (by decide) (star_plain pl) rfl
  have cr : CallR X (.builtin "sorted") (rSrt X.K X.prog X.w) := CallR.or (cr_sortedSet g.calm) (cr_sortedT g.calm)
  have s2 := pe_callB (p := p1) (pos := p4) cr (g.gl h1) (g.tab.bl _ (by decide)) (by decide +kernel) (pa_cons s1 pa_nil rfl) (by decide) (by decide) rfl rfl
  refine pe_imp s2 fun σ H Q ⟨ρ, h, Q0, Xp, o, w, fn, fx⟩ => ?_
  exact one o w fx fun y v H2 h2 rx hr f q => ss_law g.K rx hr q fun u H' z h' rz hr' f' q' => fn u H' z h' rz hr' (f.trans f') q'
end
end Vc
/-! Vt: sets of pairs, item by item. -/
namespace Vt
open PySem PyProof.Rows L2 PpSet
section
variable
      {P : Program} {w : World} {A : Around} {E : Value → Shared → Prop} {s : Shared}
theorem add_tup {a x : Addr} {L : List (Addr × List Int)} {es : Array (Int × Value)} {ep : Nat} {t : SetTable} {k : List Int} {Q : Value → Shared → Prop} (R : SetTR P w s.heap a L es ep t) (hx : IsT P w s.heap k x) (hu : A.units + 1 < cLine) (few : L.length + 1 < 64)
    (fin : ∀ h' tk L' es' ep' t', Heap.SameBut a s.heap h' → SetTR P w h' a L' es' ep' t' → (k ∈ L.map (·.2) → L' = L) → (k ∉ L.map (·.2) → L'.Perm ((x, k) :: L)) → Q .none { s with heap := h', toks := tk }) :
    wpAny (model P w) A (call (.builtin "set.add") [.ref a, .ref x]) Q E s := by
  obtain ⟨o, ho, hex, hd⟩ :=
        R.ob
  refine wpAny_call_entry F.slot_set_add ⟨o, ho, hex.1⟩ F.entry_set_add ?_ (F.args_set_add_2 _ _)
  unfold
        Builtin.«set.add» Builtin.Frozenset.oneOther
  simp
        only [List.isEmpty_nil, bind_assoc]
  unfold
        Builtin.Frozenset.addrOf setAdd
  refine wpAny_bind (wpAny_pure (wpAny_bind (wpAny_pure (wpAny_bind (wpAny_holding (wpAny_bind (wpAny_pyHash_tuple (by show A.units + 1 < cLine; exact hu) hx ?_)))))))
  refine add_at (s := { s with toks := s.toks + (k.length + 1) }) R hx hu few fun b h' L' es' ep' t' sb R' c1 c2 => ?_
  show
        wpAny _ _ (ret Value.none) _ _ _
  exact wpAny_pure ⟨_, rfl, fin h' _ L' es' ep' t' sb R' c1 c2⟩
end
/-- what the turns do: D the new set -/
def tScp (K : PySem.W.Frag) (P : Program) (w : World) (wi : TI) (gt : TG) (tt : TT) (te : TE) (vs : List Nat) : TE := fun σ H Q => wi σ H fun J H1 => ∀ D, H1 D = none → ∃ M : Nat → Nat → Hp → Prop, (∃ m, M 0 m (upd H1 D (SetTO P w D []))) ∧
  ∀ i m H, M i m H → (J.stop i H ∧ Q (.ref D) H) ∨ (J.go i H ∧ ∃ Nx : Hp → Prop, (∀ H', Nx H' → ∃ m', m' < m ∧ M (i + 1) m' H') ∧
    ∀ x H', J.yld i H x H' → gt x (L2.wipe σ vs) H' fun σ2 H2 => L2.wipe σ2 vs = L2.wipe σ vs ∧ tt σ2 H2 fun b H3 =>
      if b = true then te σ2 H3 fun y H4 => ∃ L k c, y = .ref c ∧ H4 D = some (SetTO P w D L) ∧ SqT K H4 c (k.map V.int) ∧ (∀ p ∈ L, SqT K H4 p.1 (p.2.map V.int)) ∧ L.length + 1 < 64 ∧
        ∀ L' : List (Addr × List Int), (k ∈ L.map (·.2) → L' = L) → (k ∉ L.map (·.2) → L'.Perm ((c, k) :: L)) → Nx (upd H4 D (SetTO P w D L')) else Nx H3)
section
variable {X : Cx}
theorem sc_store {pins : List (Addr × Obj)} {σ : L2.St} {H : Hp} {s : Shared} {E : Value → Shared → Prop} {D c : Addr} {L : List (Addr × List Int)} {k : List Int} {Q : Value → Shared → Prop} (hu : X.A.units + 1 < cLine) (I : Inv X pins σ H s)
    (hD : H D = some (SetTO X.prog X.w D L)) (hc : SqT X.K H c (k.map V.int)) (hL : ∀ p ∈ L, SqT X.K H p.1 (p.2.map V.int)) (few : L.length + 1 < 64)
    (fin : ∀ L' s', (k ∈ L.map (·.2) → L' = L) → (k ∉ L.map (·.2) → L'.Perm ((c, k) :: L)) → Inv X pins σ (upd H D (SetTO X.prog X.w D L')) s' → Q .none s') :
    wpAny (model X.prog X.w) X.A (call (.builtin "set.add") [.ref D, .ref c]) Q E s := by
  have R0 : SetT0 X.prog X.w s.heap D L := (I.hok D _ hD).1
  obtain ⟨es, ep, t, R⟩ := R0.full fun p hp => I.isT (hL p hp)
  refine add_tup R (I.isT hc) hu few fun h' tk L' es' ep' t' sb R' c1 c2 => fin L' _ c1 c2 ?_
  obtain ⟨o, ho, _⟩ := R'.ob
  exact I.write (e := D) (t' := tk) (by rw [hD]; trivial) (.inl rfl) (fun b u hb hu => (sb.2 b hb).trans hu) ⟨o, ho⟩ (setTO_new R'.t0)
theorem pe_scp {elt tg iter : Expr} {ifs : List Expr} {scope : Scope} {own : List (Str × Nat)} {pos : Pos} {wi : TI} {gt : TG} {tt : TT} {te : TE} (hu : X.A.units + 1 < cLine) (hc : X.calm = true) (hN : X.N.Nodup) (hi : PI X tg iter wi) (bo : BlkOk X.N X.env.scope scope own)
    (all : ∀ (s : Shared) (H : Hp) (C : Addr) (cl : List (Str × Addr)) (fp : List Addr), PG (X.blk s H scope (compEnvC scope cl C X.env) fp) tg gt ∧ PTs (X.blk s H scope (compEnvC scope cl C X.env) fp) ifs tt ∧ PE (X.blk s H scope (compEnvC scope cl C X.env) fp) elt te)
    (hs : ∀ x, foldedSetIterable iter X.env x = pure x) : PE X (.SetComp elt [⟨tg, iter, ifs, 0⟩] scope pos) (tScp X.K X.prog X.w wi gt tt te (own.map (·.2))) := by
  constructor
  intro pins s σ H Q I h
  rw [eval_SetComp]
  have caught : ∀ y ∈ scope.names, y.2 = .free → ∃ c, X.env.cells.lookup y.1 = some c := fun y hy e => I.ok.has _ ((bo.free y hy e).elim .inl .inr)
  refine wpAny_comprehension_free rfl hs (closure_ok caught) bo.kind (fun y hy e => (bo.uniq y hy).trans (congrArg some e)) (thn (hi.run pins s σ H _ I h) fun _ _ q1 => thn q1 fun _ s2 q2 => ?_)
  obtain ⟨it, fp, tn, J, H2, rfl, I2, T, t2, f2, q⟩ := q2
  refine
        newSet_ok (newEnv_comp ?_)
  obtain ⟨D, hD⟩ : ∃ D, s2.heap.objs.size = D := ⟨_, rfl⟩
  obtain ⟨M, ⟨m0, w0⟩, turn⟩ := q D (I2.hok.fresh (Nat.le_of_eq hD))
  obtain ⟨s3, hs3⟩ : ∃ s3 : Shared, s3 = { s2 with heap := s2.heap.push (Ve.freshSet X.w) } := ⟨_, rfl⟩
  obtain ⟨H3, hH3⟩ : ∃ H3, H3 = upd H2 D (SetTO X.prog X.w D []) := ⟨_, rfl⟩
  have h3 : s3.heap = s2.heap.push (Ve.freshSet X.w) := congrArg Shared.heap hs3
  have up : ∀ b o, s2.heap.get? b = some o → s3.heap.get? b = some o := fun b o e => by rw [h3]; exact Heap.get?_push_of_some _ e
  have I3 : Inv X pins σ H3 s3 := by
    subst hs3 hH3
    exact I2.laid (t' := s2.toks) (fun b o e => Heap.get?_push_of_some _ e) (Nat.le_of_eq hD) (by rw [← hD]; exact setTO_new (setTR_fresh (Heap.get?_push_size _ rfl)).t0)
  have f3 : ∀ b ∈ fp, FpOk X pins H3 b ∧ b < s3.heap.objs.size := fun b hb => by
    obtain ⟨o, e, _⟩ := T.obj _ _ t2 b hb
    have lt : b < s2.heap.objs.size := Heap.lt_size e
    obtain ⟨k1, k2⟩ := f2 b hb
    exact ⟨⟨by rw [hH3, upd_ne (Nat.ne_of_lt (hD ▸ lt))]; exact k1, k2⟩, by rw [h3, Heap.size_push]; exact Nat.lt_succ_of_lt lt⟩
  have t3 : tn 0 s3.heap := T.keep _ _ _ t2 fun b _ o e => up b o e
  have I4 := block_start I3 bo hN f3
  obtain ⟨pg, pt, pe⟩ := all s3 H3 s3.heap.objs.size (cellsFrom (s3.heap.objs.size + 1) scope.names (cloFrom X.env.cells scope.names [])) fp
  rw [← hH3] at w0
  have n3 : ∀ b ∈ fp, H3 b = none := fun b hb => (f3 b hb).1.1
  obtain ⟨s4, hs4⟩ : ∃ s4 : Shared, s4 = { s3 with heap := pushCells (s3.heap.push { cls := .type "dict", data := .dict #[] }) scope.names } := ⟨_, rfl⟩
  obtain ⟨ce, hce⟩ : ∃ ce, ce = compEnvC scope (cellsFrom (s3.heap.objs.size + 1) scope.names (cloFrom X.env.cells scope.names [])) s3.heap.objs.size X.env := ⟨_, rfl⟩
  have cl : ce.locals = s3.heap.objs.size := congrArg Env.locals hce
  rw [← hce] at I4 pg pt pe
  rw [← hs4] at I4
  have t4 : tn 0 s4.heap := T.keep _ _ _ t3 fun b _ o e => by rw [hs4]; exact pushCells_keeps _ _ _ _ (Heap.get?_push_of_some _ e)
  have okf : ∀ {σ' : L2.St} {H' : Hp} {s' : Shared}, Inv (X.blk s3 H3 scope ce fp) [] σ' H' s' → (∀ b ∈ fp, H' b = none) → ∀ b ∈ fp, FpOk (X.blk s3 H3 scope ce fp) [] H' b := fun J n b hb =>
    ⟨n b hb, (J.ok.exf b hb).1, J.ok.exfs b hb, .inl hb, fun x c e => (J.ok.exf b hb).2 x c e, fun p hp => by cases hp⟩
  have post : ∀ (H' : Hp) (s' : Shared) (σ' : L2.St), Inv (X.blk s3 H3 scope ce fp) [] σ' H' s' → Q (.ref D) H' → compPost (model X.prog X.w) X.A X.xe none (EP X pins σ Q) (.ref D) s3.heap.objs.size (.ok .next) s' := fun H' s' σ' I6 qq => by
    have I7 : Inv X pins σ H' s' := I3.call' (ch := fp) I6.os I6.base I6.hok I6.bare fun b hb => ⟨(f3 b hb).1.2.2.2.1, (f3 b hb).1.2.1, (f3 b hb).1.2.2.2.2.1, (f3 b hb).1.2.2.2.2.2⟩
    have nc : H' s3.heap.objs.size = none := cl ▸ (show H' ce.locals = none from I6.free)
    obtain ⟨m, hn, _⟩ := I6.loc
    have hn' : s'.heap.Ns s3.heap.objs.size m := cl ▸ (show s'.heap.Ns ce.locals m from hn)
    have g := I3.fpOk (H' := H') (Nat.le_refl _) nc
    exact ⟨m, hn', fun h2 sb => ⟨.ref D, H', I7.turned (t' := s'.toks) (fun b o hb e => (sb.2 b hb).trans e) g.1 g.2.1 g.2.2.2.1 g.2.2.2.2.1 g.2.2.2.2.2, rfl, qq⟩⟩
  have loop : codeAny (model X.prog X.w) X.A (.compLoop (.SetComp elt [⟨tg, iter, ifs, 0⟩] scope pos) 0 (.ref it) (.ref D) ce) (compPost (model X.prog X.w) X.A X.xe none (EP X pins σ Q) (.ref D) s3.heap.objs.size) s4 := by
    refine compLoopS_any (fun n s' => ∃ i H', Inv (X.blk s3 H3 scope ce fp) [] (L2.wipe σ (own.map (·.2))) H' s' ∧ tn i s'.heap ∧ (∀ b ∈ fp, H' b = none) ∧ M i n H') (fun n s5 hI => ?_) m0 ⟨0, H3, I4, t4, n3, w0⟩
    obtain ⟨i, H5, I5, t5, n5, w5⟩ := hI
    rcases
          turn i n H5 w5 with ⟨stop, qq⟩ | ⟨go, Nx, hNx, step⟩
    · refine thnF (T.done (X.blk s3 H3 scope ce fp) rfl rfl rfl hc i [] s5 _ H5 (fun _ _ => False) I5 (okf I5 n5) t5 stop) fun r s6 ⟨hr, I6⟩ => ?_
      rw [hr]
      exact post H5 s6 _ I6 qq
    · refine thnF (T.item (X.blk s3 H3 scope ce fp) rfl rfl rfl hc i [] s5 _ H5 (fun _ _ => False) I5 (okf I5 n5) t5 go) fun r s6 ⟨u, hr, g6⟩ => ?_
      rw [hr]
      refine thnF g6 fun _ s7 ⟨x, H7, I7, r7, y7, t7, n7⟩ => thnF (pg.run _ s7 _ H7 x u _ (I7.pinned (okf I7 n7) (T.obj _ _ t7)) r7 (step x H7 y7)) fun _ s8 ⟨σ8, H8, I8, e8, q8⟩ => thnF (pt.run _ s8 σ8 H8 _ I8 q8) fun b s9 ⟨H9, I9, q9⟩ => ?_
      have back : ∀ {s' : Shared} {H' : Hp}, Inv (X.blk s3 H3 scope ce fp) ([] ++ pinsAt fp s7.heap) σ8 H' s' → Nx H' → ∃ m, m < n ∧ ∃ i H', Inv (X.blk s3 H3 scope ce fp) [] (L2.wipe σ (own.map (·.2))) H' s' ∧ tn i s'.heap ∧ (∀ b ∈ fp, H' b = none) ∧ M i m H' := by
        intro s' H' J nx
        obtain ⟨m', lt, w'⟩ := hNx H' nx
        have pin : ∀ b ∈ fp, ∀ o, s7.heap.get? b = some o → s'.heap.get? b = some o ∧ H' b = none := fun b hb o e => by
          obtain ⟨z1, z2, _⟩ := J.pin (b, o) (List.mem_append_right _ (List.mem_append_right _ (mem_pinsAt hb e)))
          exact ⟨z1, z2⟩
        refine ⟨m', lt, i + 1, H', (J.unpinned (pins := [])).weak (by rw [← e8, wipe_length]) (fun j v e => (wipe_some (e8 ▸ e)).1), T.keep _ _ _ t7 (fun b hb o e => (pin b hb o e).1), fun b hb => ?_, w'⟩
        obtain ⟨o, e, _⟩ := T.obj _ _ t7 b hb
        exact (pin b hb o e).2
      cases b with
      | false => exact back I9 (by simpa using q9)
      | true =>
        rw [if_pos rfl] at q9 ⊢
        refine thnF (pe.run _ s9 σ8 H9 _ I9 q9) fun _ s10 ⟨y, H10, I10, r10, L, k, c, ey, h1, h2, h3', few, nx⟩ => ?_
        subst ey
        obtain rfl := (show _ = Value.ref c from r10)
        exact sc_store (X := X.blk s3 H3 scope ce fp) hu I10 h1 h2 h3' few fun L' s11 c1 c2 I11 => back I11 (nx L' c1 c2)
  have fin := codeAny_compStart_set loop (T.self X.A 0 _ _ _ t4 loop)
  rw [hs4, hce] at fin
  rw [hs3, ← hD] at fin
  exact fin
end
end Vt
/-! Vu: sorted({pair for ..}). -/
namespace Vc
open PySem L2 PyProof.Rows
section
variable {G : Cfg} {Γ : Fns} {N : List Str} {sc : Scope} {W : WX} {k : Nat} {X : Cx}
def prI (p : Int × Int) : List Int := [p.1, p.2]
def scF (Γ : Fns) (own : List Nat) (ρ : Env) (t : Tg) (c : Cs) (e : E) : Val → CH → List (Int × Int) → (List (Int × Int) → CH → Prop) → Prop := fun x h acc K => setT t x (wipe own ρ) fun ρ' => wpCs Γ c ρ' h fun b h' =>
  (b = true → wpE Γ e ρ' h' (fun y h2 => ∃ p, pairOf y = some p ∧ ((0 ≤ p.1 ∧ p.1 < 64) ∧ 0 ≤ p.2 ∧ p.2 < 64) ∧ acc.length < 62 ∧ K (acc ++ [p]) h2) noX) ∧ (b = false → K acc h')
/-- what the set holds, by values -/
structure ScL (H : Hp) (h : CH) (L : List (Addr × List Int)) (acc : List (Int × Int)) : Prop where
  tup : ∀ q ∈ L, H q.1 = some (.tup (q.2.map V.int)) ∧ h q.1 = none
  inA : ∀ q ∈ L, ∃ p ∈ acc, q.2 = prI p
  all : ∀ p ∈ acc, prI p ∈ L.map (·.2)
  bd : ∀ p ∈ acc, (0 ≤ p.1 ∧ p.1 < 64) ∧ 0 ≤ p.2 ∧ p.2 < 64
  len : L.length ≤ acc.length
  few : acc.length ≤ 62
theorem ScL.mono {h h' : CH} {H H' : Hp} {L : List (Addr × List Int)} {acc : List (Int × Int)} (s : ScL H h L acc) (f : Fro h H h' H') : ScL H' h' L acc :=
  ⟨fun q hq => let ⟨a, b⟩ := s.tup q hq; let ⟨c, d⟩ := f _ b _ a; ⟨c, d⟩, s.inA, s.all, s.bd, s.len, s.few⟩
theorem ScL.add {h : CH} {H H' : Hp} {L L' : List (Addr × List Int)} {acc : List (Int × Int)} {c : Addr} {p : Int × Int} (s : ScL H h L acc) (hc : H c = some (.tup ((prI p).map V.int)) ∧ h c = none) (hb : (0 ≤ p.1 ∧ p.1 < 64) ∧ 0 ≤ p.2 ∧ p.2 < 64) (hf : acc.length < 62)
    (c1 : prI p ∈ L.map (·.2) → L' = L) (c2 : prI p ∉ L.map (·.2) → L'.Perm ((c, prI p) :: L)) (ke : ∀ a, (∃ vs, H a = some (.tup vs)) → H' a = H a) : ScL H' h L' (acc ++ [p]) := by
  have bd : ∀ q ∈ acc ++ [p], (0 ≤ q.1 ∧ q.1 < 64) ∧ 0 ≤ q.2 ∧ q.2 < 64 := fun q hq => by
    rcases
          List.mem_append.mp hq with hq | hq
    · exact s.bd q hq
    · rw [List.mem_singleton.mp hq]; exact hb
  have fw : (acc ++ [p]).length ≤ 62 := by rw [List.length_append, List.length_singleton]; omega
  by_cases m : prI p ∈ L.map (·.2)
  · rw [c1 m]
    refine ⟨fun q hq => ?_, fun q hq => ?_, fun q hq => ?_, bd, ?_, fw⟩
    · obtain ⟨a, b⟩ := s.tup q hq
      exact ⟨(ke _ ⟨_, a⟩).trans a, b⟩
    · obtain ⟨r, hr, e⟩ := s.inA q hq
      exact ⟨r, List.mem_append_left _ hr, e⟩
    · rcases
          List.mem_append.mp hq with hq | hq
      · exact s.all q hq
      · rw [List.mem_singleton.mp hq]; exact m
    · have := s.len
      rw [List.length_append]; omega
  · have pm := c2 m
    refine ⟨fun q hq => ?_, fun q hq => ?_, fun q hq => ?_, bd, ?_, fw⟩
    · rcases List.mem_cons.mp (pm.mem_iff.mp hq) with e | hq
      · rw [e]; exact ⟨(ke _ ⟨_, hc.1⟩).trans hc.1, hc.2⟩
      · obtain ⟨a, b⟩ := s.tup q hq
        exact ⟨(ke _ ⟨_, a⟩).trans a, b⟩
    · rcases List.mem_cons.mp (pm.mem_iff.mp hq) with e | hq
      · rw [e]; exact ⟨p, List.mem_append_right _ (List.mem_singleton.mpr rfl), rfl⟩
      · obtain ⟨r, hr, e⟩ := s.inA q hq
        exact ⟨r, List.mem_append_left _ hr, e⟩
    · have pm2 := (pm.map (·.2)).mem_iff (a := prI q)
      rw [pm2]
      rcases
            List.mem_append.mp hq with hq | hq
      · exact List.mem_cons_of_mem _ (s.all q hq)
      · rw [List.mem_singleton.mp hq]; exact List.mem_cons_self
    · have := s.len
      rw [pm.length_eq, List.length_cons, List.length_append, List.length_singleton]; omega
def ScI (G : Cfg) (X : Cx) (D : Addr) (h1 : CH) (H1 : Hp) (P : List (Int × Int) → CH → Prop) (H' : Hp) : Prop :=
  ∃ h' acc L, h' D = some junk ∧ H' D = some (SetTO X.prog X.w D L) ∧ ScL H' h' L acc ∧ HRep G H' h' ∧ Fra h1 H1 h' H' ∧ P acc h'
theorem prL_prI {q : Addr × List Int} {p : Int × Int} (e : q.2 = prI p) : prL q = p := by
  unfold prL
  rw [e]
  rfl
theorem ssc_end (kk : X.K = G.K) {h h' : CH} {H Hf : Hp} {D : Addr} {L : List (Addr × List Int)} {acc : List (Int × Int)} {Q : VP} {Q' : VK} (hD : Hf D = some (SetTO X.prog X.w D L)) (sl : ScL Hf h' L acc) (hr : HRep G Hf h') (fr : Fra h H h' Hf) (fn : Fin G h H Q Q')
    (q : ∀ qs : List (Int × Int), qs.Pairwise lexlt → (∀ p, p ∈ qs ↔ p ∈ acc) → Q (.lst (qs.map pairV)) h') : rSrt X.K X.prog X.w [.ref D] Hf Q' := by
  refine .inr ⟨D, L, 2, 64, rfl, hD, fun p hp => .inl (.inl (sl.tup p hp).1), by decide, fun p hp => ?_, fun L' p pm nd _ pw np => ?_⟩
  · obtain ⟨r, hr', e⟩ := sl.inA p hp
    obtain ⟨b1, b2⟩ := sl.bd r hr'
    rw [e]
    refine ⟨rfl, fun m hm => ?_⟩
    rcases List.mem_cons.mp hm with hm | hm
    · rw [hm]; exact b1
    · rw [List.mem_singleton.mp hm]; exact b2
  · have subL : ∀ q ∈ L', q ∈ L := fun q hq => pm.mem_iff.mp hq
    have rl : ∀ M : List (Addr × List Int), (∀ q ∈ M, q ∈ L) → RepL G Hf h' ((M.map prL).map pairV) (M.map fun q => V.ref q.1) := by
      intro M
      induction M with
      | nil => intro _; rfl
      | cons q M ih =>
        intro hM
        obtain ⟨t1, t2⟩ := sl.tup q (hM q List.mem_cons_self)
        obtain ⟨r, _, e⟩ := sl.inA q (hM q List.mem_cons_self)
        rw [e] at t1
        refine ⟨.ref q.1, _, rfl, ⟨q.1, _, rfl, .inl ⟨t1, t2⟩, ?_⟩, ih fun z hz => hM z (List.mem_cons_of_mem _ hz)⟩
        rw [prL_prI e]
        exact ⟨_, _, rfl, rfl, _, _, rfl, rfl, rfl⟩
    refine fn _ _ (.lst ((L'.map prL).map pairV)) h' (rep_newL (rl L' subL) hr np) (hr.new np) (fr.trans (Fra.new np (hr.gone np))) (q _ ?_ fun r => ?_)
    · rw [List.pairwise_map]
      have nd2 : L'.Pairwise fun q r => q.2 ≠ r.2 := List.pairwise_map.mp nd
      refine List.Pairwise.imp_of_mem (fun {q r} hq hr' z => ?_) (pw.and nd2)
      obtain ⟨a, ha, ea⟩ := sl.inA q (subL q hq)
      obtain ⟨b, hb, eb⟩ := sl.inA r (subL r hr')
      obtain ⟨b1, b2⟩ := sl.bd a ha
      obtain ⟨b3, b4⟩ := sl.bd b hb
      rw [prL_prI ea, prL_prI eb]
      have z1 := z.1
      have z2 := z.2
      rw [ea, eb] at z1 z2
      exact pair_lt z1 z2 b1 b2 b3 b4
    · constructor
      · intro hr'
        obtain ⟨q, hq, rfl⟩ := List.mem_map.mp hr'
        obtain ⟨a, ha, ea⟩ := sl.inA q (subL q hq)
        rw [prL_prI ea]
        exact ha
      · intro hr'
        obtain ⟨q, hq, eq⟩ := List.mem_map.mp (sl.all r hr')
        exact List.mem_map.mpr ⟨q, pm.mem_iff.mpr hq, prL_prI eq⟩
theorem ssc_law (kk : X.K = G.K) {U : Hp → Hp → Prop} (hU2 : ∀ H H2 D L, U H H2 → H D = some (SetTO X.prog X.w D L) → H2 D = some (SetTO X.prog X.w D L)) {own : List Nat} {t : Tg} {it : I} {c : Cs} {e : E} {σ : L2.St} {ρ : Env} {H : Hp} {h : CH} {Q : VP} {Q' : VK} {Xp : XP} (ht : tgIn own t = true)
    (o : Ok G σ ρ H h) (w : wpE Γ (.ssc own t it c e) ρ h Q Xp) (fn : Fin G h H Q Q') (fx : FinX G W σ h H Xp) :
    Vt.tScp X.K X.prog X.w (rI G Γ W U it) (rG G t) (rCs G Γ c) (rE G Γ noW e) own σ H (fun v H' => ∃ H2, U H' H2 ∧ rSrt X.K X.prog X.w [v] H2 Q') := by
  refine ⟨ρ, h, _, Xp, o, w, fx, fun J H1 h1 xs stb hr1 kp itr bk w1 D nD => ?_⟩
  have hd : h1 D = none := hr1.gone nD
  have w1 : goL stb (scF Γ own ρ t c e) xs (h1.set D junk) [] fun acc h' => ∀ qs : List (Int × Int), qs.Pairwise lexlt → (∀ p, p ∈ qs ↔ p ∈ acc) → Q (.lst (qs.map pairV)) (h'.del D) := w1 D hd
  have sl0 : Slots G (L2.wipe σ own) (wipe own ρ) H1 h1 := (o.s.mono kp).wipe own
  refine ⟨fun i m H' => m = xs.length - i ∧ i ≤ xs.length ∧ ScI G X D h1 H1 (fun acc h' => goL stb (scF Γ own ρ t c e) (xs.drop i) h' acc fun acc h' => ∀ qs : List (Int × Int), qs.Pairwise lexlt → (∀ p, p ∈ qs ↔ p ∈ acc) → Q (.lst (qs.map pairV)) (h'.del D)) H',
    ⟨xs.length, by simp, Nat.zero_le _, h1.set D junk, [], [], CH.set_same, upd_same, ⟨fun q hq => (by cases hq), fun q hq => (by cases hq), fun q hq => (by cases hq), fun q hq => (by cases hq), Nat.le_refl _, Nat.zero_le _⟩, hr1.own nD (by rw [show ObAt G _ _ D junk = ∃ u, _ from rfl]; exact ⟨_, upd_same, fun vs z => by cases z⟩), Fra.own nD hd, w1⟩, ?_⟩
  rintro i m H' ⟨rfl, hi, h', acc, L, hj, hD, sl, hr, f, w⟩
  by_cases hlt : i < xs.length
  · rw [List.drop_eq_getElem_cons hlt] at w
    obtain ⟨hst, w⟩ := w
    obtain ⟨it1, _⟩ := itr H' h' f.fro hr hst
    obtain ⟨go, y⟩ := it1 i _ (List.getElem?_eq_getElem hlt)
    refine .inr ⟨go, ScI G X D h1 H1 (fun acc h' => goL stb (scF Γ own ρ t c e) (xs.drop (i + 1)) h' acc fun acc h' => ∀ qs : List (Int × Int), qs.Pairwise lexlt → (∀ p, p ∈ qs ↔ p ∈ acc) → Q (.lst (qs.map pairV)) (h'.del D)), fun H'' p => ⟨xs.length - (i + 1), by omega, rfl, hlt, p⟩, fun v H2 yl => ?_⟩
    obtain ⟨rx, hr2, f2⟩ := y v H2 yl
    refine ⟨wipe own ρ, h', xs[i], _, (sl0.mono f.kept).mono f2.kept, hr2, rx, w, fun σ' ρ' sv wp pw => ⟨(wp own ht).trans wipe_wipe, ρ', h', _, ⟨sv, hr2⟩, pw, fun b H3 h3 hr3 f3 q => ?_⟩⟩
    cases b with
    | false =>
      rw [if_neg (by decide)]
      have f23 := f2.trans f3
      obtain ⟨e1, e2⟩ := f23.j D hj
      exact ⟨h3, acc, L, e2, e1.trans hD, sl.mono f23.fro, hr3, f.trans f23, q.2 rfl⟩
    | true =>
      rw [if_pos rfl]
      refine ⟨ρ', h3, _, noX, ⟨sv.mono f3.kept, hr3⟩, q.1 rfl, fun u H4 x h4 ru hr4 f4 q4 => ?_, FinX.no⟩
      obtain ⟨p, ep, bd, few, q4⟩ := q4
      have f24 := (f2.trans f3).trans f4
      obtain ⟨e1, e2⟩ := f24.j D hj
      obtain ⟨a, ea, ha, na⟩ := pair_rep ru ep
      have sl4 := sl.mono f24.fro
      have hD4 := e1.trans hD
      refine ⟨L, prI p, a, ea, hD4, .inl (.inl ha), fun z hz => .inl (.inl (sl4.tup z hz).1), by have := sl4.len; have := sl4.few; omega, fun L' c1 c2 => ?_⟩
      exact ⟨h4, acc ++ [p], L', e2, upd_same, sl4.add ⟨ha, na⟩ bd few c1 c2 (fun b ⟨vs, eb⟩ => upd_ne fun z => by rw [z, hD4] at eb; cases eb), HRep.jw (fun vs z => by cases z) hr4 e2, (f.trans f24).out hd nD, q4⟩
  · have ei : i = xs.length := by omega
    subst ei
    rw [List.drop_length] at w
    obtain ⟨hst, w⟩ := w
    obtain ⟨_, sp⟩ := itr H' h' f.fro hr hst
    obtain ⟨Hf, u, fr, hrf, kf⟩ := bk (h'.del D) H' (f.undel hd) (hr.less fun a x => del_some)
    have slf : ScL Hf (h'.del D) L acc := ⟨fun q hq => by
      obtain ⟨t1, t2⟩ := sl.tup q hq
      have n1 : h'.del D q.1 = none := by
        by_cases z : q.1 = D
        · rw [z, CH.del_same]
        · rw [CH.del_ne z]; exact t2
      exact kf.t _ _ n1 t1, sl.inA, sl.all, sl.bd, sl.len, sl.few⟩
    exact .inl ⟨sp, Hf, u, ssc_end kk (hU2 _ _ D L u hD) slf hrf fr fn w⟩
theorem unl_set {H H2 : Hp} {D : Addr} {L : List (Addr × List Int)} (u : Unl X H H2) (e : H D = some (SetTO X.prog X.w D L)) : H2 D = some (SetTO X.prog X.w D L) := by
  rcases u with rfl | ⟨d, od, w, _, ed, _, rfl⟩
  · exact e
  · rw [upd_ne (fun z => by rw [z, ed] at e; cases e)]
    exact e
/-- the form -/
theorem c_ssc (g : Gd G Γ N sc W k X) {x : Expr} {m : E} {t : TE} {p1 p4 : Pos} (h1 : glB sc "sorted" = true) (pl : plainE x = true) (px : PE X x t)
    (law : ∀ σ H Q, rE G Γ W m σ H Q → t σ H fun v H' => ∃ H2, Unl X H' H2 ∧ rSrt X.K X.prog X.w [v] H2 Q) : PE X (.Call (.Name "sorted" p1) [x] [] p4) (rE G Γ W m) := by
  have hu64 : X.A.units + 64 < cLine := by have := g.rm.un; omega
  have cr : CallR X (.builtin "sorted") (rSrt X.K X.prog X.w) := CallR.or (cr_sortedSet g.calm) (cr_sortedT g.calm)
  have s2 := pe_callB (p := p1) (pos := p4) cr (g.gl h1) (g.tab.bl _ (by decide)) (by decide +kernel) (pa_cons (pe_unl px) pa_nil (star_plain pl)) (by decide) (by decide) (star_plain pl) rfl
  exact pe_imp s2 fun σ H Q z => law σ H Q z
end
end Vc
/-! Vc15: every expression. -/
namespace Vc
open PySem L2 PyProof.Rows
section
variable {G : Cfg} {Γ : Fns}
theorem cki_plain {N : List Str} {sc : Scope} {it : I} {tg x : Expr} (h : ckI N sc it tg x = true) : plainE x = true := by
  cases it with
  | sq e => exact ck_plain e h
  | dk e => exact ck_plain e h
  | ky e => exact ck_plain e h
  | _ => cases x <;> first | rfl | (cases h; done)
/-- further forms are told -/
theorem isi_sound {N : List Str} {sc : Scope} {W : WX} {k : Nat} {X : Cx} (g : Gd G Γ N sc W k X) {x : Expr} {m : E} {ty : String} {p p2 pos : Pos} (hi : glB sc "isinstance" = true) (pl : plainE x = true) (px : PE X x (rE G Γ W m)) (pt : PE X (.Name ty p2) (tC (.ty ty))) (b : Bool) (ok : Val → Prop)
    (tys : ∀ y, ok y → ∃ t, (∀ H h v, RepV G H h y v → TyX X.K H v t) ∧ PySem.W.kitOne X.K t (.type ty) = some b) :
    PE X (.Call (.Name "isinstance" p) [x, .Name ty p2] [] pos) (fun σ H Q => rE G Γ W m σ H fun v H1 => (∃ y h1, RepV G H1 h1 y v ∧ ok y) ∧ Q (.bl b) H1) := by
  have ps : PA X [x, .Name ty p2] (tCons (rE G Γ W m) (tCons (tC (.ty ty)) tNil)) := pa_cons px (pa_cons pt pa_nil rfl) (star_plain pl)
  refine pe_imp (pe_callB call_isi (g.gl hi) (g.tab.bl _ (by decide)) (by decide +kernel) ps (by decide) (by decide) (star_plain pl) rfl) fun σ H Q z => ?_
  refine rE_imp z fun v H1 ⟨⟨y, h1, ry, o⟩, q⟩ => ?_
  obtain ⟨t, h2, h3⟩ := tys y o
  exact ⟨v, .ty ty, t, .type ty, b, rfl, .ty ty, h2 H1 h1 v ry, h3, q⟩
theorem x_sound {N : List Str} {sc : Scope} {W : WX} {k : Nat} {X : Cx} (g : Gd G Γ N sc W k X) {i : Nat} {e : Expr} {es : List Expr} {ms : Es} (h : xck i sc e = some es) (ce : ckEs N sc ms es = true) (pes : ∀ m x, ms = .cons m .nil → es = [x] → ckE N sc m x = true → PE X x (rE G Γ W m)) :
    Ev G Γ W X e (.xf i ms) := by
  have split1 : ∀ x, es = [x] → ∃ m, ms = .cons m .nil ∧ ckE N sc m x = true := fun x ex => by
    subst ex
    cases ms with
    | nil => cases ce
    | cons m r =>
      obtain ⟨c1, c2⟩ := and2 (show (ckE N sc m x && ckEs N sc r []) = true from ce)
      cases r with
      | nil => exact ⟨m, rfl, c1⟩
      | cons _ _ => cases c2
  unfold xck at h
  split at h
  · split at h
    · rename_i c
      cases h
      obtain ⟨c0, c4⟩ := and2 c
      obtain ⟨c1, c2, c3⟩ := and3 c0
      cases of_decide_eq_true c1
      cases of_decide_eq_true c3
      obtain ⟨m, rfl, cm⟩ := split1 _ rfl
      exact .val (pe_imp (c_ss g c2 c4 (ck_plain m cm) (pes m _ rfl rfl cm)) fun σ H Q ⟨ρ, hh, Q0, Xp, o, w, fn, fx⟩ => ⟨ρ, hh, Q0, Xp, o, w, fn, fx⟩)
    · cases h
  · split at h
    · rename_i c
      cases h
      obtain ⟨c0, c4⟩ := and2 c
      obtain ⟨c1, c2, c3⟩ := and3 c0
      cases of_decide_eq_true c1
      cases of_decide_eq_true c3
      obtain ⟨m, rfl, cm⟩ := split1 _ rfl
      refine .val (pe_imp (isi_sound g c2 (ck_plain m cm) (pes m _ rfl rfl cm) (pe_bltn (g.gl c4) (g.tab.bl _ (by decide)) (by decide +kernel) rfl) true (fun y => (∃ i, y = .int i) ∨ ∃ b, y = .bl b) fun y o => ?_) fun σ H Q ⟨ρ, hh, Q0, Xp, o, w, fn, fx⟩ => ?_)
      · rcases o with ⟨i, rfl⟩ | ⟨b, rfl⟩
        · exact ⟨.type "int", fun H h v r => by rw [show v = .int i from r]; exact .base (.int i), kit_ty (by decide +kernel)⟩
        · exact ⟨.type "bool", fun H h v r => by rw [show v = .bl b from r]; exact .base (.bl b), kit_ty (by decide +kernel)⟩
      · exact one o w fx fun y v H2 h2 rx hr f q => ⟨⟨y, h2, rx, q.1⟩, fn _ H2 (.bl true) h2 rfl hr f q.2⟩
    · cases h
  · split at h
    · rename_i c
      cases h
      obtain ⟨c0, c4⟩ := and2 c
      obtain ⟨c1, c2, c3⟩ := and3 c0
      cases of_decide_eq_true c1
      cases of_decide_eq_true c3
      obtain ⟨m, rfl, cm⟩ := split1 _ rfl
      refine .val (pe_imp (isi_sound g c2 (ck_plain m cm) (pes m _ rfl rfl cm) (pe_bltn (g.gl c4) (g.tab.bl _ (by decide)) (by decide +kernel) rfl) false (fun y => ∃ i, y = .int i) fun y o => ?_) fun σ H Q ⟨ρ, hh, Q0, Xp, o, w, fn, fx⟩ => ?_)
      · obtain ⟨i, rfl⟩ := o
        exact ⟨.type "int", fun H h v r => by rw [show v = .int i from r]; exact .base (.int i), kit_ty (by decide +kernel)⟩
      · exact one o w fx fun y v H2 h2 rx hr f q => ⟨⟨y, h2, rx, q.1⟩, fn _ H2 (.bl false) h2 rfl hr f q.2⟩
    · cases h
  · split at h
    · rename_i c
      cases h
      obtain ⟨c0, c4⟩ := and2 c
      obtain ⟨c1, c2, c3⟩ := and3 c0
      cases of_decide_eq_true c1
      cases of_decide_eq_true c3
      obtain ⟨m, rfl, cm⟩ := split1 _ rfl
      refine .val (pe_imp (pe_listRg g.calm (g.gl c2) (g.tab.bl _ (by decide)) (prg_1 (g.gl c4) (g.tab.bl _ (by decide)) (pes m _ rfl rfl cm) (star_plain (ck_plain m cm))) rfl) fun σ H Q ⟨ρ, hh, Q0, Xp, o, w, fn, fx⟩ => one o w fx fun y v H2 h2 rx hr f q => ?_)
      obtain ⟨i, rfl, b1, b2, q⟩ := q
      refine ⟨i, rx, ⟨by omega, by omega, b1, by omega, by omega⟩, fun p np => ?_⟩
      have rl : RepL G H2 h2 (rngV 0 i.toNat) (rgV 0 i) := by
        unfold rngV rgV
        have e : (i - 0).toNat = i.toNat := by omega
        rw [e]
        generalize List.range i.toNat = l
        induction l with
        | nil => rfl
        | cons a l ih => exact ⟨_, _, rfl, rfl, ih⟩
      exact fn _ _ (.lst _) h2 (rep_newL rl hr np) (hr.new np) (f.trans (Fra.new np (hr.gone np))) q
    · cases h
  · cases h
mutual
theorem e_sound : ∀ (m : E) {N : List Str} {sc : Scope} {W : WX} {k : Nat} {X : Cx} (g : Gd G Γ N sc W k X) {e : Expr}, ckE N sc m e = true → Ev G Γ W X e m
  | .var i, N, sc, W, k, X, g, e, h => by
    cases e with
    | Name x p => exact c_var g h
    | _ => cases h
  | .glo i, N, sc, W, k, X, g, e, h => by
    cases e with
    | Name x p => exact c_glo g h
    | _ => cases h
  | .cst v, N, sc, W, k, X, g, e, h => by
    cases e with
    | Constant c j p => exact c_cst h
    | _ => cases h
  | .tup es, N, sc, W, k, X, g, e, h => by
    cases e with
    | Tuple l kk p => exact c_tup (es_sound es g h)
    | _ => cases h
  | .dsp es, N, sc, W, k, X, g, e, h => by
    cases e with
    | List l p => exact c_dsp (es_sound es g h)
    | _ => cases h
  | .new es, N, sc, W, k, X, g, e, h => by
    cases e with
    | List l p => exact c_new (es_sound es g h)
    | _ => cases h
  | .dnw, N, sc, W, k, X, g, e, h => by
    unfold ckE at h
    split at h
    · exact c_dnw
    · cases h
  | .pnw, N, sc, W, k, X, g, e, h => by
    unfold ckE at h
    split at h
    · exact c_pnw
    · cases h
  | .bin o a b, N, sc, W, k, X, g, e, h => by
    unfold ckE at h
    split at h
    · obtain ⟨h1, h2, h3⟩ := and3 h
      cases of_decide_eq_true h1
      exact c_bin g (e_sound a g h2).v (e_sound b g h3).v
    · cases h
  | .neg a, N, sc, W, k, X, g, e, h => by
    unfold ckE at h
    split at h
    · exact c_neg (e_sound a g h).v
    · cases h
  | .not a, N, sc, W, k, X, g, e, h => by
    unfold ckE at h
    split at h
    · exact c_not (e_sound a g h)
    · cases h
  | .cmp o a b, N, sc, W, k, X, g, e, h => by
    unfold ckE at h
    split at h
    · obtain ⟨h1, h2, h3⟩ := and3 h
      cases of_decide_eq_true h1
      exact c_cmp g (e_sound a g h2).v (e_sound b g h3).v (ck_plain b h3)
    · cases h
  | .isn a, N, sc, W, k, X, g, e, h => by
    unfold ckE at h
    split at h
    · exact c_isn (e_sound a g h).v
    · cases h
  | .ntn a, N, sc, W, k, X, g, e, h => by
    unfold ckE at h
    split at h
    · exact c_ntn (e_sound a g h).v
    · cases h
  | .isb n a b, N, sc, W, k, X, g, e, h => by
    unfold ckE at h
    split at h
    · obtain ⟨h1, h2, h3⟩ := and3 h
      cases of_decide_eq_true h1
      exact c_isb (e_sound a g h2).v (e_sound b g h3).v (ck_plain b h3)
    · cases h
  | .chn o o' a b c, N, sc, W, k, X, g, e, h => by
    unfold ckE at h
    split at h
    · obtain ⟨h12, h3, h4⟩ := and3 h
      obtain ⟨h1, h2, h0⟩ := and3 h12
      cases of_decide_eq_true h1
      cases of_decide_eq_true h2
      exact c_chn g (e_sound a g h0).v (e_sound b g h3).v (e_sound c g h4).v (ck_plain b h3) (ck_plain c h4)
    · cases h
  | .and a b, N, sc, W, k, X, g, e, h => by
    unfold ckE at h
    split at h
    · obtain ⟨h1, h2⟩ := and2 h
      split at h2
      · exact c_and (e_sound a g h1) (ev_one (e_sound b g h2))
      · exact c_and (e_sound a g h1) (e_sound b g h2)
    · cases h
  | .or a b, N, sc, W, k, X, g, e, h => by
    unfold ckE at h
    split at h
    · obtain ⟨h1, h2⟩ := and2 h
      split at h2
      · exact c_or (e_sound a g h1) (ev_one (e_sound b g h2))
      · exact c_or (e_sound a g h1) (e_sound b g h2)
    · cases h
  | .ife c a b, N, sc, W, k, X, g, e, h => by
    unfold ckE at h
    split at h
    · obtain ⟨h1, h2, h3⟩ := and3 h
      exact c_ife (e_sound c g h1) (e_sound a g h2) (e_sound b g h3)
    · cases h
  | .ix a i, N, sc, W, k, X, g, e, h => by
    unfold ckE at h
    split at h
    · obtain ⟨h1, h2⟩ := and2 h
      exact c_ix g (e_sound a g h1).v (e_sound i g h2).v (ck_plain i h2)
    · cases h
  | .sl a lo hi, N, sc, W, k, X, g, e, h => by
    unfold ckE at h
    split at h
    · obtain ⟨h1, h2, h3⟩ := and3 h
      exact c_sl g (e_sound a g h1).v (o_sound lo g h2) (o_sound hi g h3)
    · cases h
  | .fld a f, N, sc, W, k, X, g, e, h => by
    unfold ckE at h
    split at h
    · obtain ⟨h1, h2, h3⟩ := and3 h
      cases of_decide_eq_true h1
      exact c_fld g (e_sound a g h3).v h2
    · cases h
  | .call f es, N, sc, W, k, X, g, e, h => by
    unfold ckE at h
    split at h
    · obtain ⟨h1, h2, h3⟩ := and3 h
      obtain ⟨h1, h4⟩ := and2 h1
      cases of_decide_eq_true h1
      exact c_call g h4 h2 h3 (es_sound es g h3)
    · cases h
  | .mk f es, N, sc, W, k, X, g, e, h => by
    unfold ckE at h
    split at h
    · obtain ⟨h1, h2, h3⟩ := and3 h
      obtain ⟨h1, h4⟩ := and2 h1
      cases of_decide_eq_true h1
      exact c_mk g h4 h2 h3 (es_sound es g h3)
    · cases h
  | .met o m es, N, sc, W, k, X, g, e, h => by
    unfold ckE at h
    split at h
    · obtain ⟨h12, h3, h4⟩ := and3 h
      obtain ⟨h12, h5, h6⟩ := and3 h12
      obtain ⟨h1, h2⟩ := and2 h12
      cases of_decide_eq_true h1
      exact c_met g h2 h5 (of_decide_eq_true h6) h4 (e_sound o g h3).v (es_sound es g h4)
    · cases h
  | .blt b es, N, sc, W, k, X, g, e, h => by
    unfold ckE at h
    split at h
    · obtain ⟨h12, h3, h4⟩ := and3 h
      obtain ⟨h1, h2⟩ := and2 h12
      cases of_decide_eq_true h1
      exact c_blt g h2 (of_decide_eq_true h3) h4 (es_sound es g h4)
    · cases h
  | .bm o m es, N, sc, W, k, X, g, e, h => by
    unfold ckE at h
    split at h
    · obtain ⟨h12, h3, h4⟩ := and3 h
      obtain ⟨h12, h5, h6⟩ := and3 h12
      obtain ⟨h1, h2⟩ := and2 h12
      cases of_decide_eq_true h1
      exact c_bm g h2 h5 (of_decide_eq_true h6) h4 (e_sound o g h3).v (es_sound es g h4)
    · cases h
  | .xf i es, N, sc, W, k, X, g, e, h => by
    unfold ckE at h
    obtain ⟨h1, h2⟩ := and2 h
    split at h2
    · rename_i l q
      exact x_sound g q h2 fun m x e1 e2 c => (es1_sound es g e1 c).v
    · cases h2
  | .lc mu own t it c (.el e1), N, sc, W, k, X, g, e, h => by
    unfold ckE at h
    split at h
    · rename_i elt tg iter ifs scope pp
      obtain ⟨h12, h3, h4⟩ := and3 h
      obtain ⟨h12, h5, h6⟩ := and3 h12
      obtain ⟨h1, h2, h0⟩ := and3 h12
      have p := pe_lc (elt := elt) (pos := pp) g.calm g.nd0 (i_sound it g h1 _ unl_refl (.inr rfl)) (g.blkOk h2) (fun s H C cl fp => tg_sound (g.blk (scope := scope) s H C cl fp) t h6)
        (fun s H C cl fp => cs_sound h3 fun e0 x e1 e2 => (c_sound c (g.blk (scope := scope) s H C cl fp) e1 e2).t) (fun s H C cl fp => (e_sound e1 (g.blk (scope := scope) s H C cl fp) h4).v) (fun x => fold_plain (cki_plain h1) x)
      rw [of_decide_eq_true h0] at p
      exact .val (pe_imp (pe_unl p) fun σ H Q ⟨ρ, hh, Q0, Xp, o, w, fn, fx⟩ => lc_law h5 o w fn fx)
    · cases h
  | .lc mu own t it c (.fo t1 it1 c1 (.el e1)), N, sc, W, k, X, g, e, h => by
    unfold ckE at h
    split at h
    · rename_i elt tg iter ifs tg1 iter1 ifs1 scope pp
      obtain ⟨h12, h13, h14⟩ := and3 h
      obtain ⟨h12, h15, h16⟩ := and3 h12
      obtain ⟨h12, h17, h18⟩ := and3 h12
      obtain ⟨h12, h5, h3⟩ := and3 h12
      obtain ⟨h12, h0, h6⟩ := and3 h12
      obtain ⟨h1, h2⟩ := and2 h12
      have hv : ∀ i ∈ tgs t1, i ∈ (ownOf N own).map (·.2) := fun i hi => by
        rw [of_decide_eq_true h0]
        unfold tgIn at h15
        rw [List.all_eq_true] at h15
        exact of_decide_eq_true (h15 i hi)
      have p := pe_lc2 (elt := elt) (pos := pp) (vs1 := tgs t1) g.calm g.nd0 (i_sound it g h1 _ unl_refl (.inr rfl)) (g.blkOk h2) hv (fun s H C cl fp => tg_sound (g.blk (scope := scope) s H C cl fp) t h5)
        (fun s H C cl fp => cs_sound h3 fun e0 x e1 e2 => (c_sound c (g.blk (scope := scope) s H C cl fp) e1 e2).t)
        (fun s H C cl fp => i_sound it1 (g.blk (scope := scope) s H C cl fp) h18 Eq (fun _ => rfl) (.inl h17))
        (fun s H C cl fp => tg_sound (g.blk (scope := scope) s H C cl fp) t1 h16)
        (fun s H C cl fp => cs_sound h13 fun e0 x e1 e2 => (c_sound c1 (g.blk (scope := scope) s H C cl fp) e1 e2).t)
        (fun s H C cl fp => (e_sound e1 (g.blk (scope := scope) s H C cl fp) h14).v) (fun x => fold_plain (cki_plain h1) x) (fun env x => fold_plain (cki_plain h18) x)
      rw [of_decide_eq_true h0] at p
      exact .val (pe_imp (pe_unl p) fun σ H Q ⟨ρ, hh, Q0, Xp, o, w, fn, fx⟩ => lc2_law h6 o w fn fx)
    · cases h
  | .lc mu own t it c (.fo t1 it1 c1 (.fo t2 it2 c2 r)), N, sc, W, k, X, g, e, h => by cases h
  | .ssc own t it c e1, N, sc, W, k, X, g, e, h => by
    unfold ckE at h
    split at h
    · rename_i f pn elt tg iter ifs scope ps pp
      obtain ⟨h12, h3, h4⟩ := and3 h
      obtain ⟨h12, h5, h7⟩ := and3 h12
      obtain ⟨h12, h2, h0⟩ := and3 h12
      obtain ⟨h8, h9, h1⟩ := and3 h12
      cases of_decide_eq_true h8
      have p := Vt.pe_scp (elt := elt) (pos := ps) (by have := g.rm.un; omega) g.calm g.nd0 (i_sound it g h1 _ unl_refl (.inr rfl)) (g.blkOk h2) (fun s H C cl fp => ⟨tg_sound (g.blk (scope := scope) s H C cl fp) t h7,
        cs_sound h3 fun e0 x e1 e2 => (c_sound c (g.blk (scope := scope) s H C cl fp) e1 e2).t, (e_sound e1 (g.blk (scope := scope) s H C cl fp) h4).v⟩) (fun x => fold_plain (cki_plain h1) x)
      rw [of_decide_eq_true h0] at p
      exact .val (c_ssc g h9 rfl p fun σ H Q ⟨ρ, hh, Q0, Xp, o, w, fn, fx⟩ => ssc_law g.K (fun H H2 D L u e => unl_set u e) h5 o w fn fx)
    · cases h
  | .dp mu own t it c kk e1, N, sc, W, k, X, g, e, h => by
    unfold ckE at h
    split at h
    · rename_i kx vx tg iter ifs scope pp
      obtain ⟨h12, h3, h4⟩ := and3 h
      obtain ⟨h12, h5, h7⟩ := and3 h12
      obtain ⟨h12, h0, h6⟩ := and3 h12
      obtain ⟨h1, h2⟩ := and2 h12
      have p := pe_dp (kx := kx) (vx := vx) (pos := pp) (by have := g.rm.un; omega) g.calm g.nd0 (i_sound it g h1 _ unl_refl (.inr rfl)) (g.blkOk h2) (fun s H C cl fp => ⟨tg_sound (g.blk (scope := scope) s H C cl fp) t h5,
        cs_sound h7 fun e0 x e1 e2 => (c_sound c (g.blk (scope := scope) s H C cl fp) e1 e2).t, (e_sound kk (g.blk (scope := scope) s H C cl fp) h3).v, (e_sound e1 (g.blk (scope := scope) s H C cl fp) h4).v⟩) (fun x => fold_plain (cki_plain h1) x)
      rw [of_decide_eq_true h0] at p
      exact .val (pe_imp (pe_unl p) fun σ H Q ⟨ρ, hh, Q0, Xp, o, w, fn, fx⟩ => dp_law h6 o w fn fx)
    · cases h
  | .frz a, N, sc, W, k, X, g, e, h => by
    unfold ckE at h
    exact c_frz (e_sound a g (and2 h).2)
  | .dc mu own t it c kk e1, N, sc, W, k, X, g, e, h => by
    unfold ckE at h
    split at h
    · rename_i kx vx tg iter ifs scope pp
      obtain ⟨h12, h3, h4⟩ := and3 h
      obtain ⟨h12, h5, h7⟩ := and3 h12
      obtain ⟨h12, h0, h6⟩ := and3 h12
      obtain ⟨h1, h2⟩ := and2 h12
      have p := pe_dc (kx := kx) (vx := vx) (pos := pp) g.calm g.nd0 (i_sound it g h1 _ unl_refl (.inr rfl)) (g.blkOk h2) (fun s H C cl fp => tg_sound (g.blk (scope := scope) s H C cl fp) t h5)
        (fun s H C cl fp => cs_sound h7 fun e0 x e1 e2 => (c_sound c (g.blk (scope := scope) s H C cl fp) e1 e2).t) (fun s H C cl fp => (e_sound kk (g.blk (scope := scope) s H C cl fp) h3).v) (fun s H C cl fp => (e_sound e1 (g.blk (scope := scope) s H C cl fp) h4).v) (fun x => fold_plain (cki_plain h1) x)
      rw [of_decide_eq_true h0] at p
      exact .val (pe_imp (pe_unl p) fun σ H Q ⟨ρ, hh, Q0, Xp, o, w, fn, fx⟩ => dc_law h6 o w fn fx)
    · cases h
theorem c_sound : ∀ (c : Cs) {N : List Str} {sc : Scope} {W : WX} {k : Nat} {X : Cx} (g : Gd G Γ N sc W k X) {e0 : E} {x : Expr}, c = .cons e0 .nil → ckE N sc e0 x = true → Ev G Γ W X x e0
  | .nil, N, sc, W, k, X, g, e0, x, h, _ => by cases h
  | .cons e1 r, N, sc, W, k, X, g, e0, x, h, hc => by
    have q : e1 = e0 := by injection h
    rw [← q] at hc ⊢
    exact e_sound e1 g hc
theorem es1_sound : ∀ (ms : Es) {N : List Str} {sc : Scope} {W : WX} {k : Nat} {X : Cx} (g : Gd G Γ N sc W k X) {e0 : E} {x : Expr}, ms = .cons e0 .nil → ckE N sc e0 x = true → Ev G Γ W X x e0
  | .nil, N, sc, W, k, X, g, e0, x, h, _ => by cases h
  | .cons e1 r, N, sc, W, k, X, g, e0, x, h, hc => by
    have q : e1 = e0 := by injection h
    rw [← q] at hc ⊢
    exact e_sound e1 g hc
theorem es_sound : ∀ (ms : Es) {N : List Str} {sc : Scope} {W : WX} {k : Nat} {X : Cx} (g : Gd G Γ N sc W k X) {es : List Expr}, ckEs N sc ms es = true → PA X es (rA G Γ W ms)
  | .nil, N, sc, W, k, X, g, [], _ => a_nil
  | .nil, N, sc, W, k, X, g, _ :: _, h => by cases h
  | .cons _ _, N, sc, W, k, X, g, [], h => by cases h
  | .cons m ms, N, sc, W, k, X, g, e :: es, h => by
    obtain ⟨h1, h2⟩ := and2 (show (ckE N sc m e && ckEs N sc ms es) = true from h)
    exact a_cons (e_sound m g h1).v (es_sound ms g h2) (ck_plain m h1)
theorem o_sound : ∀ (m : Op) {N : List Str} {sc : Scope} {W : WX} {k : Nat} {X : Cx} (g : Gd G Γ N sc W k X) {e : Option Expr}, ckO N sc m e = true → PO X e (rO G Γ W m)
  | .no, N, sc, W, k, X, g, none, _ => o_none
  | .no, N, sc, W, k, X, g, some _, h => by cases h
  | .so _, N, sc, W, k, X, g, none, h => by cases h
  | .so m, N, sc, W, k, X, g, some e, h => o_some (e_sound m g h).v
theorem i_sound : ∀ (it : I) {N : List Str} {sc : Scope} {W : WX} {k : Nat} {X : Cx} (g : Gd G Γ N sc W k X) {tg x : Expr}, ckI N sc it tg x = true → ∀ (U : Hp → Hp → Prop), (∀ H, U H H) → (noLock it = true ∨ U = Unl X) → PI X tg x (rI G Γ W U it)
  | .sq m, N, sc, W, k, X, g, tg, x, h, U, hU, _ => it_sq hU g.K (e_sound m g h).v
  | .dk m, N, sc, W, k, X, g, tg, x, h, U, hU, l => by
    rcases l with l | rfl
    · cases l
    · exact it_dk (e_sound m g h).v
  | .ky m, N, sc, W, k, X, g, tg, x, h, U, hU, l => by
    rcases l with l | rfl
    · cases l
    · exact it_ky (e_sound m g h).v
  | .rg m, N, sc, W, k, X, g, tg, x, h, U, hU, l => by
    unfold ckI at h
    split at h
    · obtain ⟨h1, h2, h3⟩ := and3 h
      cases of_decide_eq_true h1
      exact it_rg hU g (e_sound m g h3).v (ck_plain m h3) h2
    · cases h
  | .rg2 m n, N, sc, W, k, X, g, tg, x, h, U, hU, l => by
    unfold ckI at h
    split at h
    · obtain ⟨h12, h3, h4⟩ := and3 h
      obtain ⟨h1, h2⟩ := and2 h12
      cases of_decide_eq_true h1
      exact it_rg2 hU g (e_sound m g h3).v (e_sound n g h4).v (ck_plain m h3) (ck_plain n h4) h2
    · cases h
  | .en m, N, sc, W, k, X, g, tg, x, h, U, hU, l => by
    unfold ckI at h
    split at h
    · obtain ⟨h12, h3, h4⟩ := and3 h
      obtain ⟨h1, h2⟩ := and2 h12
      cases of_decide_eq_true h2
      exact it_en hU g (e_sound m g h4).v (ck_plain m h4) h3 h1
    · cases h
  | .zp m n, N, sc, W, k, X, g, tg, x, h, U, hU, l => by
    unfold ckI at h
    split at h
    · obtain ⟨h12, h4, h5⟩ := and3 h
      obtain ⟨h1, h2, h3⟩ := and3 h12
      cases of_decide_eq_true h2
      exact it_zp hU g (e_sound m g h4).v (e_sound n g h5).v (ck_plain m h4) (ck_plain n h5) h3 h1
    · cases h
  | .rv m, N, sc, W, k, X, g, tg, x, h, U, hU, l => by
    unfold ckI at h
    split at h
    · obtain ⟨h1, h2, h3⟩ := and3 h
      cases of_decide_eq_true h1
      exact it_rv hU g (e_sound m g h3).v (ck_plain m h3) h2
    · cases h
  | .its m, N, sc, W, k, X, g, tg, x, h, U, hU, l => by
    rcases l with l | rfl
    · cases l
    · unfold ckI at h
      split at h
      · obtain ⟨h12, h4, h5⟩ := and3 h
        obtain ⟨h1, h2, h3⟩ := and3 h12
        cases of_decide_eq_true h2
        exact it_its (e_sound m g h5).v h3 h4 h1
      · cases h
  | .vs m, N, sc, W, k, X, g, tg, x, h, U, hU, l => by
    rcases l with l | rfl
    · cases l
    · unfold ckI at h
      split at h
      · obtain ⟨h12, h4, h5⟩ := and3 h
        obtain ⟨h1, h2⟩ := and2 h12
        cases of_decide_eq_true h1
        exact it_vs (e_sound m g h5).v h2 h4
      · cases h
end
end
end Vc
/-! Vc16: statements. -/
namespace Vc
open PySem L2 PyProof.Rows
section
variable (N : List Str) (sc : Scope)
def isComp : Expr → Bool
  | .ListComp .. => true
  | .SetComp .. => true
  | .DictComp .. => true
  | _ => false
/-- is it told what a comprehension does that is stored at once -/
def compB : E → Expr → Bool
  | .lc .., .ListComp .. => true
  | .dc .., .DictComp .. => true
  | _, e => !isComp e
def tupPl : Expr → Bool
  | .Tuple vs _ _ => vs.all plainE
  | _ => true
def cellB : Expr → Bool
  | .Name x _ => match sc.names.lookup x with
    | some .cell => true
    | _ => false
  | _ => false
/-- some target is no plain local: the stores come one by one -/
def swNo : Expr → Bool
  | .Tuple ts _ _ => ts.any (cellB sc)
  | _ => false
mutual
def ckS : S → Stmt → Bool
  | .set i e, st => match st with
    | .Assign [.Name x _] v _ => decide (N[i]? = some x) && locB sc x && compB e v && ckE N sc e v
    | _ => false
  | .unp is e, st => match st with
    | .Assign [tg] v _ => ckT N sc (.tp is) tg && (!isTup v || swNo sc tg) && tupPl v && ckE N sc e v
    | _ => false
  | .par i j a b, st => match st with
    | .Assign [.Tuple [.Name x p, .Name y q] _ _] (.Tuple [u, v] _ _) _ => decide (N[i]? = some x) && decide (N[j]? = some y) && decide (i ≠ j) && decide (sc.names.lookup x = some .local) && decide (sc.names.lookup y = some .local) && decide (q.line = p.line) && decide (x ≠ y) &&
      !([u, v].all (foldedForSure 8)) && !([u, v].all (constantsAlone 8)) && ckE N sc a u && ckE N sc b v
    | _ => false
  | .sfl o f e, st => match st with
    | .Assign [.Attribute v g _] w _ => decide (f = g) && ckE N sc o v && ckE N sc e w
    | _ => false
  | .sub o k e, st => match st with
    | .Assign [.Subscript v s _] w _ => ckE N sc o v && ckE N sc k s && ckE N sc e w
    | _ => false
  | .aug i o e, st => match st with
    | .AugAssign (.Name x _) op v _ => decide (N[i]? = some x) && locB sc x && decide (o = op) && (decide (o = .Add) || decide (o = .Sub)) && ckE N sc e v
    | _ => false
  | .exp e, st => match st with
    | .Expr v _ => !isComp v && ckE N sc e v
    | _ => false
  | .app o e, st => match st with
    | .Expr (.Call (.Attribute v g ap) [w] [] p) _ => decide (g = "append") && noBase v && (ap.endLine == p.line) && ckE N sc o v && ckE N sc e w
    | _ => false
  | .ret e, st => match st with
    | .Return (some v) _ => ckE N sc e v
    | _ => false
  | .retn, st => match st with
    | .Return none _ => true
    | _ => false
  | .ite c a b, st => match st with
    | .If t x y _ => ckE N sc c t && ckSs a x && ckSs b y
    | _ => false
  | .for_ t it b, st => match st with
    | .For tg iter body [] _ => ckI N sc it tg iter && ckT N sc t tg && ckSs b body
    | _ => false
  | .whl c b, st => match st with
    | .While t body [] _ => ckE N sc c t && ckSs b body
    | _ => false
  | .brk, st => match st with
    | .Break _ => true
    | _ => false
  | .ctn, st => match st with
    | .Continue _ => true
    | _ => false
  | .pas, st => match st with
    | .Pass _ => true
    | _ => false
  | .doc, st => match st with
    | .Expr (.Constant (.str _) _ _) _ => true
    | _ => false
  | .nev, _ => true
  | .rse _, _ => false
  | .triC _ _, _ => false
def ckSs : List S → List Stmt → Bool
  | [], [] => true
  | s :: r, st :: sts => ckS s st && ckSs r sts
  | _, _ => false
end
end
section
variable (G : Cfg) (W : WX)
structure FinS (D : Po) (h : CH) (H : Hp) (D' : Ends) : Prop where
  nx : ∀ σ' H' ρ' h', Ok G σ' ρ' H' h' → Fra h H h' H' → D.nx ρ' h' → D'.nx σ' H'
  rt : ∀ v H' x h', RepV G H' h' x v → HRep G H' h' → Fra h H h' H' → D.rt x h' → D'.rt v H'
  bk : ∀ σ' H' ρ' h', Ok G σ' ρ' H' h' → Fra h H h' H' → D.bk ρ' h' → D'.bk σ' H'
  ct : ∀ σ' H' ρ' h', Ok G σ' ρ' H' h' → Fra h H h' H' → D.ct ρ' h' → D'.ct σ' H'
  ex : ∀ C σ' H' ρ' h', Ok G σ' ρ' H' h' → Fra h H h' H' → D.ex C ρ' h' → W (.ref (G.cad C)) none σ' H'
variable (Γ : Fns)
def rS (st : S) : TS := fun D' σ H => ∃ ρ h D, Ok G σ ρ H h ∧ wpS Γ st D ρ h ∧ FinS G W D h H D'
def rSs (st : List S) : TS := fun D' σ H => ∃ ρ h D, Ok G σ ρ H h ∧ wpSs Γ st D ρ h ∧ FinS G W D h H D'
end
section
variable {G : Cfg} {Γ : Fns} {N : List Str} {sc : Scope} {W : WX} {k : Nat} {X : Cx} {D : Po} {D' : Ends} {h h1 : CH} {H H1 : Hp} {σ : L2.St} {ρ : Env}
theorem FinS.next (f : FinS G W D h H D') (fr : Fra h H h1 H1) : FinS G W D h1 H1 D' where
  nx := fun σ' H' ρ' h' o r q => f.nx σ' H' ρ' h' o (fr.trans r) q
  rt := fun v H' x h' rx hr r q => f.rt v H' x h' rx hr (fr.trans r) q
  bk := fun σ' H' ρ' h' o r q => f.bk σ' H' ρ' h' o (fr.trans r) q
  ct := fun σ' H' ρ' h' o r q => f.ct σ' H' ρ' h' o (fr.trans r) q
  ex := fun C σ' H' ρ' h' o r q => f.ex C σ' H' ρ' h' o (fr.trans r) q
theorem FinS.x (f : FinS G W D h H D') (o : Ok G σ ρ H h) : FinX G W σ h H fun C h' => D.ex C ρ h' := fun C H' h' r fr q => f.ex C σ H' ρ h' (o.next fr r) fr q
theorem FinS.unl (f : FinS G W D h H D') : FinS G W D h H (UnlD X D') where
  nx := fun σ' H' ρ' h' o r q => ⟨H', .inl rfl, f.nx σ' H' ρ' h' o r q⟩
  rt := fun v H' x h' rx hr r q => ⟨H', .inl rfl, f.rt v H' x h' rx hr r q⟩
  bk := fun σ' H' ρ' h' o r q => ⟨H', .inl rfl, f.bk σ' H' ρ' h' o r q⟩
  ct := fun σ' H' ρ' h' o r q => ⟨H', .inl rfl, f.ct σ' H' ρ' h' o r q⟩
  ex := f.ex
/-! ### simple ones -/
theorem s_set {i : Nat} {x : Str} {e : Expr} {m : E} {p pos : Pos} (g : Gd G Γ N sc W k X) (hi : N[i]? = some x) (hl : locB sc x = true) (hc : isComp e = false) (he : PE X e (rE G Γ W m)) : PS X (.Assign [.Name x p] e pos) (rS G W Γ (.set i m)) := by
  have l := g.loc hl
  have hs : swapsWith e (some (.Name x p)) pos.line X.env = pure false := by cases e <;> first | rfl | cases hc
  refine ps_imp (ps_set g.nd0 (g.ix hi) l.1 he hs l.2) fun D' σ H ⟨ρ, h, D, o, w, f⟩ => ?_
  exact one o w (f.x o) fun y v H2 h2 rx hr fr q => f.nx _ H2 _ h2 ⟨(o.s.mono fr.kept).set rx, hr⟩ fr q
theorem s_unp {is : List Nat} {tg e : Expr} {m : E} {pos : Pos} (g : Gd G Γ N sc W k X) (ht : ckT N sc (.tp is) tg = true) (hw : swappedStores [tg] e X.env = pure none) (he : PE X e (rE G Γ W m)) : PS X (.Assign [tg] e pos) (rS G W Γ (.unp is m)) := by
  have hs : swapsWithSole [tg] e pos.line X.env = pure false := by
    cases tg <;> first | (cases ht; done) | (cases e <;> rfl)
  have h1 : (assignEach [tg] X.env).map (·.2) = [assign tg X.env] := by
    cases tg <;> first | (cases ht; done) | rfl
  refine ps_imp (ps_asg he (tg_sound g (.tp is) ht) hs hw h1) fun D' σ H ⟨ρ, h, D, o, w, f⟩ => ?_
  exact one o w (f.x o) fun y v H2 h2 rx hr fr q => ⟨ρ, h2, y, _, o.s.mono fr.kept, hr, rx, q, fun σ' ρ' sl _ q => f.nx _ H2 _ h2 ⟨sl, hr⟩ fr q⟩
theorem s_sfl {o e : Expr} {f : Str} {mo me : E} {p pos : Pos} (g : Gd G Γ N sc W k X) (ho : PE X o (rE G Γ W mo)) (he : PE X e (rE G Γ W me)) : PS X (.Assign [.Attribute o f p] e pos) (rS G W Γ (.sfl mo f me)) := by
  have hs : swapsWith e (some (.Attribute o f p)) pos.line X.env = pure false := by cases e <;> rfl
  refine ps_imp (ps_fld ho he hs) fun D' σ H ⟨ρ, h, D, ok, w, fs⟩ => two ok w (fs.x ok) fun y z v u H2 h2 ry rz hr fr q => ?_
  obtain ⟨a, C, xs, rfl, e, hf, len, q⟩ := q
  obtain ⟨c1, c2⟩ := g.tab.fld _ _ hf
  obtain ⟨dx, vs, e1, rf⟩ := hr a _ e
  have kw : Kept h2 H2 (h2.set a (.obj C (fput f y xs))) (upd H2 a (.ins (G.cad C) dx (putF f v vs))) := kept_write e fun b nb => CH.set_ne nb
  refine ⟨a, G.cad C, dx, vs, rz, e1, c1, c2, by rw [← rf.length]; exact len, ?_⟩
  have f2 : Fra h2 H2 (h2.set a (.obj C (fput f y xs))) (upd H2 a (.ins (G.cad C) dx (putF f v vs))) := Fra.write e nofun
  refine fs.nx _ _ ρ (h2.set a (.obj C (fput f y xs))) ⟨((ok.s.mono fr.kept).mono f2.kept), hr.write e ⟨dx, putF f v vs, upd_same, RepF.put (RepV.mono kw _ _ ry) (RepF.mono kw _ _ rf)⟩⟩ (fr.trans f2) q
def rSet (G : Cfg) : TSet := fun ov kv v H Q' => ∃ o k x h Q, RepV G H h o ov ∧ RepV G H h k kv ∧ RepV G H h x v ∧ HRep G H h ∧ subV o k x h Q ∧ ∀ H' h', HRep G H' h' → Fra h H h' H' → Q h' → Q' H'
theorem set_sound (kk : X.K = G.K) (rm : Rm k X.A) : PSet X (rSet G) := by
  have hu1 : X.A.units + 1 < cLine := by have := rm.un; omega
  intro pins s σ H o i v ov iv u Q' I ro ri rv hh
  obtain ⟨xo, xk, x, h, Q, ro', rk', rv', hr, w, fn⟩ := hh
  rcases w with ⟨a, xs, i', j, rfl, e, rfl, hj, q⟩ | ⟨a, kvs, kk, rfl, e, ek, sz, q⟩ | ⟨a, kvs, kk, rfl, e, ek, sz, q⟩
  · obtain ⟨vs, e1, rl⟩ := hr a _ e
    have kw : Kept h H (h.set a (.lst (xs.set j x))) (upd H a (.lst (vs.set j v))) := kept_write e fun b nb => CH.set_ne nb
    refine set_list pins s σ H o i v ov iv u Q' I ro ri rv ⟨a, vs, i', j, ro', rk', e1, by rw [← rl.length]; exact hj, ?_⟩
    exact fn _ (h.set a (.lst (xs.set j x))) (hr.write e ⟨_, upd_same, RepL.set j (RepL.mono kw _ _ rl) (RepV.mono kw _ _ rv')⟩) (Fra.write e nofun) q
  · obtain ⟨vs, e1, rl⟩ := hr a _ e
    have kw : Kept h H (h.set a (.dct (vput kvs kk x))) (upd H a (.dK (putK vs kk v))) := kept_write e fun b nb => CH.set_ne nb
    refine set_dict hu1 pins s σ H o i v ov iv u Q' I ro ri rv ⟨a, _, ro', .inl ⟨vs, kk, e1, rep_key rk' ek, by rw [← rl.length]; exact sz, rfl⟩, ?_⟩
    exact fn _ (h.set a (.dct (vput kvs kk x))) (hr.write e ⟨_, upd_same, RepK.put (RepK.mono kw _ _ rl) (RepV.mono kw _ _ rv')⟩) (Fra.write e nofun) q
  · obtain ⟨vs, e1, rl⟩ := hr a _ e
    obtain ⟨b, eb, hb⟩ := rep_pkey rk' ek
    have kw : Kept h H (h.set a (.dtt (vput kvs kk x))) (upd H a (.dT (putK vs kk v))) := kept_write e fun b nb => CH.set_ne nb
    refine set_dict hu1 pins s σ H o i v ov iv u Q' I ro ri rv ⟨a, _, ro', .inr ⟨vs, kk, b, e1, eb, hb, by rw [← rl.length]; exact sz, rfl⟩, ?_⟩
    exact fn _ (h.set a (.dtt (vput kvs kk x))) (hr.write e ⟨_, upd_same, RepP.put (RepP.mono kw _ _ rl) (RepV.mono kw _ _ rv')⟩) (Fra.write e nofun) q
theorem s_sub {o i e : Expr} {mo mi me : E} {p pos : Pos} (g : Gd G Γ N sc W k X) (pl : plainE i = true) (ho : PE X o (rE G Γ W mo)) (hi : PE X i (rE G Γ W mi)) (he : PE X e (rE G Γ W me)) : PS X (.Assign [.Subscript o i p] e pos) (rS G W Γ (.sub mo mi me)) := by
  have hs : swapsWithSole [.Subscript o i p] e pos.line X.env = pure false := by cases e <;> rfl
  refine ps_imp (ps_asg he (pg_sub ho hi (set_sound (G := G) g.K g.rm) (fun v => by cases i <;> first | rfl | cases pl)) hs) fun D' σ H ⟨ρ, h, D, ok, w, fs⟩ => ?_
  refine one ok w (fs.x ok) fun y v H1 h1 ry hr1 f1 w1 => one (ok.next f1 hr1) w1 ((fs.next f1).x (ok.next f1 hr1)) fun z u H2 h2 rz hr2 f2 w2 => one (ok.next (f1.trans f2) hr2) w2 ((fs.next (f1.trans f2)).x (ok.next (f1.trans f2) hr2)) fun t r H3 h3 rt hr3 f3 q => ?_
  have f13 := (f1.trans f2).trans f3
  exact ⟨z, t, y, h3, _, RepV.mono f3.kept _ _ rz, rt, RepV.mono (f2.trans f3).kept _ _ ry, hr3, q, fun H' h' hr f q => fs.nx σ H' ρ h' (ok.next (f13.trans f) hr) (f13.trans f) q⟩
theorem s_aug {i : Nat} {x : Str} {op : Operator} {e : Expr} {m : E} {p pos : Pos} (g : Gd G Γ N sc W k X) (hi : N[i]? = some x) (hl : locB sc x = true) (hop : op = .Add ∨ op = .Sub) (he : PE X e (rE G Γ W m)) : PS X (.AugAssign (.Name x p) op e pos) (rS G W Γ (.aug i op m)) := by
  have l := g.loc hl
  have hp : PIp X op (ipI (augI op)) := by
    rcases hop with rfl | rfl
    · exact ip_add
    · exact ip_sub
  refine ps_imp (ps_aug g.nd0 (g.ix hi) l.1 he hp l.2) fun D' σ H ⟨ρ, h, D, o, w, f⟩ => ?_
  obtain ⟨y, e1, w⟩ := w
  obtain ⟨v, e2, r⟩ := o.s.2 i _ e1
  refine ⟨v, e2, one o w (f.x o) fun z u H2 h2 rz hr fr q => ?_⟩
  obtain ⟨j, rfl, q⟩ := q
  exact ⟨y, j, r, rz, f.nx _ H2 _ h2 ⟨(o.s.mono fr.kept).set (x := .int _) rfl, hr⟩ fr q⟩
theorem s_exp {e : Expr} {m : E} {pos : Pos} (hc : isComp e = false) (he : PE X e (rE G Γ W m)) : PS X (.Expr e pos) (rS G W Γ (.exp m)) := by
  have hs : swapsWith e none pos.line X.env = pure false := by cases e <;> first | rfl | cases hc
  exact ps_imp (ps_expr he hs) fun D' σ H ⟨ρ, h, D, o, w, f⟩ => one o w (f.x o) fun y v H2 h2 rx hr fr q => f.nx σ H2 ρ h2 (o.next fr hr) fr q
theorem s_ret {e : Expr} {m : E} {pos : Pos} (he : PE X e (rE G Γ W m)) : PS X (.Return (some e) pos) (rS G W Γ (.ret m)) :=
  ps_imp (ps_ret he) fun D' σ H ⟨ρ, h, D, o, w, f⟩ => one o w (f.x o) fun y v H2 h2 rx hr fr q => f.rt v H2 y h2 rx hr fr q
theorem s_app {o e : Expr} {mo me : E} {ap pos p2 : Pos} (g : Gd G Γ N sc W k X) (nb : noBase o = true) (hl : (ap.endLine == pos.line) = true) (pl : plainE e = true) (ho : PE X o (rE G Γ W mo)) (he : PE X e (rE G Γ W me)) : PS X (.Expr (.Call (.Attribute o "append" ap) [e] [] pos) p2) (rS G W Γ (.app mo me)) := by
  have st : starEach [e] X.env = [(false, eval e X.env)] := by rw [star_plain pl]; rfl
  refine ps_imp (ps_expr (te := fun σ H Q => rE G Γ W mo σ H fun v H1 => (∃ a xs, v = .ref a ∧ H1 a = some (.lst xs)) ∧ rE G Γ W me σ H1 fun u H2 => rAppend v [u] H2 Q) ⟨fun pins s σ H Q I q => ?_⟩ rfl) fun D' σ H ⟨ρ, h, D, ok, w, fs⟩ => ?_
  · refine wpAny_Call_method_late (base_plain nb) (star_few (es := [e]) (by simp [pl]) (by simp)) hl rfl (thn (ho.run pins s σ H _ I q) fun u s1 ⟨v, H1, I1, rv, ⟨a, xs, ev, ea⟩, z2⟩ => ?_)
    subst ev
    obtain rfl : u = Value.ref a := rv
    obtain ⟨its, _, pl2, _⟩ := I1.list (.inl (.inl ea))
    refine ⟨"list", "list.append", PySem.F.plainAttrs_list, PySem.F.slot_list_append, PySem.F.type_list_append, pl2.isList.typeIs, fun b e => ?_, ?_⟩
    · cases e
      obtain ⟨o, n, e, c, hd, _⟩ := pl2
      exact ⟨o, e, hd⟩
    · rw [st]
      refine Calls.callWith_builtin rfl (Calls.evalArgs_plain (Calls.spliced_cons (thn (he.run pins s1 σ H1 _ I1 z2) fun iv s2 ⟨y, H2, I2, ry, q2⟩ => Calls.spliced_nil ?_)))
      exact mt_append pins s2 σ H2 (.ref a) [y] _ _ Q I2 rfl (.cons ry .nil) q2
  · have w : wpE Γ mo ρ h (fun y h1 => (∃ a xs, y = .ref a ∧ h1 a = some (.lst xs)) ∧ wpE Γ me ρ h1 (fun x h2 => ∃ a xs, y = .ref a ∧ h2 a = some (.lst xs) ∧ xs.length < sizeLine ∧ D.nx ρ (h2.set a (.lst (xs ++ [x])))) fun C h' => D.ex C ρ h') (fun C h' => D.ex C ρ h') := w
    refine one ok w (fs.x ok) fun y v H1 h1 ry hr1 f1 w1 => ⟨?_, one (ok.next f1 hr1) w1.2 ((fs.next f1).x (ok.next f1 hr1)) fun z u H2 h2 rz hr2 f2 q => ?_⟩
    · obtain ⟨⟨a, xs, rfl, e⟩, _⟩ := w1
      obtain ⟨vs, e1, _⟩ := hr1 a _ e
      exact ⟨a, vs, ry, e1⟩
    · obtain ⟨a, xs, rfl, e, sz, q⟩ := q
      obtain ⟨vs, e1, rl⟩ := hr2 a _ e
      have kw : Kept h2 H2 (h2.set a (.lst (xs ++ [z]))) (upd H2 a (.lst (vs ++ [u]))) := kept_write e fun b nb => CH.set_ne nb
      have fw : Fra h2 H2 (h2.set a (.lst (xs ++ [z]))) (upd H2 a (.lst (vs ++ [u]))) := Fra.write e nofun
      refine ⟨a, vs, u, ry, rfl, e1, by rw [← rl.length]; exact sz, ?_⟩
      exact fs.nx σ _ ρ (h2.set a (.lst (xs ++ [z]))) ⟨(ok.s.mono (f1.trans f2).kept).mono fw.kept, hr2.write e ⟨_, upd_same, RepL.append (RepL.mono kw _ _ rl) (RepL.cons (RepV.mono kw _ _ rz) RepL.nil)⟩⟩ ((f1.trans f2).trans fw) q
/-! ### comprehensions stored -/
theorem sw_name {e : Expr} {x : Str} {p : Pos} {l : Nat} : (∃ b, swapsWith e (some (.Name x p)) l X.env = pure b ∧ (b = true → X.env.scope.names.lookup x = some .local)) := by
  have z : ∀ (q : Bool), ((Env.blockKind X.env == ScopeKind.function && Env.kindOf X.env x == some NameKind.local && q) = true → X.env.scope.names.lookup x = some .local) := fun q h => by
    obtain ⟨h1, _⟩ := and2 h
    obtain ⟨_, h1⟩ := and2 h1
    exact eq_of_beq h1
  have z2 : ∀ (q r : Bool), ((Env.blockKind X.env == ScopeKind.function && Env.kindOf X.env x == some NameKind.local && q && r) = true → X.env.scope.names.lookup x = some .local) := fun q r h => z q (and2 h).1
  cases e <;> first | exact ⟨_, rfl, z2 _ _⟩ | exact ⟨false, rfl, fun h => by cases h⟩
theorem s_setC {i : Nat} {x : Str} {e : Expr} {m : E} {p pos : Pos} {t : TE} (g : Gd G Γ N sc W k X) (hi : N[i]? = some x) (hl : locB sc x = true) (he : PE X e t)
    (hsw : swapsWith e (some (.Name x p)) pos.line X.env = pure true → X.env.scope.names.lookup x = some .local → PS X (.Assign [.Name x p] e pos) (tAsg t (gName i)))
    (law : ∀ {σ : L2.St} {ρ : Env} {H : Hp} {h : CH} {Q : VP} {Q' : VK} {Xp : XP}, Ok G σ ρ H h → wpE Γ m ρ h Q Xp → Fin G h H Q Q' → FinX G W σ h H Xp → t σ H (fun v H' => ∃ H2, Unl X H' H2 ∧ Q' v H2)) :
    PS X (.Assign [.Name x p] e pos) (rS G W Γ (.set i m)) := by
  have l := g.loc hl
  obtain ⟨b, hb, hc⟩ := sw_name (X := X) (e := e) (x := x) (p := p) (l := pos.line)
  have main : PS X (.Assign [.Name x p] e pos) (tAsg t (gName i)) := by
    cases b with
    | true => exact hsw hb (hc rfl)
    | false => exact ps_set g.nd0 (g.ix hi) l.1 he hb l.2
  refine ps_imp (ps_unl main) fun D' σ H ⟨ρ, h, D, o, w, f⟩ => ?_
  exact law (Q' := fun v H2 => D'.nx (σ.set i (some v)) H2) o w (fun v H2 x h2 rx hr fr q => f.nx _ H2 _ h2 ⟨(o.s.mono fr.kept).set rx, hr⟩ fr q) (f.x o)
theorem ps_setDc {i : Nat} {y : Str} {py : Pos} {kx vx tg iter : Expr} {ifs : List Expr} {scope : Scope} {own : List (Str × Nat)} {pos spos : Pos} {wi : TI} {gt : TG} {tt : TT} {tk te : TE} (hc : X.calm = true) (hN : X.N.Nodup) (hy : X.N[i]? = some y) (hyl : X.env.scope.names.lookup y = some .local)
    (hsw : swapsWith (.DictComp kx vx [⟨tg, iter, ifs, 0⟩] scope pos) (some (.Name y py)) spos.line X.env = pure true) (hi : PI X tg iter wi) (ok : BlkOk X.N X.env.scope scope own)
    (hg : ∀ (s : Shared) (H : Hp) (C : Addr) (cl : List (Str × Addr)) (fp : List Addr), PG (X.blk s H scope (compEnvC scope cl C X.env) fp) tg gt) (ht : ∀ (s : Shared) (H : Hp) (C : Addr) (cl : List (Str × Addr)) (fp : List Addr), PTs (X.blk s H scope (compEnvC scope cl C X.env) fp) ifs tt)
    (hk :
          ∀ (s : Shared) (H : Hp) (C : Addr) (cl : List (Str × Addr)) (fp : List Addr), PE (X.blk s H scope (compEnvC scope cl C X.env) fp) kx tk)
    (he : ∀ (s : Shared) (H : Hp) (C : Addr) (cl : List (Str × Addr)) (fp : List Addr), PE (X.blk s H scope (compEnvC scope cl C X.env) fp) vx te) (hs : ∀ x, foldedSetIterable iter X.env x = pure x) :
    PS X (.Assign [.Name y py] (.DictComp kx vx [⟨tg, iter, ifs, 0⟩] scope pos) spos) (tAsg (tDc wi gt tt tk te (own.map (·.2))) (gName i)) := by
  refine
        ⟨fun pins s σ H D I h => ?_⟩
  rw
        [exec_Assign_Name_used _ _ _ _ hsw]
  refine
        wpAny_bind (wpAny_standAt (wpAny_bind ?_))
  show wpAny _ X.A (do let _ ← comprehension (.DictComp kx vx [⟨tg, iter, ifs, 0⟩] scope pos) scope X.env (firstIterPos [⟨tg, iter, ifs, 0⟩] pos) newDict false (eval iter X.env) (some (assign (.Name y py) X.env))) _ _ s
  have h : tDc wi gt tt tk te (own.map (·.2)) σ H (fun x H1 => gName i x σ H1 D.nx) := h
  refine wpAny_bind (thn (dc_core (Qf := fun _ s' => SP X pins D .next s') hc hN I hi ok hg ht hk he hs h fun L C s' m H' I' q hn f => ?_) fun _ s' hq => wpAny_pure (wpAny_pure hq))
  show
        wpAny _ _ (assign (.Name y py) X.env (.ref L)) _ _ _
  refine
        wpAny_assign_Name (store_ok2 (v := V.ref L) I' hN hy (.inl hyl) rfl (fun s2 I2 ⟨a, sb, ha⟩ => ?_) (.inr hyl))
  obtain ⟨f0, f1, f2, f3, f4, f5⟩ :=
        f
  have haC : C ≠ a := by
    rcases ha with z | z
    · rw [z]; exact f1
    · exact
          fun e => f4 y a z e.symm
  refine
        ⟨m, hn.sameBut sb haC, fun h3 sb3 => ?_⟩
  exact
        ⟨_, H', I2.turned (t' := s2.toks) (fun b o hb e => (sb3.2 b hb).trans e) f0 f1 f3 f4 f5, q⟩
theorem s_setE {i : Nat} {x : Str} {e : Expr} {m : E} {p pos : Pos} (g : Gd G Γ N sc W k X) (hi : N[i]? = some x) (hl : locB sc x = true) (hc : compB m e = true) (h : ckE N sc m e = true) : PS X (.Assign [.Name x p] e pos) (rS G W Γ (.set i m)) := by
  by_cases c : isComp e = true
  · cases m with
    | lc mu own t it cc r =>
      cases r with
      | el e1 =>
        unfold ckE at h
        split at h
        · rename_i elt tg iter ifs scope pp
          obtain ⟨h12, h3, h4⟩ := and3 h
          obtain ⟨h12, h5, h6⟩ := and3 h12
          obtain ⟨h1, h2, h0⟩ := and3 h12
          have a1 := i_sound (G := G) (Γ := Γ) it g h1 _ unl_refl (.inr rfl)
          have a2 := fun (s : Shared) (H : Hp) (C : Addr) (cl : List (Str × Addr)) (fp : List Addr) => tg_sound (g.blk (scope := scope) s H C cl fp) t h6
          have a3 := fun (s : Shared) (H : Hp) (C : Addr) (cl : List (Str × Addr)) (fp : List Addr) => cs_sound (G := G) (Γ := Γ) (X := X.blk s H scope (compEnvC scope cl C X.env) fp) h3 fun e0 x e1 e2 => (c_sound cc (g.blk (scope := scope) s H C cl fp) e1 e2).t
          have a4 := fun (s : Shared) (H : Hp) (C : Addr) (cl : List (Str × Addr)) (fp : List Addr) => (e_sound e1 (g.blk (scope := scope) s H C cl fp) h4).v
          have q := pe_lc (elt := elt) (pos := pp) g.calm g.nd0 a1 (g.blkOk h2) a2 a3 a4 (fun x => fold_plain (cki_plain h1) x)
          rw [of_decide_eq_true h0] at q
          refine s_setC g hi hl q (fun w1 w2 => ?_) fun o w fn fx => lc_law h5 o w fn fx
          have q2 := ps_setLc (elt := elt) (pos := pp) g.calm g.nd0 (g.ix hi) w2 w1 a1 (g.blkOk h2) a2 a3 a4 (fun x => fold_plain (cki_plain h1) x)
          rw [of_decide_eq_true h0] at q2
          exact q2
        · cases h
      | fo t1 it1 c1 r =>
        cases r with
        | fo _ _ _ _ => cases h
        | el e1 =>
          unfold ckE at h
          split at h
          · rename_i elt tg iter ifs tg1 iter1 ifs1 scope pp
            obtain ⟨h12, h13, h14⟩ := and3 h
            obtain ⟨h12, h15, h16⟩ := and3 h12
            obtain ⟨h12, h17, h18⟩ := and3 h12
            obtain ⟨h12, h5, h3⟩ := and3 h12
            obtain ⟨h12, h0, h6⟩ := and3 h12
            obtain ⟨h1, h2⟩ := and2 h12
            have hv : ∀ i ∈ tgs t1, i ∈ (ownOf N own).map (·.2) := fun i hi => by
              rw [of_decide_eq_true h0]
              unfold tgIn at h15
              rw [List.all_eq_true] at h15
              exact of_decide_eq_true (h15 i hi)
            have a1 := i_sound (G := G) (Γ := Γ) it g h1 _ unl_refl (.inr rfl)
            have a2 := fun (s : Shared) (H : Hp) (C : Addr) (cl : List (Str × Addr)) (fp : List Addr) => tg_sound (g.blk (scope := scope) s H C cl fp) t h5
            have a3 := fun (s : Shared) (H : Hp) (C : Addr) (cl : List (Str × Addr)) (fp : List Addr) => cs_sound (G := G) (Γ := Γ) (X := X.blk s H scope (compEnvC scope cl C X.env) fp) h3 fun e0 x e1 e2 => (c_sound cc (g.blk (scope := scope) s H C cl fp) e1 e2).t
            have a4 := fun (s : Shared) (H : Hp) (C : Addr) (cl : List (Str × Addr)) (fp : List Addr) => i_sound (G := G) (Γ := Γ) it1 (g.blk (scope := scope) s H C cl fp) h18 Eq (fun _ => rfl) (.inl h17)
            have a5 := fun (s : Shared) (H : Hp) (C : Addr) (cl : List (Str × Addr)) (fp : List Addr) => tg_sound (g.blk (scope := scope) s H C cl fp) t1 h16
            have a6 := fun (s : Shared) (H : Hp) (C : Addr) (cl : List (Str × Addr)) (fp : List Addr) => cs_sound (G := G) (Γ := Γ) (X := X.blk s H scope (compEnvC scope cl C X.env) fp) h13 fun e0 x e1 e2 => (c_sound c1 (g.blk (scope := scope) s H C cl fp) e1 e2).t
            have a7 := fun (s : Shared) (H : Hp) (C : Addr) (cl : List (Str × Addr)) (fp : List Addr) => (e_sound e1 (g.blk (scope := scope) s H C cl fp) h14).v
            have q := pe_lc2 (elt := elt) (pos := pp) (vs1 := tgs t1) g.calm g.nd0 a1 (g.blkOk h2) hv a2 a3 a4 a5 a6 a7 (fun x => fold_plain (cki_plain h1) x) (fun env x => fold_plain (cki_plain h18) x)
            rw [of_decide_eq_true h0] at q
            refine s_setC g hi hl q (fun w1 w2 => ?_) fun o w fn fx => lc2_law h6 o w fn fx
            have q2 := ps_setLc2 (elt := elt) (pos := pp) (vs1 := tgs t1) g.calm g.nd0 (g.ix hi) w2 w1 a1 (g.blkOk h2) hv a2 a3 a4 a5 a6 a7 (fun x => fold_plain (cki_plain h1) x) (fun env x => fold_plain (cki_plain h18) x)
            rw [of_decide_eq_true h0] at q2
            exact q2
          · cases h
    | dc mu own t it cc kk e1 =>
      unfold ckE at h
      split at h
      · rename_i kx vx tg iter ifs scope pp
        obtain ⟨h12, h3, h4⟩ := and3 h
        obtain ⟨h12, h5, h7⟩ := and3 h12
        obtain ⟨h12, h0, h6⟩ := and3 h12
        obtain ⟨h1, h2⟩ := and2 h12
        have a1 := i_sound (G := G) (Γ := Γ) it g h1 _ unl_refl (.inr rfl)
        have a2 := fun (s : Shared) (H : Hp) (C : Addr) (cl : List (Str × Addr)) (fp : List Addr) => tg_sound (g.blk (scope := scope) s H C cl fp) t h5
        have a3 := fun (s : Shared) (H : Hp) (C : Addr) (cl : List (Str × Addr)) (fp : List Addr) => cs_sound (G := G) (Γ := Γ) (X := X.blk s H scope (compEnvC scope cl C X.env) fp) h7 fun e0 x e1 e2 => (c_sound cc (g.blk (scope := scope) s H C cl fp) e1 e2).t
        have a4 := fun (s : Shared) (H : Hp) (C : Addr) (cl : List (Str × Addr)) (fp : List Addr) => (e_sound kk (g.blk (scope := scope) s H C cl fp) h3).v
        have a5 := fun (s : Shared) (H : Hp) (C : Addr) (cl : List (Str × Addr)) (fp : List Addr) => (e_sound e1 (g.blk (scope := scope) s H C cl fp) h4).v
        have q := pe_dc (kx := kx) (vx := vx) (pos := pp) g.calm g.nd0 a1 (g.blkOk h2) a2 a3 a4 a5 (fun x => fold_plain (cki_plain h1) x)
        rw [of_decide_eq_true h0] at q
        refine s_setC g hi hl q (fun w1 w2 => ?_) fun o w fn fx => dc_law h6 o w fn fx
        have q2 := ps_setDc (kx := kx) (vx := vx) (pos := pp) g.calm g.nd0 (g.ix hi) w2 w1 a1 (g.blkOk h2) a2 a3 a4 a5 (fun x => fold_plain (cki_plain h1) x)
        rw [of_decide_eq_true h0] at q2
        exact q2
      · cases h
    | _ => cases e <;> first | (cases c; done) | (cases hc; done)
  · exact s_set g hi hl (by simpa using c) (e_sound m g h).v
end
end Vc
/-! Vc17: loops; every statement. -/
namespace Vc
open PySem L2 PyProof.Rows
section
variable {G : Cfg} {Γ : Fns} {N : List Str} {sc : Scope} {W : WX} {k : Nat} {X : Cx} {D : Po} {D' : Ends} {h h1 : CH} {H H1 : Hp} {σ : L2.St} {ρ : Env}
/-! ### several names at once -/
def locN (X : Cx) (l : Nat) : Expr → Option Str
  | .Name id pos => if (X.env.kindOf id == some .local && pos.line == l) = true then some id else none
  | _ => none
theorem locN_few (g : Gd G Γ N sc W k X) (l : Nat) : ∀ ts : List Expr, ts.any (cellB sc) = true → (ts.filterMap (locN X l)).length < ts.length
  | [], h => by cases h
  | t :: ts, h => by
    rw [List.any_cons, Bool.or_eq_true] at h
    by_cases c : cellB sc t = true
    · have e0 : locN X l t = none := by
        cases t with
        | Name x p =>
          have q : sc.names.lookup x = some .cell := by
            have c : (match sc.names.lookup x with
              | some .cell => true
              | _ => false) = true := c
            split at c
            · assumption
            · cases c
          have q2 : X.env.kindOf x = some .cell := (g.nm x).2.1 q
          show (if (X.env.kindOf x == some .local && p.line == l) = true then some x else none) = none
          rw [q2, if_neg]
          intro z
          have := (and2 z).1
          cases this
        | _ => rfl
      rw [List.filterMap_cons, e0]
      exact Nat.lt_succ_of_le (List.length_filterMap_le _ _)
    · have h2 := locN_few g l ts (h.resolve_left c)
      rw [List.filterMap_cons, List.length_cons]
      split
      · exact Nat.lt_succ_of_lt h2
      · rw [List.length_cons]; exact Nat.succ_lt_succ h2
theorem sw_cell (g : Gd G Γ N sc W k X) {is : List Nat} {tg e : Expr} (ht : ckT N sc (.tp is) tg = true) (hp : ∀ vs kk p, e = .Tuple vs kk p → vs.all plainE = true) (h : (!isTup e || swNo sc tg) = true) : swappedStores [tg] e X.env = pure none := by
  cases tg with
  | Tuple ts kk tp =>
    cases e with
    | Tuple vs k2 p2 =>
      have hn : swNo sc (.Tuple ts kk tp) = true := h
      have hf := locN_few g ((ts.head?.map (·.pos.line)).getD 0) ts hn
      unfold swappedStores
      dsimp only
      have h0 : (vs.any fun | .Starred .. => true | _ => false) = false := by
        rw [List.any_eq_false]
        intro x hx
        have := List.all_eq_true.mp (hp vs k2 p2 rfl) x hx
        cases x <;> first | exact Bool.false_ne_true | cases this
      split
      · rfl
      · refine (if_neg (fun z => Bool.false_ne_true (h0.symm.trans z))).trans (if_pos ?_)
        rw [Bool.or_eq_true]
        exact .inl (bne_iff_ne.mpr (Nat.ne_of_lt hf))
    | _ => rfl
  | _ => cases ht
theorem s_par {i j : Nat} {x y : Str} {a b : Expr} {ma mb : E} {px py pt pos : Pos} {kt k2 pt2} (g : Gd G Γ N sc W k X) (hi : N[i]? = some x) (hj : N[j]? = some y) (hij : i ≠ j) (hx : sc.names.lookup x = some .local) (hy : sc.names.lookup y = some .local) (hl : py.line = px.line) (hne : x ≠ y)
    (hf : [a, b].all (foldedForSure 8) = false) (hc : [a, b].all (constantsAlone 8) = false) (ka : ckE N sc ma a = true) (kb : ckE N sc mb b = true) (pa : PE X a (rE G Γ W ma)) (pb : PE X b (rE G Γ W mb)) :
    PS X (.Assign [.Tuple [.Name x px, .Name y py] kt pt] (.Tuple [a, b] k2 pt2) pos) (rS G W Γ (.par i j ma mb)) := by
  refine ⟨fun pins s σ H D' I q => ?_⟩
  have lx : X.env.scope.names.lookup x = some .local := (g.nm x).1 hx
  have ly : X.env.scope.names.lookup y = some .local := (g.nm y).1 hy
  have hw : swappedStores [.Tuple [.Name x px, .Name y py] kt pt] (.Tuple [a, b] k2 pt2) X.env = pure (some [x, y]) := by
    have hb : X.env.blockKind = .function := by
      have hk := I.ok.kind
      unfold Env.blockKind
      rw [hk]; rfl
    have kx : X.env.kindOf x = some .local := lx
    have ky : X.env.kindOf y = some .local := ly
    have h0 : ([a, b].any fun | .Starred .. => true | _ => false) = false := by
      have q1 := ck_plain ma ka
      have q2 := ck_plain mb kb
      rw [List.any_eq_false]
      intro x hx
      have hp : plainE x = true := by
        rcases
              List.mem_cons.mp hx with e | hx
        · rw [e]; exact q1
        · rcases List.mem_cons.mp hx with e | hx
          · rw [e]; exact q2
          · cases hx
      cases x <;> first | exact Bool.false_ne_true | cases hp
    have hn : ([Expr.Name x px, .Name y py].filterMap (locN X px.line)) = [x, y] := by
      simp [locN, kx, ky, hl]
    unfold swappedStores
    dsimp only [List.head?_cons, Option.map_some, Option.getD_some, Expr.pos]
    refine (if_neg (by rw [hb]; exact Bool.false_ne_true)).trans ((if_neg (fun z => Bool.false_ne_true (h0.symm.trans z))).trans ((if_neg fun z => ?_).trans ((if_neg (by rw [hf]; exact Bool.false_ne_true)).trans ?_)))
    · have z' : (([Expr.Name x px, .Name y py].filterMap (locN X px.line)).length != 2 || ([Expr.Name x px, .Name y py].filterMap (locN X px.line)).eraseDups.length != ([Expr.Name x px, .Name y py].filterMap (locN X px.line)).length) = true := z
      rw [hn] at z'
      simp [List.eraseDups_cons, hne, Ne.symm hne] at z'
    · refine (if_neg (by rw [hc]; exact Bool.false_ne_true)).trans ?_
      exact congrArg (fun l => pure (some l)) hn
  have q3 : starEach [b] X.env = [(false, eval b X.env)] := by rw [star_plain (ck_plain mb kb)]; rfl
  refine (ps_par g.calm g.nd0 (g.ix hi) (g.ix hj) hij lx ly (pa_cons pa (pa_cons pb pa_nil (star_plain (ck_plain mb kb))) (star_plain (ck_plain ma ka))) hw).run pins s σ H D' I ?_
  obtain ⟨ρ, h, D, o, w, f⟩ := q
  refine two o w (f.x o) fun v w' u1 u2 H2 h2 r1 r2 hr fr q => ⟨u1, u2, rfl, f.nx _ H2 _ h2 ⟨((o.s.mono fr.kept).set r1).set r2, hr⟩ fr q⟩
/-! ### branches, loops -/
theorem s_if {c : Expr} {mc : E} {xs ys : List Stmt} {as bs : List S} {pos : Pos} (hc : PT X c (rT G Γ W mc)) (ha : PSs X xs (rSs G W Γ as)) (hb : PSs X ys (rSs G W Γ bs)) : PS X (.If c xs ys pos) (rS G W Γ (.ite mc as bs)) := by
  refine ps_imp (ps_if hc ha hb) fun D' σ H ⟨ρ, h, D, o, w, f⟩ => ⟨ρ, h, _, _, o, if_test w, fun b H2 h2 hr fr q => ?_, f.x o⟩
  cases b with
  | true => exact ⟨ρ, h2, D, o.next fr hr, q.1 rfl, f.next fr⟩
  | false => exact ⟨ρ, h2, D, o.next fr hr, q.2 rfl, f.next fr⟩
theorem s_while {c : Expr} {mc : E} {xs : List Stmt} {as : List S} {pos : Pos} (g : Gd G Γ N sc W k X) (hc : PT X c (rT G Γ W mc)) (ha : PSs X xs (rSs G W Γ as)) : PS X (.While c xs [] pos) (rS G W Γ (.whl mc as)) := by
  refine ps_imp (ps_while g.own hc ha) fun D' σ H ⟨ρ, h, D, o, w, f⟩ => ?_
  obtain ⟨I, ⟨m0, i0⟩, turn⟩ := w
  refine ⟨fun m σ' H' => ∃ ρ' h', Ok G σ' ρ' H' h' ∧ Fra h H h' H' ∧ I m ρ' h', ⟨m0, ρ, h, o, Fra.refl, i0⟩, ?_⟩
  rintro m σ1 H1 ⟨ρ1, h1, o1, f1, i1⟩
  refine ⟨ρ1, h1, _, _, o1, if_test (turn m ρ1 h1 i1), fun b H2 h2 hr fr q => ?_, (f.next f1).x o1⟩
  have f12 := f1.trans fr
  cases b with
  | false =>
    dsimp only
    rw [if_neg (by decide)]
    exact f.nx _ H2 ρ1 h2 (o1.next fr hr) f12 (q.2 rfl)
  | true =>
    dsimp only
    rw [if_pos rfl]
    refine ⟨fun σ' H' => ∃ ρ' h' m', m' < m ∧ Ok G σ' ρ' H' h' ∧ Fra h H h' H' ∧ I m' ρ' h', fun σ' H' ⟨ρ', h', m', l, o', f', i'⟩ => ⟨m', l, ρ', h', o', f', i'⟩, ρ1, h2, _, o1.next fr hr, q.1 rfl, ?_⟩
    exact {
      nx := fun σ' H' ρ' h' o' f' ⟨m', l, i'⟩ => ⟨ρ', h', m', l, o', f12.trans f', i'⟩
      ct := fun σ' H' ρ' h' o' f' ⟨m', l, i'⟩ => ⟨ρ', h', m', l, o', f12.trans f', i'⟩
      bk := fun σ' H' ρ' h' o' f' q => f.nx σ' H' ρ' h' o' (f12.trans f') q
      rt := fun v H' x h' rx hr' f' q => f.rt v H' x h' rx hr' (f12.trans f') q
      ex := fun C σ' H' ρ' h' o' f' q => f.ex C σ' H' ρ' h' o' (f12.trans f') q }
def forF (Γ : Fns) (t : Tg) (it : I) (b : List S) (D : Po) : Val → CH → Env → (Env → CH → Prop) → Prop := fun x h ρ K => setT t x ρ fun ρ' => wpSs Γ b { D with nx := K, ct := K, bk := D.nx, ex := fun C ρ h => noLock it = true ∧ D.ex C ρ h } ρ' h
theorem for_law {U : Hp → Hp → Prop} {t : Tg} {it : I} {b : List S} (hu : ∀ H H2, U H H2 → Unl X H H2) (hl : noLock it = true → U = Eq) (o : Ok G σ ρ H h) (w : wpS Γ (.for_ t it b) D ρ h) (f : FinS G W D h H D') :
    tFor (rI G Γ W U it) (rG G t) (rSs G W Γ b) (UnlD X D') σ H := by
  refine ⟨ρ, h, _, _, o, w, f.x o, fun J H1 h1 xs stb hr1 kp itr bk w1 => ?_⟩
  have w1 : goL stb (forF Γ t it b D) xs h1 ρ D.nx := w1
  refine ⟨fun i m σ' H' => m = xs.length - i ∧ i ≤ xs.length ∧ ∃ ρ' h', Ok G σ' ρ' H' h' ∧ Fra h1 H1 h' H' ∧ goL stb (forF Γ t it b D) (xs.drop i) h' ρ' D.nx, ⟨xs.length, by simp, Nat.zero_le _, ρ, h1, ⟨o.s.mono kp, hr1⟩, Fra.refl, w1⟩, ?_⟩
  have fin : ∀ σ2 H2 ρ2 h2, Ok G σ2 ρ2 H2 h2 → Fra h1 H1 h2 H2 → D.nx ρ2 h2 → (UnlD X D').nx σ2 H2 := fun σ2 H2 ρ2 h2 o2 f2 q => by
    obtain ⟨H3, u, fr, hr3, kf⟩ := bk h2 H2 f2 o2.r
    exact ⟨H3, hu _ _ u, f.nx σ2 H3 ρ2 h2 ⟨o2.s.mono kf, hr3⟩ fr q⟩
  rintro i m σ' H' ⟨rfl, hi, ρ', h', o', f', w⟩
  by_cases hlt : i < xs.length
  · rw [List.drop_eq_getElem_cons hlt] at w
    obtain ⟨hst, w⟩ := w
    obtain ⟨it1, _⟩ := itr H' h' f'.fro o'.r hst
    obtain ⟨go, y⟩ := it1 i _ (List.getElem?_eq_getElem hlt)
    refine .inr ⟨go, fun σ2 H2 => ∃ ρ2 h2, Ok G σ2 ρ2 H2 h2 ∧ Fra h1 H1 h2 H2 ∧ goL stb (forF Γ t it b D) (xs.drop (i + 1)) h2 ρ2 D.nx, fun σ2 H2 p => ⟨xs.length - (i + 1), by omega, rfl, hlt, p⟩, fun v H2 yl => ?_⟩
    obtain ⟨rx, hr2, f2⟩ := y v H2 yl
    have f12 := f'.trans f2
    refine ⟨ρ', h', xs[i], _, o'.s.mono f2.kept, hr2, rx, w, fun σ2 ρ2 sl _ pw => ⟨ρ2, h', _, ⟨sl, hr2⟩, pw, ?_⟩⟩
    exact {
      nx := fun σ' H' ρ' h' o' f' q => ⟨ρ', h', o', f12.trans f', q⟩
      ct := fun σ' H' ρ' h' o' f' q => ⟨ρ', h', o', f12.trans f', q⟩
      bk := fun σ' H' ρ' h' o' f' q => fin σ' H' ρ' h' o' (f12.trans f') q
      rt := fun v H' x h' rx hr' f' q => by
        obtain ⟨H3, u, fr, hr3, kf⟩ := bk h' H' (f12.trans f') hr'
        exact ⟨H3, hu _ _ u, f.rt v H3 x h' (RepV.mono kf _ _ rx) hr3 fr q⟩
      ex := fun C σ' H' ρ' h' o' f' q => by
        obtain ⟨H3, u, fr, hr3, kf⟩ := bk h' H' (f12.trans f') o'.r
        rw [hl q.1] at u
        subst u
        exact f.ex C σ' H' ρ' h' o' fr q.2 }
  · have ei : i = xs.length := by omega
    subst ei
    rw [List.drop_length] at w
    obtain ⟨hst, w⟩ := w
    obtain ⟨_, sp⟩ := itr H' h' f'.fro o'.r hst
    exact .inl ⟨sp, fin σ' H' ρ' h' o' f' w⟩
theorem s_for {tg iter : Expr} {xs : List Stmt} {t : Tg} {it : I} {b : List S} {pos : Pos} (g : Gd G Γ N sc W k X) (hi : ckI N sc it tg iter = true) (ht : ckT N sc t tg = true) (hb : PSs X xs (rSs G W Γ b)) : PS X (.For tg iter xs [] pos) (rS G W Γ (.for_ t it b)) := by
  by_cases l : noLock it = true
  · exact ps_imp (ps_unl (ps_for g.own g.calm (i_sound it g hi Eq (fun _ => rfl) (.inl l)) (tg_sound g t ht) hb (fun x => fold_plain (cki_plain hi) x))) fun D' σ H ⟨ρ, h, D, o, w, f⟩ => for_law (fun H H2 e => by subst e; exact .inl rfl) (fun _ => rfl) o w f
  · exact ps_imp (ps_unl (ps_for g.own g.calm (i_sound it g hi (Unl X) unl_refl (.inr rfl)) (tg_sound g t ht) hb (fun x => fold_plain (cki_plain hi) x))) fun D' σ H ⟨ρ, h, D, o, w, f⟩ => for_law (fun H H2 e => e) (fun z => absurd z l) o w f
/-! ### every statement -/
theorem ss_nil : PSs X [] (rSs G W Γ []) := ⟨fun pins s σ H D' I ⟨ρ, h, D, o, w, f⟩ => pss_nil.run pins s σ H D' I (f.nx σ H ρ h o Fra.refl w)⟩
theorem ss_cons {s : S} {r : List S} {st : Stmt} {sts : List Stmt} (p : PS X st (rS G W Γ s)) (q : PSs X sts (rSs G W Γ r)) : PSs X (st :: sts) (rSs G W Γ (s :: r)) :=
  pss_imp (pss_cons p q) fun D' σ H ⟨ρ, h, D, o, w, f⟩ => ⟨ρ, h, _, o, w, { nx := fun σ' H' ρ' h' o' f' q => ⟨ρ', h', D, o', q, f.next f'⟩, rt := f.rt, bk := f.bk, ct := f.ct, ex := f.ex }⟩
mutual
theorem s_sound : ∀ (m : S) {N : List Str} {sc : Scope} {W : WX} {k : Nat} {X : Cx} (g : Gd G Γ N sc W k X) {st : Stmt}, ckS N sc m st = true → PS X st (rS G W Γ m)
  | .set i e, N, sc, W, k, X, g, st, h => by
    unfold ckS at h
    split at h
    · obtain ⟨h12, h3, h4⟩ := and3 h
      obtain ⟨h1, h2⟩ := and2 h12
      exact s_setE g (of_decide_eq_true h1) h2 h3 h4
    · cases h
  | .unp is e, N, sc, W, k, X, g, st, h => by
    unfold ckS at h
    split at h
    · obtain ⟨h0, h4, h3⟩ := and3 h
      obtain ⟨h1, h2⟩ := and2 h0
      refine s_unp g h1 (sw_cell g h1 (fun vs kk p ee => ?_) h2) (e_sound e g h3).v
      subst ee
      exact h4
    · cases h
  | .par i j a b, N, sc, W, k, X, g, st, h => by
    unfold ckS at h
    split at h
    · obtain ⟨h0, h10, h11⟩ := and3 h
      obtain ⟨h0, h8, h9⟩ := and3 h0
      obtain ⟨h0, h6, h7⟩ := and3 h0
      obtain ⟨h0, h4, h5⟩ := and3 h0
      obtain ⟨h1, h2, h3⟩ := and3 h0
      exact s_par g (of_decide_eq_true h1) (of_decide_eq_true h2) (of_decide_eq_true h3) (of_decide_eq_true h4) (of_decide_eq_true h5) (of_decide_eq_true h6) (of_decide_eq_true h7) (by simpa only [Bool.not_eq_eq_eq_not, Bool.not_true] using h8) (by simpa only [Bool.not_eq_eq_eq_not, Bool.not_true] using h9) h10 h11 (e_sound a g h10).v (e_sound b g h11).v
    · cases h
  | .sfl o f e, N, sc, W, k, X, g, st, h => by
    unfold ckS at h
    split at h
    · obtain ⟨h1, h2, h3⟩ := and3 h
      cases of_decide_eq_true h1
      exact s_sfl g (e_sound o g h2).v (e_sound e g h3).v
    · cases h
  | .sub o i e, N, sc, W, k, X, g, st, h => by
    unfold ckS at h
    split at h
    · obtain ⟨h1, h2, h3⟩ := and3 h
      exact s_sub g (ck_plain i h2) (e_sound o g h1).v (e_sound i g h2).v (e_sound e g h3).v
    · cases h
  | .aug i op e, N, sc, W, k, X, g, st, h => by
    unfold ckS at h
    split at h
    · obtain ⟨h0, h4, h5⟩ := and3 h
      obtain ⟨h1, h2, h3⟩ := and3 h0
      cases of_decide_eq_true h3
      rw [Bool.or_eq_true] at h4
      exact s_aug g (of_decide_eq_true h1) h2 (h4.imp of_decide_eq_true of_decide_eq_true) (e_sound e g h5).v
    · cases h
  | .exp e, N, sc, W, k, X, g, st, h => by
    unfold ckS at h
    split at h
    · obtain ⟨h1, h2⟩ := and2 h
      exact s_exp (by simpa using h1) (e_sound e g h2).v
    · cases h
  | .app o e, N, sc, W, k, X, g, st, h => by
    unfold ckS at h
    split at h
    · obtain ⟨h0, h4, h5⟩ := and3 h
      obtain ⟨h1, h2, h3⟩ := and3 h0
      cases of_decide_eq_true h1
      exact s_app g h2 h3 (ck_plain e h5) (e_sound o g h4).v (e_sound e g h5).v
    · cases h
  | .ret e, N, sc, W, k, X, g, st, h => by
    unfold ckS at h
    split at h
    · exact s_ret (e_sound e g h).v
    · cases h
  | .retn, N, sc, W, k, X, g, st, h => by
    unfold ckS at h
    split at h
    · exact ps_imp ps_retN fun D' σ H ⟨ρ, h, D, o, w, f⟩ => f.rt _ H .non h rfl o.r Fra.refl w
    · cases h
  | .ite c a b, N, sc, W, k, X, g, st, h => by
    unfold ckS at h
    split at h
    · obtain ⟨h1, h2, h3⟩ := and3 h
      exact s_if (e_sound c g h1).t (ss_sound a g h2) (ss_sound b g h3)
    · cases h
  | .for_ t it b, N, sc, W, k, X, g, st, h => by
    unfold ckS at h
    split at h
    · obtain ⟨h1, h2, h3⟩ := and3 h
      exact s_for g h1 h2 (ss_sound b g h3)
    · cases h
  | .whl c b, N, sc, W, k, X, g, st, h => by
    unfold ckS at h
    split at h
    · obtain ⟨h1, h2⟩ := and2 h
      exact s_while g (e_sound c g h1).t (ss_sound b g h2)
    · cases h
  | .brk, N, sc, W, k, X, g, st, h => by
    unfold ckS at h
    split at h
    · exact ps_imp ps_break fun D' σ H ⟨ρ, h, D, o, w, f⟩ => f.bk σ H ρ h o Fra.refl w
    · cases h
  | .ctn, N, sc, W, k, X, g, st, h => by
    unfold ckS at h
    split at h
    · exact ps_imp ps_continue fun D' σ H ⟨ρ, h, D, o, w, f⟩ => f.ct σ H ρ h o Fra.refl w
    · cases h
  | .pas, N, sc, W, k, X, g, st, h => by
    unfold ckS at h
    split at h
    · exact ps_imp ps_pass fun D' σ H ⟨ρ, h, D, o, w, f⟩ => f.nx σ H ρ h o Fra.refl w
    · cases h
  | .doc, N, sc, W, k, X, g, st, h => by
    unfold ckS at h
    split at h
    · exact ps_imp ps_doc fun D' σ H ⟨ρ, h, D, o, w, f⟩ => f.nx σ H ρ h o Fra.refl w
    · cases h
  | .nev, N, sc, W, k, X, g, st, h => ps_imp ps_never fun D' σ H ⟨ρ, h, D, o, w, f⟩ => w
  | .rse _, N, sc, W, k, X, g, st, h => by cases h
  | .triC _ _, N, sc, W, k, X, g, st, h => by cases h
theorem ss_sound : ∀ (m : List S) {N : List Str} {sc : Scope} {W : WX} {k : Nat} {X : Cx} (g : Gd G Γ N sc W k X) {st : List Stmt}, ckSs N sc m st = true → PSs X st (rSs G W Γ m)
  | [], N, sc, W, k, X, g, [], _ => ss_nil
  | [], N, sc, W, k, X, g, _ :: _, h => by cases h
  | _ :: _, N, sc, W, k, X, g, [], h => by cases h
  | s :: r, N, sc, W, k, X, g, st :: sts, h => by
    obtain ⟨h1, h2⟩ := and2 (show (ckS N sc s st && ckSs N sc r sts) = true from h)
    exact ss_cons (s_sound s g h1) (ss_sound r g h2)
end
end
end Vc
/-! Vc18: defs; all levels. -/
namespace Vc
open PySem L2 PyProof.Rows
def startV (N : List Str) (xs : List Val) : Env := xs.map some ++ List.replicate (N.length - xs.length) none
/-- what is wanted behind a body -/
def bodyPo (Q : VP) (Xp : XP) : Po := { nx := fun _ h' => Q .non h', rt := Q, ex := fun C _ h' => Xp C h' }
section
variable {G : Cfg} {Γ : Fns}
theorem Slots.start {H : Hp} {h : CH} {N : List Str} {xs : List Val} {vs : List V} (r : RepL G H h xs vs) : Slots G (L2.start N vs) (startV N xs) H h := by
  have hl := r.length
  refine ⟨by unfold L2.start startV; simp [hl], fun i x e => ?_⟩
  unfold startV at e
  unfold L2.start
  by_cases c : i < xs.length
  · rw [List.getElem?_append_left (by simpa using c), List.getElem?_map] at e
    cases q : xs[i]? with
    | none => rw
          [q] at e; cases e
    | some y =>
      rw [q] at e
      cases e
      obtain ⟨v, hv, rv⟩ := r.get q
      exact ⟨v, by rw [List.getElem?_append_left (by rw [List.length_map, ← hl]; exact c), List.getElem?_map, hv]; rfl, rv⟩
  · rw [List.getElem?_append_right (by simpa using c)] at e
    rw [List.getElem?_replicate] at e
    split at e <;> cases e
theorem fn_sound {P : Program} {w : World} {K : PySem.W.Frag} {mg : Str → Option Value} {base : Heap} {k : Nat} {x qual : Str} {params : Arguments} {body : List Stmt} {scope : Scope} {f : Addr} {fd : FuncData} {N ps : List Str} {m : List S} {sp : Spec}
    (F : FunD K x qual params body scope [] [] f fd) (S : FnScope N ps scope) (tab : Tab G Γ k P w K mg base) (ck : ckSs N scope m body = true) (ar : arity sp ps.length)
    (vc : ∀ xs h Q Xp, sp xs h Q Xp → wpSs Γ m (bodyPo Q Xp) (startV N xs) h) : FnS P w K mg base (k + 1) f fd ps (lift G ps.length sp) := by
  obtain ⟨oc, od, dV, kV, doc, pm, an, cdv, ct, osl, rfl, lk, hcd, _, _⟩ :=
        F.ex
  refine FnS.of lk hcd S (fun vs H Q E ⟨xs, h, P, Xp, l, rl, _⟩ => rl.length.symm.trans l) fun A outer s H vs Q E hr ⟨xs, h, Q0, Xp, l, rl, hr0, w0, fn, fx⟩ => ?_
  have g : Gd G Γ N scope (fun cls d _ H' => E cls d H') k (cxOf (L2.CX P w) P w K mg base N qual scope f cdv A outer s H E) := {
    tab := tab
    n0 := rfl
    nd := S.nd
    nm := fun y => ⟨id, id, .inl, id⟩
    fnl := fun _ _ => rfl
    calm := rfl
    rm := hr
    tk := takes_of (E := E) rfl rfl rfl rfl
    own := passes_of (K := fun e s'' => L2.CX P w outer H s E e s'') rfl }
  refine ⟨_, ss_sound m g ck, ⟨startV N xs, h, bodyPo Q0 Xp, ⟨Slots.start rl, hr0⟩, vc xs h Q0 Xp w0, ?_⟩⟩
  exact {
    nx := fun σ' H' ρ' h' o' f' q => fn _ H' .non h' rfl o'.r f' q
    rt := fun v H' x h' rx hr' f' q => fn v H' x h' rx hr' f' q
    bk := fun _ _ _ _ _ _ q => q
    ct := fun _ _ _ _ _ _ q => q
    ex := fun C σ' H' ρ' h' o' f' q => fx C H' h' o'.r f' q }
theorem fn_none {P : Program} {w : World} {K : PySem.W.Frag} {mg : Str → Option Value} {base : Heap} {k : Nat} {f : Addr} {fd : FuncData} {ps : List Str} {sp : Spec} (no : ∀ xs h Q Xp, ¬ sp xs h Q Xp) : FnS P w K mg base k f fd ps (lift G ps.length sp) where
  len := fun vs H Q E ⟨xs, h, P, Xp, l, rl, _⟩ => rl.length.symm.trans l
  run := fun A outer s H args us vs Q E _ _ _ _ ⟨xs, h, P, Xp, l, rl, _, q, _⟩ => (no _ _ _ _ q).elim
end
/-! ### a program -/
/-- a def: its names, its clean text, its promise by levels -/
structure Fe where
  N : List Str
  ps : List Str
  m : List S
  d : He.DefD
  R : Nat → Spec
def scB (N ps : List Str) (sc : Scope) : Bool := (match sc.kind with | .function => true | _ => false) && !sc.isCoroutine && !sc.isGenerator && decide N.Nodup && decide (N.take ps.length = ps) && (ps.all fun x => decide (sc.names.lookup x = some .local ∨ sc.names.lookup x = some .cell)) &&
  sc.names.all fun y => match y.2 with | .free => false | _ => true
theorem scB_ok {N ps : List Str} {sc : Scope} (h : scB N ps sc = true) : FnScope N ps sc := by
  unfold scB at h
  obtain ⟨h0, h6, h7⟩ := and3 h
  obtain ⟨h0, h4, h5⟩ := and3 h0
  obtain ⟨h1, h2, h3⟩ := and3 h0
  refine ⟨?_, by simpa using h2, by simpa using h3, of_decide_eq_true h4, of_decide_eq_true h5, fun x hx => of_decide_eq_true (List.all_eq_true.mp h6 x hx), fun y hy e => ?_⟩
  · split at h1
    · assumption
    · cases h1
  · have q := List.all_eq_true.mp h7 y hy
    rw [e] at q
    cases q
/-- at a level -/
def lv (R : Nat → Spec) : Nat → Spec := fun k vs h Q Xp => ∃ j, k = j + 1 ∧ R j vs h Q Xp
/-- what a new instance is, by its __init__ -/
def mkSp (R : Nat → Spec) (n : Nat) (C : Str) : Nat → Spec := fun k xs h Q _ => ∃ j, k = j + 1 ∧ xs.length + 1 = n ∧ ∀ a, h a = none →
  lv R j (.ref a :: xs) (h.set a (.obj C [])) (fun v h' => v = .non ∧ ∃ (F : Addr → Bool) (n : Nat), (∀ b, F b = true → h' b ≠ some junk) ∧ Q (fz n h' F (.ref a)) (h'.sub F)) noX
def Fe.key (e : Fe) : Str × Option Str := e.d.at_
/-- the table of a program -/
structure Pg where
  es : List Fe
  gl : Str → Option Val
  fld : List (Str × Str)
def Pg.sp (p : Pg) (key : Str × Option Str) : Nat → Spec := match p.es.find? fun e => decide (e.key = key) with
  | some e => e.R
  | none => fun _ _ _ _ _ => False
def Pg.n (p : Pg) (key : Str × Option Str) : Nat := match p.es.find? fun e => decide (e.key = key) with
  | some e => e.ps.length
  | none => 0
def Pg.has (p : Pg) (key : Str × Option Str) : Prop := (p.es.find? fun e => decide (e.key = key)).isSome = true
def Pg.fns (p : Pg) (k : Nat) : Fns where
  fn := fun x => lv (p.sp (x, none)) k
  cn := fun C => mkSp (p.sp (C, some ("__init__" : Str))) (p.n (C, some ("__init__" : Str))) C k
  mt := fun C m => lv (p.sp (C, some m)) k
  gl := p.gl
  fld := fun C f => (C, f) ∈ p.fld
  okf := fun x => p.has (x, none)
  okc := fun C => 0 < k ∧ p.has (C, some ("__init__" : Str))
  okm := fun C m => m ≠ "__init__" ∧ p.has (C, some m)
/-- what is proved of a def -/
structure FeOk (p : Pg) (e : Fe) : Prop where
  bd : ∀ (K : PySem.W.Frag) (f : Addr) (fd : FuncData), FunD K e.d.name e.d.qual e.d.params e.d.body e.d.scope [] [] f fd → L2.Binds K fd e.ps []
  sc : scB e.N e.ps e.d.scope = true
  ck : ckSs e.N e.d.scope e.m e.d.body = true
  ar : ∀ j, arity (e.R j) e.ps.length
  vc : ∀ j xs h Q Xp, e.R j xs h Q Xp → wpSs (p.fns j) e.m (bodyPo Q Xp) (startV e.N xs) h
theorem arity_lv {R : Nat → Spec} {n k : Nat} (h : ∀ j, arity (R j) n) : arity (lv R k) n := fun vs h0 Q Xp ⟨j, _, r⟩ => h j vs h0 Q Xp r
/-- what the head must tell -/
structure Tells (p : Pg) (K : PySem.W.Frag) (mg : Str → Option Value) (G : Cfg) : Prop where
  k : G.K = K
  cad : G.cad = He.ga K
  fad : G.fad = He.ga K
  fe : ∀ e ∈ p.es, ∃ fd, FunD K e.d.name e.d.qual e.d.params e.d.body e.d.scope [] [] (He.fAd K e.key) fd
  g : ∀ e ∈ p.es, e.key.2 = none → mg e.key.1 = some (.ref (He.ga K e.key.1))
  mkr : ∀ e ∈ p.es, e.key.2 = some ("__init__" : Str) → Mk K (He.ga K e.key.1) (He.ma K (He.ga K e.key.1) "__init__") ∧ mg e.key.1 = some (.ref (He.ga K e.key.1))
  mt : ∀ e ∈ p.es, ∀ m, e.key.2 = some m → Cls K (He.ga K e.key.1) ∧ (m ≠ "__init__" → Meth K (He.ga K e.key.1) m (He.ma K (He.ga K e.key.1) m))
  fld : ∀ q ∈ p.fld, Cls K (He.ga K q.1) ∧ NoAttr K (He.ga K q.1) q.2
  gl : ∀ x v, p.gl x = some v → ∃ u vv, mg x = some u ∧ RelV vv u ∧ RepV G noH noC v vv
  bl : ∀ x, x ∈ bnames → mg x = none
theorem has_mem {p : Pg} {key : Str × Option Str} (h : p.has key) : ∃ e ∈ p.es, e.key = key ∧ p.sp key = e.R ∧ p.n key = e.ps.length := by
  unfold Pg.has at h
  cases q : p.es.find? fun e => decide (e.key = key) with
  | none => rw [q] at h; cases h
  | some e =>
    refine ⟨e, List.mem_of_find?_eq_some q, of_decide_eq_true (List.find?_some (p := fun e => decide (Fe.key e = key)) q), ?_, ?_⟩
    · unfold Pg.sp
      rw [q]
    · unfold Pg.n
      rw [q]
theorem tab_all {p : Pg} {P : Program} {w : World} {K : PySem.W.Frag} {mg : Str → Option Value} {base : Heap} {G : Cfg} (t : Tells p K mg G) (ok : ∀ e ∈ p.es, FeOk p e) :
    ∀ k, Tab G (p.fns k) k P w K mg base := by
  intro k
  have fns : ∀ k, (∀ j, j < k → Tab G (p.fns j) j P w K mg base) → ∀ e ∈ p.es, ∀ fd, FunD K e.d.name e.d.qual e.d.params e.d.body e.d.scope [] [] (He.fAd K e.key) fd → FnS P w K mg base k (He.fAd K e.key) fd e.ps (lift G e.ps.length (lv e.R k)) := by
    intro k ih e he fd F
    cases k with
    | zero => exact fn_none fun xs h Q Xp ⟨j, z, _⟩ => by omega
    | succ j =>
      have o := ok e he
      refine fn_sound F (scB_ok o.sc) (ih j (Nat.lt_succ_self _)) o.ck (arity_lv o.ar) fun xs h Q Xp ⟨j', z, r⟩ => ?_
      have e0 : j = j' := by omega
      subst e0
      exact o.vc j xs h Q Xp r
  induction k using Nat.strongRecOn with
  | ind k ih =>
    exact {
      k0 := t.k.symm
      fn := fun x hx => by
        obtain ⟨e, he, ek, es, en⟩ := has_mem hx
        obtain ⟨fd, F⟩ := t.fe e he
        have b := (ok e he).bd K _ fd F
        have hf := fns k ih e he fd F
        have ha : He.fAd K e.key = He.ga K x := by rw [ek]; rfl
        rw [ha] at hf F
        refine ⟨fd, e.ps, ?_, ?_, ?_, ?_, b⟩
        · show FnS P w K mg base k (G.fad x) fd e.ps (lift G e.ps.length (lv (p.sp (x, none)) k))
          rw [t.fad, es]; exact hf
        · show arity (lv (p.sp (x, none)) k) _
          rw [es]; exact arity_lv (ok e he).ar
        · have := t.g e he (congrArg Prod.snd ek)
          rw [ek] at this
          rw [t.fad]; exact this
        · rw [t.fad]; exact F.kp
      cn := fun C hC => by
        obtain ⟨hk, hC⟩ := hC
        obtain ⟨e, he, ek, es, en⟩ := has_mem hC
        obtain ⟨fd, F⟩ := t.fe e he
        have b := (ok e he).bd K _ fd F
        obtain ⟨j, rfl⟩ : ∃ j, k = j + 1 := ⟨k - 1, by omega⟩
        have hf := fns j (fun i hi => ih i (Nat.lt_succ_of_lt hi)) e he fd F
        have ha : He.fAd K e.key = He.ma K (He.ga K C) "__init__" := by rw [ek]; rfl
        rw [ha] at hf F
        obtain ⟨m1, m2⟩ := t.mkr e he (congrArg Prod.snd ek)
        rw [ek] at m1 m2
        refine ⟨_, fd, e.ps, j, rfl, ?_, ?_, b, lv e.R j, hf, ?_⟩
        · rw [t.cad]; exact m1
        · rw [t.cad]; exact m2
        · intro xs h Q Xp hq
          obtain ⟨j', z, hl, hq⟩ := hq
          have e0 : j = j' := by omega
          subst e0
          rw [es] at hq
          rw [en] at hl
          exact ⟨hl, hq⟩
      mt := fun C m hm => by
        obtain ⟨nm, hm⟩ := hm
        obtain ⟨e, he, ek, es, en⟩ := has_mem hm
        obtain ⟨fd, F⟩ := t.fe e he
        have b := (ok e he).bd K _ fd F
        have hf := fns k ih e he fd F
        have ha : He.fAd K e.key = He.ma K (He.ga K C) m := by rw [ek]; rfl
        rw [ha] at hf F
        obtain ⟨m1, m2⟩ := t.mt e he m (congrArg Prod.snd ek)
        rw [ek] at m1 m2
        refine ⟨He.ma K (He.ga K C) m, fd, e.ps, ?_, ?_, ?_, ?_, b⟩
        · show FnS P w K mg base k _ fd e.ps (lift G e.ps.length (lv (p.sp (C, some m)) k))
          rw [es]; exact hf
        · show arity (lv (p.sp (C, some m)) k) _
          rw [es]; exact arity_lv (ok e he).ar
        · rw [t.cad]; exact m1
        · rw [t.cad]; exact m2 nm
      fld := fun C f hf => by
        rw [t.cad]
        exact t.fld (C, f) hf
      gl := t.gl
      bl := t.bl }
end Vc
/-! Vc19: the end of a law. -/
namespace Vc
open PySem L2 PyProof.Rows
theorem to_ok {P : Program} {w : World} {K : PySem.W.Frag} {mg : Str → Option Value} {base : Heap} {f : Addr} {fd : FuncData} {ps : List Str} {sp : Sp} (F : FnS P w K mg base 660 f fd ps sp) :
    FnOk P w K mg base CX0 231 f fd ps (fun vs H Q _ => sp vs H Q fun _ _ _ => False) where
  len := fun vs H Q E h => F.len _ _ _ _ h
  run := fun A outer s H args us vs Q E r e0 hb rv h => by
    have d := r.dp
    have u := r.un
    have rm : Rm 660 A := ⟨r.hd, by unfold recursionLimit at d ⊢; omega, by unfold cLine at u ⊢; omega⟩
    refine codeAny_mono (F.run A outer s H args us vs Q _ rm e0 hb rv h) fun res s' hq => ?_
    cases res with
    | error e =>
      obtain ⟨_, _, _, _, _, _, _, _, _, _, _, _, z⟩ := hq
      exact z.elim
    | ok fl => cases fl <;> exact hq
/-- the promise of a law -/
def lawR (k : Nat) : Nat → Spec := fun j vs h Q _ => k ≤ j ∧ ∃ ns : List Int, vs = [.lst (ns.map .int)] ∧ ns.length ≤ 63 ∧ h = noC ∧ ∀ h', Q (.bl true) h'
theorem rep_ints {G : Cfg} {H : Hp} {h : CH} : ∀ ns : List Int, RepL G H h (ns.map .int) (ns.map V.int)
  | [] => rfl
  | n :: ns => ⟨_, _, rfl, rfl, rep_ints ns⟩
theorem law_sp {G : Cfg} {k : Nat} {H : Hp} {a : Addr} {ns : List Int} (hk : k ≤ 659) (l : ns.length ≤ 63) (s : SqL G.K H a (ns.map V.int)) : lift G 1 (lv (lawR k) 660) [.ref a] H (fun v _ => v = .bl true) fun _ _ _ => False := by
  refine ⟨[.lst (ns.map .int)], noC, fun x _ => x = .bl true, noX, rfl, RepL.cons ⟨a, ns.map V.int, rfl, ?_, rep_ints ns⟩ RepL.nil, (fun a x e => by cases e), ⟨659, rfl, hk, ns, rfl, l, rfl, fun _ => rfl⟩, fun v H' x h' rx _ _ e => ?_, fun C H' h' _ _ q => q.elim⟩
  · rcases s with s | s
    · exact .inl ⟨s, rfl⟩
    · exact .inr (.inr s)
  · subst e
    exact rx
/-- all that a law's row wants -/
theorem law_end {p : Pg} {P : Program} {w : World} {K : PySem.W.Frag} {mg : Str → Option Value} {G : Cfg} {fa : Addr} {k : Nat} {e : Fe} (t : Tells p K mg G) (ok : ∀ e ∈ p.es, FeOk p e) (he : e ∈ p.es) (hk : e.key = (("law" : Str), none)) (hR : e.R = lawR k) (hk9 : k ≤ 659) (hp : e.ps = [("script" : Str)]) (hfa : mg ("law" : Str) = some (.ref fa))
    (hb : ∀ fd, FunD K e.d.name e.d.qual e.d.params e.d.body e.d.scope [] [] (He.fAd K e.key) fd → ∀ (s : Shared) (u : Value), BindsTo s fd ⟨[u], []⟩ [("script", u)]) :
    ∃ (fd : FuncData), (∀ (s : Shared) (u : Value), BindsTo s fd ⟨[u], []⟩ [("script", u)]) ∧ ∀ base : Heap, FnOk P w K mg base CX0 231 fa fd ["script"] (fun vs H Q _ => lift G 1 (lv (lawR k) 660) vs H Q fun _ _ _ => False) := by
  obtain ⟨fd, F⟩ := t.fe e he
  refine ⟨fd, hb fd F, fun base => ?_⟩
  have o := ok e he
  have q : FnS P w K mg base 660 (He.fAd K e.key) fd e.ps (lift G e.ps.length (lv e.R 660)) :=
    fn_sound F (scB_ok o.sc) (tab_all t ok 659) o.ck (arity_lv o.ar) fun xs h Q Xp ⟨j', z, r⟩ => by
      have e0 : 659 = j' := by omega
      subst e0
      exact o.vc 659 xs h Q Xp r
  have ea : He.fAd K e.key = fa := by
    have := t.g e he (by rw [hk])
    rw [hk] at this ⊢
    have e2 := hfa.symm.trans this
    have e3 : Value.ref fa = Value.ref (He.ga K "law") := Option.some.inj e2
    injection e3 with e4
    exact e4.symm
  rw [ea, hp, hR] at q
  exact to_ok q
/-- what the head tells, as the levels want it -/
theorem tells_of {p : Pg} {fa : List He.Fa} {dn : List He.DefD} {K : PySem.W.Frag} {h : Heap} {mg : Str → Option Value} (X : K.In h) (N : h.Ns mainGlobals mg) (c : He.SaysD fa dn K)
    (hd : ∀ e ∈ p.es, e.d ∈ dn ∧ e.d.dfl = [] ∧ e.d.kwd = []) (hg : ∀ e ∈ p.es, He.Fa.glo e.key.1 ∈ fa)
    (hm : ∀ e ∈ p.es, ∀ m, e.key.2 = some m → He.Fa.cls e.key.1 ∈ fa ∧ (m ≠ "__init__" → He.Fa.meth e.key.1 m ∈ fa) ∧ (m = "__init__" → He.Fa.mkr e.key.1 ∈ fa))
    (hf : ∀ q ∈ p.fld, He.Fa.cls q.1 ∈ fa ∧ He.Fa.noat q.1 q.2 ∈ fa) (hb : ∀ x ∈ bnames, He.Fa.free x ∈ fa)
    (gl : ∀ x v, p.gl x = some v → ∃ u vv, mg x = some u ∧ RelV vv u ∧ RepV ⟨K, He.ga K, He.ga K⟩ noH noC v vv) : Tells p K mg ⟨K, He.ga K, He.ga K⟩ where
  k := rfl
  cad := rfl
  fad := rfl
  fe := fun e he => by
    obtain ⟨m, d1, d2⟩ := hd e he
    obtain ⟨fd, F⟩ := He.SaysD.defs c m
    refine ⟨fd, ?_⟩
    have e1 : e.d.dvs K = [] := by unfold He.DefD.dvs; rw [d1]; rfl
    have e2 : e.d.kws K = [] := by unfold He.DefD.kws; rw [d2]; rfl
    rw [e1, e2] at F
    exact F
  g := fun e he _ => He.glo_ok X N (He.SaysD.facts c (hg e he))
  mkr := fun e he k => ⟨He.mkr_ok (He.SaysD.facts c ((hm e he _ k).2.2 rfl)), He.glo_ok X N (He.SaysD.facts c (hg e he))⟩
  mt := fun e he m k => ⟨He.cls_ok (He.SaysD.facts c (hm e he m k).1), fun ne => He.meth_ok (He.SaysD.facts c ((hm e he m k).2.1 ne))⟩
  fld := fun q hq => ⟨He.cls_ok (He.SaysD.facts c (hf q hq).1), He.noat_ok (He.SaysD.facts c (hf q hq).2)⟩
  gl := gl
  bl := fun x hx => He.free_ok X N (He.SaysD.facts c (hb x hx))
end Vc
/-! Vh: helpers for plain values and comprehensions. -/
namespace Vc
open PySem L2
theorem szl {n : Nat} (h : n ≤ 16777216) : n ≤ sizeLine := by rw [sizeLine_eq]; exact h
theorem szlt {n : Nat} (h : n < 16777216) : n < sizeLine := by rw [sizeLine_eq]; exact h
/-! ### plain values -/
theorem layAll_of : ∀ {ds : List PyData}, (∀ d ∈ ds, d.canLay0 = true) → PyData.canLayAll0 ds = true
  | [], _ => by simp [PyData.canLayAll0]
  | d :: ds, h => by
    simp only [PyData.canLayAll0, Bool.and_eq_true]
    exact ⟨h d (List.mem_cons_self ..), layAll_of fun e he => h e (List.mem_cons_of_mem _ he)⟩
theorem depAll_of {k : Nat} : ∀ {ds : List PyData}, (∀ d ∈ ds, d.depth ≤ k) → PyData.depthAll ds ≤ k
  | [], _ => by simp [PyData.depthAll]
  | d :: ds, h => by
    simp only [PyData.depthAll]
    exact Nat.max_le.mpr ⟨h d (List.mem_cons_self ..), depAll_of fun e he => h e (List.mem_cons_of_mem _ he)⟩
/-- a way to lay plain things, by which == tells them apart -/
structure En {α : Type} [DecidableEq α] (f : α → Val) (g : α → PyData) (k : Nat) : Prop where
  dat : ∀ a, (f a).toD = some (g a)
  lay : ∀ a, (g a).canLay0 = true
  dep : ∀ a, (g a).depth ≤ k
  eqv : ∀ a b, PyData.eqv (g a) (g b) = decide (a = b)
theorem datH_of {h : CH} {x : Val} {d : PyData} (e : x.toD = some d) : datH h x = some d := by
  cases x <;> first | exact e | (simp [Val.toD] at e)
section
variable {α β : Type} [DecidableEq α] [DecidableEq β] {f : α → Val} {g : α → PyData} {f' : β → Val} {g' : β → PyData} {k k' : Nat}
theorem En.sh (e : En f g k) (hk : k ≤ 64) (a : α) : SeqAt.shaped (g a) = true := by
  unfold SeqAt.shaped
  rw [e.lay a, Bool.true_and]
  exact decide_eq_true (Nat.le_trans (e.dep a) hk)
theorem toDs_map (hd : ∀ a, (f a).toD = some (g a)) : ∀ l : List α, Val.toDs (l.map f) = some (l.map g)
  | [] => rfl
  | a :: l => by simp only [List.map_cons, Val.toDs, hd a, toDs_map hd l]
theorem eqvAll_map (he : ∀ a b, PyData.eqv (g a) (g b) = decide (a = b)) : ∀ l m : List α, PyData.eqvAll (l.map g) (m.map g) = decide (l = m)
  | [], [] => by
        simp [PyData.eqvAll]
  | [], _ :: _ => by
        simp [PyData.eqvAll]
  | _ :: _, [] => by
        simp [PyData.eqvAll]
  | a :: l, b :: m => by
    simp only [List.map_cons, PyData.eqvAll, he a b, eqvAll_map he l m]
    by_cases h : a = b <;> by_cases h' : l = m <;> simp [h, h']
theorem En.lst (e : En f g k) : En (fun l : List α => .lst (l.map f)) (fun l => .list (l.map g)) (k + 1) where
  dat := fun l => by simp only [Val.toD, toDs_map e.dat l]
  lay := fun l => by
    simp only [PyData.canLay0]
    exact layAll_of fun d hd => by obtain ⟨a, _, rfl⟩ := List.mem_map.mp hd; exact e.lay a
  dep := fun l => by
    simp only [PyData.depth]
    have := depAll_of (k := k) (ds := l.map g) fun d hd => by obtain ⟨a, _, rfl⟩ := List.mem_map.mp hd; exact e.dep a
    omega
  eqv := fun l m => by simp only [PyData.eqv, eqvAll_map e.eqv l m]
theorem En.tups (e : En f g k) : En (fun l : List α => .tup (l.map f)) (fun l => .tuple (l.map g)) (k + 1) where
  dat := fun l => by simp only [Val.toD, toDs_map e.dat l]
  lay := fun l => by
    simp only [PyData.canLay0]
    exact layAll_of fun d hd => by obtain ⟨a, _, rfl⟩ := List.mem_map.mp hd; exact e.lay a
  dep := fun l => by
    simp only [PyData.depth]
    have := depAll_of (k := k) (ds := l.map g) fun d hd => by obtain ⟨a, _, rfl⟩ := List.mem_map.mp hd; exact e.dep a
    omega
  eqv := fun l m => by simp only [PyData.eqv, eqvAll_map e.eqv l m]
theorem En.pair (e : En f g k) (e' : En f' g' k') : En (fun p : α × β => .tup [f p.1, f' p.2]) (fun p => .tuple [g p.1, g' p.2]) (max k k' + 1) where
  dat := fun p => by simp only [Val.toD, Val.toDs, e.dat, e'.dat]
  lay := fun p => by simp [PyData.canLay0, PyData.canLayAll0, e.lay, e'.lay]
  dep := fun p => by
    have h1 := e.dep p.1
    have h2 := e'.dep p.2
    simp
          only [PyData.depth, PyData.depthAll]
    omega
  eqv := fun p q => by
    simp only [PyData.eqv, PyData.eqvAll, e.eqv, e'.eqv]
    obtain ⟨a, b⟩ := p
    obtain ⟨c, d⟩ := q
    by_cases h : a = c <;> by_cases h' : b = d <;> simp [h, h']
theorem eqP_en (e : En f g k) (hk : k ≤ 64) {a b : α} {h : CH} {Q : Bool → Prop} (q : Q (decide (a = b))) : eqP (f a) (f b) h Q :=
  ⟨_, _, datH_of (e.dat a), datH_of (e.dat b), e.sh hk a, e.sh hk b, by rw [e.eqv]; exact q⟩
theorem eqW_of {x y : Val} {h : CH} {Q : Bool → Prop} (q : eqP x y h Q) : eqW x y h Q := by
  constructor
  unfold eqW0
  split
  · obtain ⟨d, _, e, _⟩ := q
    cases e
  · exact q
theorem eqW_en (e : En f g k) (hk : k ≤ 64) {a b : α} {h : CH} {Q : Bool → Prop} (q : Q (decide (a = b))) : eqW (f a) (f b) h Q := eqW_of (eqP_en e hk q)
theorem any_en (e : En f g k) (a : α) : ∀ l : List α, ((l.map g).any fun z => PyData.eqv z (g a)) = decide (a ∈ l)
  | [] => by simp
  | b :: l => by
    simp only [List.map_cons, List.any_cons, any_en e a l, e.eqv]
    by_cases h : b = a
    · simp [h]
    · have h' : ¬ a = b := fun x => h x.symm
      simp [h, h']
theorem inP_en (e : En f g k) (hk : k ≤ 63) {a : α} {l : List α} {h : CH} {Q : Bool → Prop} (q : Q (decide (a ∈ l))) : inP (f a) (.lst (l.map f)) h Q :=
  ⟨.inl ⟨_, e.dat a, e.sh (by omega) a, _, .inl ⟨e.lst.dat l, e.lst.sh (by omega) l⟩, by rw [any_en e a l]; exact q⟩⟩
end
/-! ### numbers, texts -/
def wV (w : Nat) : Val := .int (w : Int)
abbrev lV (l : List Nat) : Val := .lst (l.map wV)
def pV (p : Nat × Nat) : Val := .tup [wV p.1, wV p.2]
theorem en_w : En wV (fun w => .int (w : Int)) 0 where
  dat := fun _ => rfl
  lay := fun _ => by simp only [PyData.canLay0]
  dep := fun _ => by simp [PyData.depth]
  eqv := fun a b => by
    simp only [PyData.eqv]
    by_cases h : a = b
    · simp [h]
    · rw [decide_eq_false h]
      exact beq_eq_false_iff_ne.mpr fun x => h (Int.ofNat_inj.mp x)
theorem en_i : En (fun i : Int => .int i) (fun i => .int i) 0 where
  dat := fun _ => rfl
  lay := fun _ => by simp only [PyData.canLay0]
  dep := fun _ => by simp [PyData.depth]
  eqv := fun a b => by
    simp only [PyData.eqv]
    by_cases h : a = b <;> simp [h]
theorem en_b : En (fun b : Bool => .bl b) (fun i => .bool i) 0 where
  dat := fun _ => rfl
  lay := fun _ => by simp only [PyData.canLay0]
  dep := fun _ => by simp [PyData.depth]
  eqv := fun a b => by
    simp only [PyData.eqv]
    cases a <;> cases b <;> rfl
theorem en_p : En pV (fun p => .tuple [.int (p.1 : Nat), .int (p.2 : Nat)]) 1 := En.pair en_w en_w
theorem inP_w {v : Nat} {l : List Nat} {h : CH} {Q : Bool → Prop} (q : Q (decide (v ∈ l))) : inP (wV v) (lV l) h Q := inP_en en_w (by decide) q
/-- texts that can be laid -/
theorem eqP_str {x y : Str} {h : CH} {Q : Bool → Prop} (hx : PyData.strOk x = true) (hy : PyData.strOk y = true) (q : Q (x == y)) : eqP (.str x) (.str y) h Q :=
  ⟨.str x, .str y, rfl, rfl, by simp [SeqAt.shaped, PyData.canLay0, PyData.depth, hx], by simp [SeqAt.shaped, PyData.canLay0, PyData.depth, hy], by simp only [PyData.eqv]; exact q⟩
theorem eqW_lnil {α : Type} [DecidableEq α] {f : α → Val} {g : α → PyData} {k : Nat} (e : En f g k) (hk : k ≤ 63) {l : List α} {h : CH} {Q : Bool → Prop} (q : Q (decide (l = []))) : eqW (.lst (l.map f)) (.lst []) h Q :=
  eqW_en (a := l) (b := []) e.lst (by omega) q
/-- item by item -/
inductive F2 {α β : Type} (R : α → β → Prop) : List α → List β → Prop
  | nil : F2 R [] []
  | cons {a : α} {b : β} {l : List α} {m : List β} (h : R a b) (t : F2 R l m) : F2 R (a :: l) (b :: m)
theorem F2.length_eq {α β : Type} {R : α → β → Prop} {l : List α} {m : List β} (h : F2 R l m) : l.length = m.length := by
  induction h with
  | nil => rfl
  | cons _ _ ih => simp [ih]
theorem F2.append {α β : Type} {R : α → β → Prop} {l l' : List α} {m m' : List β} (h : F2 R l m) (h' : F2 R l' m') : F2 R (l ++ l') (m ++ m') := by
  induction h with
  | nil => exact h'
  | cons a _ ih => exact .cons a ih
/-! ### loops -/
theorem goL_pre {α β : Type} {stb : CH → Prop} {f : Val → CH → α → (α → CH → Prop) → Prop} {enc : β → Val} {l : List β} {h : CH} {acc : α} {Q : α → CH → Prop} (I : List β → CH → α → Prop)
    (h0 : I [] h acc) (hs : ∀ d h a, I d h a → stb h) (st : ∀ d x r h a K, d ++ x :: r = l → I d h a → (∀ a' h', I (d ++ [x]) h' a' → K a' h') → f (enc x) h a K)
    (en : ∀ h a, I l h a → Q a h) : goL stb f (l.map enc) h acc Q := by
  suffices H : ∀ (r d : List β) (h : CH) (a : α), d ++ r = l → I d h a → goL stb f (r.map enc) h a Q from H l [] h acc rfl h0
  intro r
  induction r with
  | nil =>
    intro d h a e i
    rw [List.append_nil] at e
    subst e
    exact ⟨hs _ _ _ i, en _ _ i⟩
  | cons x r ih =>
    intro d h a e i
    refine ⟨hs _ _ _ i, st d x r h a _ e i fun a' h' i' => ih (d ++ [x]) h' a' ?_ i'⟩
    rw [List.append_assoc]
    exact e
theorem goL_map {α β : Type} {f : Val → CH → α → (α → CH → Prop) → Prop} {enc : β → Val} {l : List β} {h : CH} {acc : α} {Q : α → CH → Prop} (I : List β → CH → α → Prop)
    (h0 : I [] h acc) (st : ∀ d x r h a K, d ++ x :: r = l → I d h a → (∀ a' h', I (d ++ [x]) h' a' → K a' h') → f (enc x) h a K)
    (en : ∀ h a, I l h a → Q a h) : goL always f (l.map enc) h acc Q := goL_pre I h0 (fun _ _ _ _ => trivial) st en
theorem del_set {h : CH} {D : Addr} {x : Val} (n : h D = none) : (h.set D x).del D = h := CH.del_set n
section
variable {Γ : Fns} {own : List Nat} {t : Tg} {it : I} {c : Cs} {e : E} {ρ : Env} {h : CH} {Q : VP} {X : XP}
/-- a list comprehension that only reads -/
theorem wp_lc {β : Type} (l : List β) (enc : β → Val) (p : β → Bool) (g : β → Val) (hl : l.length ≤ 16777216)
    (hi : ∀ K : List Val → (CH → Prop) → CH → Prop, K (l.map enc) always h → wpI Γ it ρ h K X)
    (hb : ∀ x ∈ l, ∀ D, h D = none → ∀ (A : List Val) (K : List Val → CH → Prop), A.length < sizeLine → (p x = true → K (A ++ [g x]) (h.set D junk)) → (p x = false → K A (h.set D junk)) →
      setT t (enc x) (wipe own ρ) fun ρ' => wpCs Γ c ρ' (h.set D junk) fun b h' => (b = true → wpCl Γ (.el e) ρ' h' A K) ∧ (b = false → K A h'))
    (q : Q (.lst ((l.filter p).map g)) h) : wpE Γ (.lc false own t it c (.el e)) ρ h Q X := by
  refine hi _ fun D hD => ?_
  refine goL_map (fun d h' a => h' = h.set D junk ∧ a = (d.filter p).map g) ⟨rfl, rfl⟩ (fun d x r h' a K el i k => ?_) fun h' a i => ?_
  · obtain ⟨rfl, rfl⟩ := i
    have hx : x ∈ l := by rw [← el]; exact List.mem_append_right _ (List.mem_cons_self ..)
    have ll : ((d.filter p).map g).length < sizeLine := by
      refine szlt ?_
      rw [List.length_map]
      have h1 := List.length_filter_le p d
      have h2 : l.length = d.length + (r.length + 1) := by rw [← el, List.length_append, List.length_cons]
      omega
    refine hb x hx D hD _ _ ll (fun px => k _ _ ⟨rfl, ?_⟩) fun px => k _ _ ⟨rfl, ?_⟩
    · rw [List.filter_append, List.map_append, List.filter_cons_of_pos px]; rfl
    · rw [List.filter_append, List.filter_cons_of_neg (by rw [px]; decide)]; simp
  · obtain ⟨rfl, rfl⟩ := i
    show Q (.lst _) (CH.del _ D)
    rw [del_set hD]
    exact q
/-- more may stand there -/
def Ext (h h' : CH) : Prop := ∀ b, h b ≠ none → h' b = h b
/-- a list comprehension of which each item is only told, more and more standing there -/
theorem wp_lcx {β : Type} (l : List β) (enc : β → Val) (R : β → Val → Prop) (hl : l.length ≤ 16777216)
    (hi : ∀ K : List Val → (CH → Prop) → CH → Prop, K (l.map enc) always h → wpI Γ it ρ h K X)
    (hb : ∀ x ∈ l, ∀ h', Ext h h' → ∀ (A : List Val) (K : List Val → CH → Prop), A.length < sizeLine → (∀ y h'', Ext h' h'' → R x y → K (A ++ [y]) h'') →
      setT t (enc x) (wipe own ρ) fun ρ' => wpCs Γ c ρ' h' fun b h'' => (b = true → wpCl Γ (.el e) ρ' h'' A K) ∧ (b = false → K A h''))
    (q : ∀ (ys : List Val) h', Ext h h' → F2 R l ys → Q (.lst ys) h') : wpE Γ (.lc false own t it c (.el e)) ρ h Q X := by
  refine hi _ fun D hD => ?_
  refine goL_map (fun d h' a => Ext (h.set D junk) h' ∧ F2 R d a) ⟨fun _ _ => rfl, .nil⟩ (fun d x r h' a K el i k => ?_) fun h' a i => ?_
  · obtain ⟨ex, i⟩ := i
    have hx : x ∈ l := by rw [← el]; exact List.mem_append_right _ (List.mem_cons_self ..)
    have ll : a.length < sizeLine := by
      refine szlt ?_
      have h1 := i.length_eq
      have h2 : l.length = d.length + (r.length + 1) := by rw [← el, List.length_append, List.length_cons]
      omega
    have ex2 : Ext h h' := fun b hb => by
      have ne : b ≠ D := fun e => hb (by rw [e]; exact hD)
      have e1 : (h.set D junk) b = h b := CH.set_ne ne
      rw [ex b (by rw [e1]; exact hb), e1]
    exact hb x hx h' ex2 _ _ ll fun y h'' e2 ry => k _ _ ⟨fun b hb => by rw [e2 b (by rw [ex b hb]; exact hb), ex b hb], i.append (.cons ry .nil)⟩
  · obtain ⟨ex, i⟩ := i
    refine q _ _ (fun b hb => ?_) i
    have ne : b ≠ D := fun e => hb (by rw [e]; exact hD)
    have e1 : (h.set D junk) b = h b := CH.set_ne ne
    show (CH.del _ D) b = h b
    rw [CH.del_ne ne, ex b (by rw [e1]; exact hb), e1]
/-- a list comprehension with two walks -/
theorem wp_lc2 {β γ : Type} {i k : Nat} {it2 : I} {c2 : Cs} (l : List β) (enc : β → Val) (m : List γ) (enc2 : γ → Val) (p : β → γ → Bool) (f : β → γ → Val) (hl : l.length * m.length ≤ 16777215)
    (hi : ∀ K : List Val → (CH → Prop) → CH → Prop, K (l.map enc) always h → wpI Γ it ρ h K X)
    (hi2 : ∀ x ∈ l, ∀ D, h D = none → ∀ K : List Val → (CH → Prop) → CH → Prop, K (m.map enc2) always (h.set D junk) → wpI Γ it2 ((wipe own ρ).set i (some (enc x))) (h.set D junk) K noX)
    (hb : ∀ x ∈ l, ∀ y ∈ m, ∀ D, h D = none → ∀ (A : List Val) (K : List Val → CH → Prop), A.length < sizeLine → (p x y = true → K (A ++ [f x y]) (h.set D junk)) → (p x y = false → K A (h.set D junk)) →
      wpCs Γ c2 ((wipe [k] ((wipe own ρ).set i (some (enc x)))).set k (some (enc2 y))) (h.set D junk) fun b h' => (b = true → wpCl Γ (.el e) ((wipe [k] ((wipe own ρ).set i (some (enc x)))).set k (some (enc2 y))) h' A K) ∧ (b = false → K A h'))
    (q : Q (.lst (l.flatMap fun x => (m.filter (p x)).map (f x))) h) : wpE Γ (.lc false own (.nm i) it .nil (.fo (.nm k) it2 c2 (.el e))) ρ h Q X := by
  have len : ∀ d : List β, (d.flatMap fun x => (m.filter (p x)).map (f x)).length ≤ d.length * m.length := by
    intro d
    induction d with
    | nil => simp
    | cons x d ih =>
      rw [List.flatMap_cons, List.length_append, List.length_map, List.length_cons, Nat.add_mul]
      have := List.length_filter_le (p x) m
      omega
  refine hi _ fun D hD => ?_
  refine goL_map (fun d h' a => h' = h.set D junk ∧ a = d.flatMap fun x => (m.filter (p x)).map (f x)) ⟨rfl, rfl⟩ (fun d x r h' a K el i k => ?_) fun h' a i => ?_
  · obtain ⟨rfl, rfl⟩ := i
    have hx : x ∈ l := by rw [← el]; exact List.mem_append_right _ (List.mem_cons_self ..)
    refine ⟨fun _ => hi2 x hx D hD _ ?_, fun e => nomatch e⟩
    refine goL_map (fun d2 h' a => h' = h.set D junk ∧ a = (d.flatMap fun x => (m.filter (p x)).map (f x)) ++ (d2.filter (p x)).map (f x)) ⟨rfl, by simp⟩ (fun d2 y r2 h' a K2 el2 i k2 => ?_) fun h' a i => ?_
    · obtain ⟨rfl, rfl⟩ := i
      have hy : y ∈ m := by rw [← el2]; exact List.mem_append_right _ (List.mem_cons_self ..)
      refine hb x hx y hy D hD _ _ ?_ (fun px => k2 _ _ ⟨rfl, ?_⟩) fun px => k2 _ _ ⟨rfl, ?_⟩
      · refine szlt ?_
        rw [List.length_append, List.length_map]
        have h1 := len d
        have h2 := List.length_filter_le (p x) d2
        have h3 : m.length = d2.length + (r2.length + 1) := by rw [← el2, List.length_append, List.length_cons]
        have h4 : l.length = d.length + (r.length + 1) := by rw [← el, List.length_append, List.length_cons]
        have h5 : d.length * m.length + m.length ≤ l.length * m.length := by
          rw [h4, ← Nat.succ_mul]
          exact
                Nat.mul_le_mul_right _ (by omega)
        omega
      · rw [List.filter_append, List.map_append, List.filter_cons_of_pos px, List.append_assoc]; rfl
      · rw [List.filter_append, List.filter_cons_of_neg (by rw [px]; decide)]; simp
    · obtain ⟨rfl, rfl⟩ := i
      refine k _ _ ⟨rfl, ?_⟩
      rw [List.flatMap_append]
      simp
  · obtain ⟨rfl, rfl⟩ := i
    show Q (.lst _) (CH.del _ D)
    rw [del_set hD]
    exact q
end
/-! ### sorting -/
theorem lt_eq : ∀ {l m : List Int}, l.Pairwise (· < ·) → m.Pairwise (· < ·) → (∀ i, i ∈ l ↔ i ∈ m) → l = m
  | [], [], _, _, _ => rfl
  | [], b :: m, _, _, h => by have := (h b).mpr (List.mem_cons_self ..); cases this
  | a :: l, [], _, _, h => by have := (h a).mp (List.mem_cons_self ..); cases this
  | a :: l, b :: m, hl, hm, h => by
    rw [List.pairwise_cons] at hl hm
    have e : a = b := by
      have h1 := (h a).mp (List.mem_cons_self ..)
      have h2 := (h b).mpr (List.mem_cons_self ..)
      rcases List.mem_cons.mp h1 with h1 | h1
      · exact h1
      · rcases List.mem_cons.mp h2 with h2 | h2
        · exact h2.symm
        · have := hl.1 b h2
          have := hm.1 a h1
          omega
    subst e
    refine congrArg _ (lt_eq hl.2 hm.2 fun i => ⟨fun hi => ?_, fun hi => ?_⟩)
    · rcases List.mem_cons.mp ((h i).mp (List.mem_cons_of_mem _ hi)) with e | e
      · have := hl.1 i hi; omega
      · exact e
    · rcases List.mem_cons.mp ((h i).mpr (List.mem_cons_of_mem _ hi)) with e | e
      · have := hm.1 i hi; omega
      · exact e
theorem lex_irrefl {p : Int × Int} : ¬ lexlt p p := by unfold lexlt; omega
theorem lex_asymm {p q : Int × Int} (h : lexlt p q) : ¬ lexlt q p := by unfold lexlt at *; omega
theorem plt_eq : ∀ {l m : List (Int × Int)}, l.Pairwise lexlt → m.Pairwise lexlt → (∀ i, i ∈ l ↔ i ∈ m) → l = m
  | [], [], _, _, _ => rfl
  | [], b :: m, _, _, h => by have := (h b).mpr (List.mem_cons_self ..); cases this
  | a :: l, [], _, _, h => by have := (h a).mp (List.mem_cons_self ..); cases this
  | a :: l, b :: m, hl, hm, h => by
    rw [List.pairwise_cons] at hl hm
    have e : a = b := by
      have h1 := (h a).mp (List.mem_cons_self ..)
      have h2 := (h b).mpr (List.mem_cons_self ..)
      rcases List.mem_cons.mp h1 with h1 | h1
      · exact h1
      · rcases List.mem_cons.mp h2 with h2 | h2
        · exact h2.symm
        · exact (lex_asymm (hl.1 b h2) (hm.1 a h1)).elim
    subst e
    refine congrArg _ (plt_eq hl.2 hm.2 fun i => ⟨fun hi => ?_, fun hi => ?_⟩)
    · rcases List.mem_cons.mp ((h i).mp (List.mem_cons_of_mem _ hi)) with e | e
      · subst e; exact (lex_irrefl (hl.1 _ hi)).elim
      · exact e
    · rcases List.mem_cons.mp ((h i).mpr (List.mem_cons_of_mem _ hi)) with e | e
      · subst e; exact (lex_irrefl (hm.1 _ hi)).elim
      · exact e
theorem ple_eq : ∀ {l m : List (Int × Int)}, l.Pairwise lexle → m.Pairwise lexle → l.Perm m → l = m
  | [], m, _, _, h => (List.nil_perm.mp h).symm
  | a :: l, [], _, _, h => by cases (List.perm_nil.mp h)
  | a :: l, b :: m, hl, hm, h => by
    rw [List.pairwise_cons] at hl hm
    have e : a = b := by
      have h1 := h.mem_iff.mp (List.mem_cons_self (a := a) (l := l))
      have h2 := h.mem_iff.mpr (List.mem_cons_self (a := b) (l := m))
      rcases List.mem_cons.mp h1 with h1 | h1
      · exact h1
      · rcases List.mem_cons.mp h2 with h2 | h2
        · exact h2.symm
        · have x := hl.1 b h2
          have y := hm.1 a h1
          unfold lexle at x y
          exact Prod.ext (by omega) (by omega)
    subst e
    exact congrArg _ (ple_eq hl.2 hm.2 (List.Perm.cons_inv h))
theorem le_eq : ∀ {l m : List Int}, l.Pairwise (· ≤ ·) → m.Pairwise (· ≤ ·) → l.Perm m → l = m
  | [], m, _, _, h => (List.nil_perm.mp h).symm
  | a :: l, [], _, _, h => by cases (List.perm_nil.mp h)
  | a :: l, b :: m, hl, hm, h => by
    rw [List.pairwise_cons] at hl hm
    have e : a = b := by
      have h1 := h.mem_iff.mp (List.mem_cons_self (a := a) (l := l))
      have h2 := h.mem_iff.mpr (List.mem_cons_self (a := b) (l := m))
      rcases List.mem_cons.mp h1 with h1 | h1
      · exact h1
      · rcases List.mem_cons.mp h2 with h2 | h2
        · exact h2.symm
        · have x := hl.1 b h2
          have y := hm.1 a h1
          omega
    subst e
    exact congrArg _ (le_eq hl.2 hm.2 (List.Perm.cons_inv h))
theorem intsOf_w : ∀ l : List Nat, intsOf (l.map wV) = some (l.map fun w : Nat => (w : Int))
  | [] => rfl
  | a :: l => by
    show (match intsOf (l.map wV) with | some l => some ((a : Int) :: l) | none => none) = _
    rw [intsOf_w l]; rfl
theorem intsOf_i : ∀ l : List Int, intsOf (l.map .int) = some l
  | [] => rfl
  | a :: l => by
    show (match intsOf (l.map .int) with | some l => some (a :: l) | none => none) = _
    rw [intsOf_i l]
theorem pairsOf_p : ∀ l : List (Nat × Nat), pairsOf (l.map pV) = some (l.map fun p => ((p.1 : Int), (p.2 : Int)))
  | [] => rfl
  | a :: l => by
    simp only [List.map_cons, pairsOf, pairsOf_p l]
    rfl
theorem map_wV (l : List Nat) : (l.map fun w : Nat => (w : Int)).map Val.int = l.map wV := by rw [List.map_map]; rfl
theorem map_pV (l : List (Nat × Nat)) : (l.map fun p => ((p.1 : Int), (p.2 : Int))).map pairV = l.map pV := by rw [List.map_map]; rfl
/-! ### one step -/
section
variable {Γ : Fns} {ρ : Env} {h : CH} {Q : VP} {X : XP} {D : Po} {r : List S}
theorem w_nil (q : D.nx ρ h) : wpSs Γ [] D ρ h := q
theorem w_set {i : Nat} {e : E} (q : wpE Γ e ρ h (fun x h' => wpSs Γ r D (ρ.set i (some x)) h') fun C h' => D.ex C ρ h') : wpSs Γ (.set i e :: r) D ρ h := q
theorem w_ret {e : E} (q : wpE Γ e ρ h D.rt fun C h' => D.ex C ρ h') : wpSs Γ (.ret e :: r) D ρ h := q
theorem w_ite {c : E} {a b : List S} (q : wpE Γ c ρ h (fun x h' => branch x (wpSs Γ a { D with nx := wpSs Γ r D } ρ h') (wpSs Γ b { D with nx := wpSs Γ r D } ρ h')) fun C h' => D.ex C ρ h') : wpSs Γ (.ite c a b :: r) D ρ h := q
theorem w_sub {o k e : E} (q : wpE Γ e ρ h (fun x h1 => wpE Γ o ρ h1 (fun y h2 => wpE Γ k ρ h2 (fun z h3 => subV y z x h3 fun h4 => wpSs Γ r D ρ h4) fun C h' => D.ex C ρ h') fun C h' => D.ex C ρ h') fun C h' => D.ex C ρ h') : wpSs Γ (.sub o k e :: r) D ρ h := q
theorem w_es0 {K : List Val → CH → Prop} (q : K [] h) : wpEs Γ .nil ρ h K X := q
theorem w_bin {o : Operator} {a b : E} (q : wpE Γ a ρ h (fun x h1 => wpE Γ b ρ h1 (fun y h2 => opV o x y h2 Q) X) X) : wpE Γ (.bin o a b) ρ h Q X := q
theorem w_cmp {o : CmpOp} {a b : E} (q : wpE Γ a ρ h (fun x h1 => wpE Γ b ρ h1 (fun y h2 => cmpV o x y h2 Q) X) X) : wpE Γ (.cmp o a b) ρ h Q X := q
theorem w_bm {o : E} {m : Bm} {es : Es} (q : wpE Γ o ρ h (fun x h1 => bmT m h1 x ∧ wpEs Γ es ρ h1 (fun vs h2 => bmV m x vs h2 Q) X) X) : wpE Γ (.bm o m es) ρ h Q X := q
theorem w_ix {a i : E} (q : wpE Γ a ρ h (fun x h1 => wpE Γ i ρ h1 (fun y h2 => ixV x y h2 Q) X) X) : wpE Γ (.ix a i) ρ h Q X := q
theorem w_and {a b : E} (q : wpE Γ a ρ h (fun x h1 => branch x (wpE Γ b ρ h1 Q X) (Q (.bl false) h1)) X) : wpE Γ (.and a b) ρ h Q X := q
theorem w_or {a b : E} (q : wpE Γ a ρ h (fun x h1 => branch x (Q (.bl true) h1) (wpE Γ b ρ h1 Q X)) X) : wpE Γ (.or a b) ρ h Q X := q
theorem w_not {a : E} (q : wpE Γ a ρ h (fun x h1 => ∃ b, x = .bl b ∧ Q (.bl (!b)) h1) X) : wpE Γ (.not a) ρ h Q X := q
theorem w_blt {b : Bi} {es : Es} (q : wpEs Γ es ρ h (fun vs h1 => bltV b vs h1 Q) X) : wpE Γ (.blt b es) ρ h Q X := q
theorem w_xf {i : Nat} {es : Es} (q : wpEs Γ es ρ h (fun vs h1 => xop i vs h1 Q) X) : wpE Γ (.xf i es) ρ h Q X := q
theorem w_es {e : E} {es : Es} {K : List Val → CH → Prop} (q : wpE Γ e ρ h (fun x h1 => wpEs Γ es ρ h1 (fun xs h2 => K (x :: xs) h2) X) X) : wpEs Γ (.cons e es) ρ h K X := q
theorem w_call {f : Str} {es : Es} (o : Γ.okf f) (q : wpEs Γ es ρ h (fun vs h1 => Γ.fn f vs h1 Q X) X) : wpE Γ (.call f es) ρ h Q X := ⟨o, q⟩
theorem w_sq {e : E} {K : List Val → (CH → Prop) → CH → Prop} (q : wpE Γ e ρ h (fun x h1 => itV x h1 fun xs stb => K xs stb h1) X) : wpI Γ (.sq e) ρ h K X := q
theorem w_nm {i : Nat} {x : Val} {P : Env → Prop} (q : P (ρ.set i (some x))) : setT (.nm i) x ρ P := q
theorem w_if1 {c : E} {K : Bool → CH → Prop} (q : wpE Γ c ρ h (fun x h1 => branch x (K true h1) (K false h1)) noX) : wpCs Γ (.cons c .nil) ρ h K := q
theorem w_for {t : Tg} {it : I} {b : List S} (q : wpI Γ it ρ h (fun xs stb h1 => goL stb (fun x h ρ K => setT t x ρ fun ρ' => wpSs Γ b { D with nx := K, ct := K, bk := wpSs Γ r D, ex := fun C ρ h => noLock it = true ∧ D.ex C ρ h } ρ' h) xs h1 ρ (wpSs Γ r D)) fun C h' => D.ex C ρ h') : wpSs Γ (.for_ t it b :: r) D ρ h := q
end
end Vc
/-! Vi: what the head tells, checked at one stroke. -/
namespace Vc
open PySem L2 PyProof.Rows
def gloOf : He.Fa → Option Str
  | .glo x => some x
  | _ => none
def clsOf : He.Fa → Option Str
  | .cls x => some x
  | _ => none
def mkrOf : He.Fa → Option Str
  | .mkr x => some x
  | _ => none
def freeOf : He.Fa → Option Str
  | .free x => some x
  | _ => none
def methOf : He.Fa → Option (Str × Str)
  | .meth x y => some (x, y)
  | _ => none
def noatOf : He.Fa → Option (Str × Str)
  | .noat x y => some (x, y)
  | _ => none
section
variable {fa : List He.Fa}
theorem glo_in {x : Str} (h : x ∈ fa.filterMap gloOf) : He.Fa.glo x ∈ fa := by
  obtain ⟨f, m, e⟩ := List.mem_filterMap.mp h
  cases f <;> simp [gloOf] at e
  subst e; exact m
theorem cls_in {x : Str} (h : x ∈ fa.filterMap clsOf) : He.Fa.cls x ∈ fa := by
  obtain ⟨f, m, e⟩ := List.mem_filterMap.mp h
  cases f <;> simp [clsOf] at e
  subst e; exact m
theorem mkr_in {x : Str} (h : x ∈ fa.filterMap mkrOf) : He.Fa.mkr x ∈ fa := by
  obtain ⟨f, m, e⟩ := List.mem_filterMap.mp h
  cases f <;> simp [mkrOf] at e
  subst e; exact m
theorem free_in {x : Str} (h : x ∈ fa.filterMap freeOf) : He.Fa.free x ∈ fa := by
  obtain ⟨f, m, e⟩ := List.mem_filterMap.mp h
  cases f <;> simp [freeOf] at e
  subst e; exact m
theorem meth_in {x y : Str} (h : (x, y) ∈ fa.filterMap methOf) : He.Fa.meth x y ∈ fa := by
  obtain ⟨f, m, e⟩ := List.mem_filterMap.mp h
  cases f <;> simp [methOf] at e
  obtain ⟨rfl, rfl⟩ := e; exact m
theorem noat_in {x y : Str} (h : (x, y) ∈ fa.filterMap noatOf) : He.Fa.noat x y ∈ fa := by
  obtain ⟨f, m, e⟩ := List.mem_filterMap.mp h
  cases f <;> simp [noatOf] at e
  obtain ⟨rfl, rfl⟩ := e; exact m
def methB (fa : List He.Fa) (k : Str × Option Str) : Bool := match k.2 with
  | none => true
  | some m => decide (k.1 ∈ fa.filterMap clsOf) && (if m = "__init__" then decide (k.1 ∈ fa.filterMap mkrOf) else decide ((k.1, m) ∈ fa.filterMap methOf))
def factsB (fa : List He.Fa) (ks : List (Str × Option Str)) (fl : List (Str × Str)) : Bool :=
  (ks.all fun k => decide (k.1 ∈ fa.filterMap gloOf) && methB fa k) && ((fl.all fun q => decide (q.1 ∈ fa.filterMap clsOf) && decide (q ∈ fa.filterMap noatOf)) && bnames.all fun x => decide (x ∈ fa.filterMap freeOf))
theorem factsB_ok {ks : List (Str × Option Str)} {fl : List (Str × Str)} (h : factsB fa ks fl = true) :
    (∀ k ∈ ks, He.Fa.glo k.1 ∈ fa) ∧ (∀ k ∈ ks, ∀ m, k.2 = some m → He.Fa.cls k.1 ∈ fa ∧ (m ≠ "__init__" → He.Fa.meth k.1 m ∈ fa) ∧ (m = "__init__" → He.Fa.mkr k.1 ∈ fa)) ∧ (∀ q ∈ fl, He.Fa.cls q.1 ∈ fa ∧ He.Fa.noat q.1 q.2 ∈ fa) ∧ ∀ x ∈ bnames, He.Fa.free x ∈ fa := by
  unfold factsB at h
  rw [Bool.and_eq_true, Bool.and_eq_true, List.all_eq_true, List.all_eq_true, List.all_eq_true] at h
  obtain ⟨h1, h2, h3⟩ := h
  refine ⟨fun k hk => ?_, fun k hk m e => ?_, fun q hq => ?_, fun x hx => free_in (of_decide_eq_true (h3 x hx))⟩
  · have := h1 k hk
    rw [Bool.and_eq_true] at this
    exact glo_in (of_decide_eq_true this.1)
  · have := h1 k hk
    rw [Bool.and_eq_true] at this
    have t := this.2
    unfold methB at t
    rw [e] at t
    have t : (decide (k.1 ∈ fa.filterMap clsOf) && (if m = "__init__" then decide (k.1 ∈ fa.filterMap mkrOf) else decide ((k.1, m) ∈ fa.filterMap methOf))) = true := t
    rw [Bool.and_eq_true] at t
    refine ⟨cls_in (of_decide_eq_true t.1), fun ne => ?_, fun ee => ?_⟩
    · have t2 := t.2
      rw [if_neg ne] at t2
      exact meth_in (of_decide_eq_true t2)
    · have t2 := t.2
      rw [if_pos ee] at t2
      exact mkr_in (of_decide_eq_true t2)
  · have := h2 q hq
    rw [Bool.and_eq_true] at this
    exact ⟨cls_in (of_decide_eq_true this.1), noat_in (of_decide_eq_true this.2)⟩
end
/-- what the head tells, by one check -/
theorem tells_ok {p : Pg} {fa : List He.Fa} {dn : List He.DefD} {K : PySem.W.Frag} {h : Heap} {mg : Str → Option Value} (X : K.In h) (N : h.Ns mainGlobals mg) (c : He.SaysD fa dn K)
    (hd : p.es.map (·.d) = dn) (hn : ∀ d ∈ dn, d.dfl = [] ∧ d.kwd = []) (hf : factsB fa (p.es.map Fe.key) p.fld = true)
    (gl : ∀ x v, p.gl x = some v → ∃ u vv, mg x = some u ∧ RelV vv u ∧ RepV ⟨K, He.ga K, He.ga K⟩ noH noC v vv) : Tells p K mg ⟨K, He.ga K, He.ga K⟩ := by
  obtain ⟨f1, f2, f3, f4⟩ := factsB_ok hf
  refine tells_of X N c (fun e he => ?_) (fun e he => f1 _ (List.mem_map.mpr ⟨e, he, rfl⟩)) (fun e he m k => f2 _ (List.mem_map.mpr ⟨e, he, rfl⟩) m k) f3 f4 gl
  have m : e.d ∈ dn := by rw [← hd]; exact List.mem_map.mpr ⟨e, he, rfl⟩
  exact ⟨m, hn _ m⟩
end Vc
namespace K94
open PySem
/-! P94: models, truth, rounds, as plain things. -/
inductive F where
  | var (x : Str) | fls | imp (a b : F) | con (a b : F) | dis (a b : F) | box (a : F)
def F.ht : F → Nat
  | .var _ => 0
  | .fls => 0
  | .imp a b => max a.ht b.ht + 1
  | .con a b => max a.ht b.ht + 1
  | .dis a b => max a.ht b.ht + 1
  | .box a => a.ht + 1
structure Mo where
  n : Nat
  ps : List (Nat × Nat)
  vs : List (Str × List Nat)
def Mo.see (M : Mo) (v : Nat) : List Nat := (M.ps.filter fun p => decide (p.1 = v)).map (·.2)
def look (vs : List (Str × List Nat)) (x : Str) : Option (List Nat) := (vs.find? fun p => decide (p.1 = x)).map (·.2)
def Mo.val (M : Mo) (x : Str) : List Nat := (look M.vs x).getD []
def sat (M : Mo) : F → Nat → Bool
  | .var x, v => decide (v ∈ M.val x)
  | .fls, _ => false
  | .imp a b, v => !sat M a v || sat M b v
  | .con a b, v => sat M a v && sat M b v
  | .dis a b, v => sat M a v || sat M b v
  | .box a, v => (M.see v).all fun w => sat M a w
def ev (M : Mo) : F → List Nat
  | .var x => M.val x
  | .fls => []
  | .imp a b => (List.range M.n).filter fun v => decide (¬ v ∈ ev M a) || decide (v ∈ ev M b)
  | .con a b => (ev M a).filter fun v => decide (v ∈ ev M b)
  | .dis a b => (List.range M.n).filter fun v => decide (v ∈ ev M a) || decide (v ∈ ev M b)
  | .box a => (List.range M.n).filter fun v => decide ((M.see v).filter (fun w => decide (¬ w ∈ ev M a)) = [])
theorem mem_see {M : Mo} {v w : Nat} : w ∈ M.see v ↔ (v, w) ∈ M.ps := by
  unfold Mo.see
  constructor
  · intro h
    obtain ⟨⟨a, b⟩, hp, rfl⟩ := List.mem_map.mp h
    obtain ⟨h1, h2⟩ := List.mem_filter.mp hp
    have e : a = v := of_decide_eq_true h2
    subst e
    exact h1
  · intro h
    exact List.mem_map.mpr ⟨(v, w), List.mem_filter.mpr ⟨h, by simp⟩, rfl⟩
structure Mo.Ok (M : Mo) : Prop where
  n0 : 1 ≤ M.n
  n1 : M.n ≤ 9
  ps : ∀ p ∈ M.ps, p.1 < M.n ∧ p.2 < M.n
  pl : M.ps.length ≤ 60
  vl : ∀ x, ∀ w ∈ M.val x, w < M.n
theorem see_lt {M : Mo} (o : M.Ok) {v w : Nat} (h : w ∈ M.see v) : w < M.n := (o.ps _ (mem_see.mp h)).2
theorem mem_ev {M : Mo} (o : M.Ok) : ∀ (a : F) (v : Nat), v ∈ ev M a ↔ v < M.n ∧ sat M a v = true
  | .var x, v => by
    simp only [ev, sat, decide_eq_true_eq]
    exact ⟨fun h => ⟨o.vl x v h, h⟩, fun h => h.2⟩
  | .fls, v => by simp [ev, sat]
  | .imp a b, v => by
    simp only [ev, sat, List.mem_filter, List.mem_range, Bool.or_eq_true, decide_eq_true_eq, Bool.not_eq_true', mem_ev o a, mem_ev o b]
    constructor
    · rintro ⟨h, q⟩
      refine ⟨h, ?_⟩
      rcases q with q | q
      · cases c : sat M a v with
        | false => exact .inl rfl
        | true => exact (q ⟨h, c⟩).elim
      · exact .inr q.2
    · rintro ⟨h, q⟩
      refine ⟨h, ?_⟩
      rcases q with q | q
      · exact .inl fun x => by rw [q] at x; cases x.2
      · exact .inr ⟨h, q⟩
  | .con a b, v => by
    simp only [ev, sat, List.mem_filter, Bool.and_eq_true, decide_eq_true_eq, mem_ev o a, mem_ev o b]
    exact ⟨fun ⟨⟨h, p⟩, _, q⟩ => ⟨h, p, q⟩, fun ⟨h, p, q⟩ => ⟨⟨h, p⟩, h, q⟩⟩
  | .dis a b, v => by
    simp only [ev, sat, List.mem_filter, List.mem_range, Bool.or_eq_true, decide_eq_true_eq, mem_ev o a, mem_ev o b]
    exact ⟨fun ⟨h, q⟩ => ⟨h, q.imp (·.2) (·.2)⟩, fun ⟨h, q⟩ => ⟨h, q.imp (⟨h, ·⟩) (⟨h, ·⟩)⟩⟩
  | .box a, v => by
    simp only [ev, sat, List.mem_filter, List.mem_range, decide_eq_true_eq, List.filter_eq_nil_iff, mem_ev o a, List.all_eq_true]
    refine and_congr_right fun h => ⟨fun q w hw => ?_, fun q w hw => ?_⟩
    · have := q w hw
      have l := see_lt o hw
      cases c : sat M a w with
      | true => rfl
      | false => exact (this fun z => by rw [c] at z; cases z.2).elim
    · exact fun z => z ⟨see_lt o hw, q w hw⟩
/-! ### names at a world, rounds -/
def na (M : Mo) (v : Nat) : List Str := (M.vs.map (·.1)).filter fun x => decide (v ∈ M.val x)
def D (A B : Mo) : Nat → Nat → Nat → Bool
  | 0, v, w => !decide (na A v = na B w)
  | k + 1, v, w => D A B k v w || ((A.see v).any (fun x => (B.see w).all fun y => D A B k x y) || (B.see w).any (fun y => (A.see v).all fun x => D A B k x y))
/-- told in round r -/
def IsR (A B : Mo) (v w r : Nat) : Prop := D A B r v w = true ∧ ∀ j, j < r → D A B j v w = false
def Never (A B : Mo) (v w : Nat) : Prop := ∀ k, D A B k v w = false
theorem D_mono {A B : Mo} {v w : Nat} : ∀ {j k : Nat}, j ≤ k → D A B j v w = true → D A B k v w = true
  | j, 0, h, d => by have e : j = 0 := by omega
                     subst e; exact d
  | j, k + 1, h, d => by
    by_cases e : j = k + 1
    · subst e; exact d
    · have := D_mono (k := k) (by omega) d
      show (D A B k v w || _) = true
      rw [this]; rfl
theorem isR_uniq {A B : Mo} {v w r s : Nat} (a : IsR A B v w r) (b : IsR A B v w s) : r = s := by
  rcases Nat.lt_trichotomy r s with h | h | h
  · have := b.2 r h; rw [a.1] at this; cases this
  · exact h
  · have := a.2 s h; rw [b.1] at this; cases this
theorem isR_ex {A B : Mo} {v w : Nat} : ∀ {k : Nat}, D A B k v w = true → ∃ r, r ≤ k ∧ IsR A B v w r
  | 0, d => ⟨0, Nat.le_refl _, d, fun j h => by omega⟩
  | k + 1, d => by
    cases c : D A B k v w with
    | true => obtain ⟨r, hr, q⟩ := isR_ex c; exact ⟨r, by omega, q⟩
    | false =>
      refine ⟨k + 1, Nat.le_refl _, d, fun j h => ?_⟩
      cases e : D A B j v w with
      | false => rfl
      | true => rw [D_mono (by omega : j ≤ k) e] at c; cases c
theorem isR_le {A B : Mo} {v w r k : Nat} (i : IsR A B v w r) (d : D A B k v w = true) : r ≤ k := by
  by_cases h : r ≤ k
  · exact h
  · have := i.2 k (by omega); rw [d] at this; cases this
theorem isR_D {A B : Mo} {v w k : Nat} : D A B k v w = true ↔ ∃ r, r ≤ k ∧ IsR A B v w r := ⟨isR_ex, fun ⟨_, h, i⟩ => D_mono h i.1⟩
theorem D_self {A : Mo} : ∀ (k v : Nat), D A A k v v = false
  | 0, v => by simp [D]
  | k + 1, v => by
    simp only [D, Bool.or_eq_false_iff, D_self k v, true_and]
    refine ⟨?_, ?_⟩ <;>
    · rw [List.any_eq_false]
      intro x hx c
      have := List.all_eq_true.mp c x hx
      rw [D_self k x] at this
      cases this
theorem D_symm {A B : Mo} : ∀ (k v w : Nat), D A B k v w = D B A k w v
  | 0, v, w => by
    simp only [D]
    by_cases h : na A v = na B w
    · rw [decide_eq_true h, decide_eq_true h.symm]
    · rw [decide_eq_false h, decide_eq_false fun e => h e.symm]
  | k + 1, v, w => by
    simp only [D, D_symm k]
    rw [Bool.or_comm ((A.see v).any _)]
theorem isR_symm {A B : Mo} {v w r : Nat} : IsR A B v w r ↔ IsR B A w v r := by unfold IsR; simp only [D_symm (A := A) (B := B)]
/-- A laid into B -/
structure Emb (A B : Mo) (f : Nat → Nat) : Prop where
  see : ∀ v, v < A.n → B.see (f v) = (A.see v).map f
  val : ∀ v x, v < A.n → (f v ∈ B.val x ↔ v ∈ A.val x)
  na : ∀ v, v < A.n → na B (f v) = na A v
  ok : A.Ok
theorem sat_emb {A B : Mo} {f : Nat → Nat} (e : Emb A B f) : ∀ (a : F) (v : Nat), v < A.n → sat B a (f v) = sat A a v
  | .var x, v, h => by
    simp only [sat]
    exact decide_eq_decide.mpr (e.val v x h)
  | .fls, v, h => rfl
  | .imp a b, v, h => by simp only [sat, sat_emb e a v h, sat_emb e b v h]
  | .con a b, v, h => by simp only [sat, sat_emb e a v h, sat_emb e b v h]
  | .dis a b, v, h => by simp only [sat, sat_emb e a v h, sat_emb e b v h]
  | .box a, v, h => by
    simp only [sat, e.see v h, List.all_map]
    rw
          [Bool.eq_iff_iff, List.all_eq_true, List.all_eq_true]
    refine forall_congr' fun w => forall_congr' fun hw => ?_
    show sat B a (f w) = true ↔ _
    rw [sat_emb e a w (see_lt e.ok hw)]
theorem any_congr' {α : Type} {l : List α} {p q : α → Bool} (h : ∀ a ∈ l, p a = q a) : l.any p = l.any q := by
  rw
        [Bool.eq_iff_iff, List.any_eq_true, List.any_eq_true]
  exact exists_congr fun a => and_congr_right fun ha => by rw [h a ha]
theorem all_congr' {α : Type} {l : List α} {p q : α → Bool} (h : ∀ a ∈ l, p a = q a) : l.all p = l.all q := by
  rw
        [Bool.eq_iff_iff, List.all_eq_true, List.all_eq_true]
  exact forall_congr' fun a => forall_congr' fun ha => by rw [h a ha]
theorem D_emb {A B A' B' : Mo} {f g : Nat → Nat} (e : Emb A A' f) (e' : Emb B B' g) : ∀ (k v w : Nat), v < A.n → w < B.n → D A' B' k (f v) (g w) = D A B k v w
  | 0, v, w, hv, hw => by simp only [D, e.na v hv, e'.na w hw]
  | k + 1, v, w, hv, hw => by
    simp only [D, D_emb e e' k v w hv hw, e.see v hv, e'.see w hw, List.any_map, List.all_map, Function.comp_def]
    congr 1
    congr 1
    · exact any_congr' fun x hx => all_congr' fun y hy => D_emb e e' k x y (see_lt e.ok hx) (see_lt e'.ok hy)
    · exact any_congr' fun y hy => all_congr' fun x hx => D_emb e e' k x y (see_lt e.ok hx) (see_lt e'.ok hy)
theorem emb_id {A : Mo} (o : A.Ok) : Emb A A id where
  see := fun v _ => by simp
  val := fun _ _ _ => Iff.rfl
  na := fun _ _ => rfl
  ok := o
theorem isR_emb {A B A' B' : Mo} {f g : Nat → Nat} (e : Emb A A' f) (e' : Emb B B' g) {v w r : Nat} (hv : v < A.n) (hw : w < B.n) : IsR A' B' (f v) (g w) r ↔ IsR A B v w r := by
  unfold IsR; simp only [D_emb e e' _ v w hv hw]
theorem never_emb {A B : Mo} {f : Nat → Nat} (e : Emb A B f) {v : Nat} (hv : v < A.n) : Never A B v (f v) := fun k => by
  have := D_emb (emb_id e.ok) e k v v hv hv
  rw [D_self] at this
  exact this
theorem never_symm {A B : Mo} {v w : Nat} (h : Never A B v w) : Never B A w v := fun k => by rw [D_symm]; exact h k
/-! ### the table of rounds -/
abbrev Ta := List ((Nat × Nat) × Nat)
def In (A B : Mo) (p : Nat × Nat) : Prop := p.1 < A.n ∧ p.2 < B.n
def pairs (A B : Mo) : List (Nat × Nat) := (List.range A.n).flatMap fun v => (List.range B.n).map fun w => (v, w)
theorem mem_pairs {A B : Mo} {p : Nat × Nat} : p ∈ pairs A B ↔ In A B p := by
  unfold pairs In
  obtain ⟨v, w⟩ := p
  simp [List.mem_flatMap]
/-- up to round k -/
structure Up (A B : Mo) (k : Nat) (L : Ta) : Prop where
  nd : (L.map (·.1)).Nodup
  mem : ∀ p r, (p, r) ∈ L ↔ In A B p ∧ r ≤ k ∧ IsR A B p.1 p.2 r
/-- to the end -/
structure Fi (A B : Mo) (L : Ta) : Prop where
  nd : (L.map (·.1)).Nodup
  mem : ∀ p r, (p, r) ∈ L ↔ In A B p ∧ IsR A B p.1 p.2 r
def hasK (L : Ta) (p : Nat × Nat) : Bool := decide (p ∈ L.map (·.1))
theorem up_has {A B : Mo} {k : Nat} {L : Ta} (u : Up A B k L) {p : Nat × Nat} (i : In A B p) : hasK L p = D A B k p.1 p.2 := by
  unfold hasK
  rw [Bool.eq_iff_iff, decide_eq_true_eq, isR_D]
  constructor
  · intro h
    obtain ⟨⟨q, r⟩, hq, e⟩ := List.mem_map.mp h
    have e : q = p := e
    subst e
    have := (u.mem q r).mp hq
    exact ⟨r, this.2⟩
  · rintro ⟨r, h, q⟩
    exact List.mem_map.mpr ⟨(p, r), (u.mem p r).mpr ⟨i, h, q⟩, rfl⟩
/-- what one round tells -/
def tell (A B : Mo) (L : Ta) (v w : Nat) : Bool := (A.see v).any (fun x => (B.see w).all fun y => hasK L (x, y)) || (B.see w).any (fun y => (A.see v).all fun x => hasK L (x, y))
def told (A B : Mo) (L : Ta) : List (Nat × Nat) := (pairs A B).filter fun p => !hasK L p && tell A B L p.1 p.2
theorem tell_up {A B : Mo} (oa : A.Ok) (ob : B.Ok) {k : Nat} {L : Ta} (u : Up A B k L) (v w : Nat) : tell A B L v w = ((A.see v).any (fun x => (B.see w).all fun y => D A B k x y) || (B.see w).any (fun y => (A.see v).all fun x => D A B k x y)) := by
  unfold tell
  congr 1
  · exact any_congr' fun x hx => all_congr' fun y hy => up_has u ⟨see_lt oa hx, see_lt ob hy⟩
  · exact any_congr' fun y hy => all_congr' fun x hx => up_has u ⟨see_lt oa hx, see_lt ob hy⟩
theorem up_step {A B : Mo} (oa : A.Ok) (ob : B.Ok) {k : Nat} {L : Ta} (u : Up A B k L) (nd : (pairs A B).Nodup) : Up A B (k + 1) (L ++ (told A B L).map fun p => (p, k + 1)) where
  nd := by
    rw [List.map_append, List.map_map]
    have e : ((fun x : (Nat × Nat) × Nat => x.1) ∘ fun p : Nat × Nat => (p, k + 1)) = id := rfl
    rw [e, List.map_id]
    rw [List.nodup_append]
    refine ⟨u.nd, nd.filter _, fun a ha b hb e => ?_⟩
    subst e
    have := (List.mem_filter.mp hb).2
    rw [Bool.and_eq_true] at this
    have q := this.1
    unfold hasK at q
    rw [decide_eq_true ha] at q
    cases q
  mem := fun p r => by
    rw [List.mem_append, List.mem_map, u.mem p r]
    constructor
    · rintro (⟨i, h, q⟩ | ⟨q, hq, e⟩)
      · exact ⟨i, by omega, q⟩
      · cases e
        obtain ⟨h1, h2⟩ := List.mem_filter.mp hq
        have i := mem_pairs.mp h1
        rw [Bool.and_eq_true, up_has u i, tell_up oa ob u] at h2
        refine ⟨i, Nat.le_refl _, ?_, fun j hj => ?_⟩
        · show (_ || _) = true
          rw [h2.2, Bool.or_true]
        · cases c : D A B j p.1 p.2 with
          | false => rfl
          | true => have := D_mono (by omega : j ≤ k) c; rw [this] at h2; cases h2.1
    · rintro ⟨i, h, q⟩
      by_cases c : r ≤ k
      · exact .inl ⟨i, c, q⟩
      · have e : r = k + 1 := by omega
        subst e
        refine .inr ⟨p, List.mem_filter.mpr ⟨mem_pairs.mpr i, ?_⟩, rfl⟩
        rw [up_has u i, tell_up oa ob u, q.2 k (by omega)]
        have := q.1
        unfold D at this
        rw [q.2 k (by omega)] at this
        simpa using this
theorem fi_of {A B : Mo} (oa : A.Ok) (ob : B.Ok) {k : Nat} {L : Ta} (u : Up A B k L) (e : told A B L = []) : Fi A B L := by
  have st : ∀ v w, v < A.n → w < B.n → D A B (k + 1) v w = D A B k v w := by
    intro v w hv hw
    have i : In A B (v, w) := ⟨hv, hw⟩
    have := List.filter_eq_nil_iff.mp e (v, w) (mem_pairs.mpr i)
    rw [up_has u i, tell_up oa ob u] at this
    show (_ || _) = _
    cases c : D A B k v w with
    | true => rfl
    | false => rw [c] at this; simpa using this
  have al : ∀ m v w, v < A.n → w < B.n → D A B (k + m) v w = D A B k v w := by
    intro m
    induction m with
    | zero => intros; rfl
    | succ m ih =>
      intro v w hv hw
      rw [← st v w hv hw]
      show (D A B (k + m) v w || _) = (D A B k v w || _)
      rw [ih v w hv hw]
      congr 1
      congr 1
      · exact any_congr' fun x hx => all_congr' fun y hy => ih x y (see_lt oa hx) (see_lt ob hy)
      · exact any_congr' fun y hy => all_congr' fun x hx => ih x y (see_lt oa hx) (see_lt ob hy)
  refine ⟨u.nd, fun p r => (u.mem p r).trans ⟨fun ⟨i, _, q⟩ => ⟨i, q⟩, fun ⟨i, q⟩ => ⟨i, ?_, q⟩⟩⟩
  by_cases c : r ≤ k
  · exact c
  · have h1 := q.1
    have h2 := al (r - k) p.1 p.2 i.1 i.2
    rw [show k + (r - k) = r by omega] at h2
    rw [h2] at h1
    have := q.2 k (by omega)
    rw [h1] at this
    cases this
theorem up_zero {A B : Mo} (nd : (pairs A B).Nodup) : Up A B 0 (((pairs A B).filter fun p => !decide (na A p.1 = na B p.2)).map fun p => (p, 0)) where
  nd := by
    rw [List.map_map]
    have e : ((fun x : (Nat × Nat) × Nat => x.1) ∘ fun p : Nat × Nat => (p, 0)) = id := rfl
    rw [e, List.map_id]
    exact nd.filter _
  mem := fun p r => by
    rw [List.mem_map]
    constructor
    · rintro ⟨q, hq, e⟩
      cases e
      obtain ⟨h1, h2⟩ := List.mem_filter.mp hq
      exact ⟨mem_pairs.mp h1, Nat.le_refl _, h2, fun j h => by omega⟩
    · rintro ⟨i, h, q⟩
      have e : r = 0 := by omega
      subst e
      exact ⟨p, List.mem_filter.mpr ⟨mem_pairs.mpr i, q.1⟩, rfl⟩
theorem prod_nodup {m : List Nat} (hm : m.Nodup) : ∀ {l : List Nat}, l.Nodup → (l.flatMap fun v => m.map fun w => (v, w)).Nodup
  | [], _ => by simp
  | a :: l, h => by
    rw [List.nodup_cons] at h
    rw [List.flatMap_cons, List.nodup_append]
    refine ⟨?_, prod_nodup hm h.2, fun x hx y hy e => ?_⟩
    · exact List.Pairwise.map _ (fun a b ne e => ne (by cases e; rfl)) hm
    · subst e
      obtain ⟨c, _, rfl⟩ := List.mem_map.mp hx
      obtain ⟨b, hb, h2⟩ := List.mem_flatMap.mp hy
      obtain ⟨d, _, e⟩ := List.mem_map.mp h2
      cases e
      exact h.1 hb
theorem pairs_nodup (A B : Mo) : (pairs A B).Nodup := prod_nodup List.nodup_range List.nodup_range
end K94
namespace K94
open PySem L2 Vc
def top (i : Nat) : Stmt := PySem.Challenge.pw_elsewhere_k94_whole_models_hung_under_a.main.body.getD i (.Pass ⟨0, 0, 0, 0⟩)
def clsB : Stmt → List Stmt
  | .ClassDef _ _ _ body _ _ _ _ _ _ _ => body
  | _ => []
/-! neg -/
abbrev st_neg : Stmt := (top 6)
def N_neg : List Str := ["a"]
def m_neg : List S := [
  (.ret (.tup (.cons (.cst (.str "implies")) (.cons (.var 0) (.cons (.glo "FALSUM") .nil)))))]
def d_neg : He.DefD := ⟨("neg", none), "neg", "neg", defArgs st_neg, defBody st_neg, defScope st_neg, [], []⟩
theorem ck_neg : (scB N_neg ["a"] (defScope st_neg) && ckSs N_neg (defScope st_neg) m_neg (defBody st_neg)) = true := by decide +kernel
/-! verum -/
abbrev st_verum : Stmt := (top 7)
def N_verum : List Str := []
def m_verum : List S := [
  (.ret (.call "neg" (.cons (.glo "FALSUM") .nil)))]
def d_verum : He.DefD := ⟨("verum", none), "verum", "verum", defArgs st_verum, defBody st_verum, defScope st_verum, [], []⟩
theorem ck_verum : (scB N_verum [] (defScope st_verum) && ckSs N_verum (defScope st_verum) m_verum (defBody st_verum)) = true := by decide +kernel
/-! dia -/
abbrev st_dia : Stmt := (top 8)
def N_dia : List Str := ["a"]
def m_dia : List S := [
  (.ret (.call "neg" (.cons (.tup (.cons (.cst (.str "box")) (.cons (.call "neg" (.cons (.var 0) .nil)) .nil))) .nil)))]
def d_dia : He.DefD := ⟨("dia", none), "dia", "dia", defArgs st_dia, defBody st_dia, defScope st_dia, [], []⟩
theorem ck_dia : (scB N_dia ["a"] (defScope st_dia) && ckSs N_dia (defScope st_dia) m_dia (defBody st_dia)) = true := by decide +kernel
/-! joined_by -/
abbrev st_joined_by : Stmt := (top 9)
def N_joined_by : List Str := ["tag", "formulas", "empty", "result", "a"]
def m_joined_by : List S := [
  (.ite (.cmp .Eq (.blt .len (.cons (.var 1) .nil)) (.cst (.int 0))) [(.ret (.var 2))] []),
  (.set 3 (.ix (.var 1) (.neg (.cst (.int 1))))),
  (.for_ (.nm 4) (.rv (.sl (.var 1) .no (.so (.neg (.cst (.int 1)))))) [(.set 3 (.tup (.cons (.var 0) (.cons (.var 4) (.cons (.var 3) .nil)))))]),
  (.ret (.var 3))]
def d_joined_by : He.DefD := ⟨("joined_by", none), "joined_by", "joined_by", defArgs st_joined_by, defBody st_joined_by, defScope st_joined_by, [], []⟩
theorem ck_joined_by : (scB N_joined_by ["tag", "formulas", "empty"] (defScope st_joined_by) && ckSs N_joined_by (defScope st_joined_by) m_joined_by (defBody st_joined_by)) = true := by decide +kernel
/-! conjunction -/
abbrev st_conjunction : Stmt := (top 10)
def N_conjunction : List Str := ["formulas"]
def m_conjunction : List S := [
  (.ret (.call "joined_by" (.cons (.cst (.str "and")) (.cons (.var 0) (.cons (.call "verum" .nil) .nil)))))]
def d_conjunction : He.DefD := ⟨("conjunction", none), "conjunction", "conjunction", defArgs st_conjunction, defBody st_conjunction, defScope st_conjunction, [], []⟩
theorem ck_conjunction : (scB N_conjunction ["formulas"] (defScope st_conjunction) && ckSs N_conjunction (defScope st_conjunction) m_conjunction (defBody st_conjunction)) = true := by decide +kernel
/-! is_world -/
abbrev st_is_world : Stmt := (top 12)
def N_is_world : List Str := ["value", "worlds"]
def m_is_world : List S := [
  (.ret (.and (.xf 1 (.cons (.var 0) .nil)) (.and (.not (.xf 2 (.cons (.var 0) .nil))) (.chn .LtE .Lt (.cst (.int 0)) (.var 0) (.var 1)))))]
def d_is_world : He.DefD := ⟨("is_world", none), "is_world", "is_world", defArgs st_is_world, defBody st_is_world, defScope st_is_world, [], []⟩
theorem ck_is_world : (scB N_is_world ["value", "worlds"] (defScope st_is_world) && ckSs N_is_world (defScope st_is_world) m_is_world (defBody st_is_world)) = true := by decide +kernel
/-! is_frame -/
abbrev st_is_frame : Stmt := (top 13)
def N_is_frame : List Str := ["frame", "pair", "worlds", "pairs"]
def m_is_frame : List S := [
  (.unp [2, 3] (.var 0)),
  (.ite (.or (.xf 2 (.cons (.var 2) .nil)) (.cmp .Lt (.var 2) (.cst (.int 1)))) [(.ret (.cst (.bl false)))] []),
  (.for_ (.nm 1) (.sq (.var 3)) [(.ite (.or (.cmp .NotEq (.blt .len (.cons (.var 1) .nil)) (.cst (.int 2))) (.or (.not (.call "is_world" (.cons (.ix (.var 1) (.cst (.int 0))) (.cons (.var 2) .nil)))) (.not (.call "is_world" (.cons (.ix (.var 1) (.cst (.int 1))) (.cons (.var 2) .nil)))))) [(.ret (.cst (.bl false)))] [])]),
  (.ret (.cmp .Eq (.blt .list (.cons (.var 3) .nil)) (.xf 0 (.cons (.var 3) .nil))))]
def d_is_frame : He.DefD := ⟨("is_frame", none), "is_frame", "is_frame", defArgs st_is_frame, defBody st_is_frame, defScope st_is_frame, [], []⟩
theorem ck_is_frame : (scB N_is_frame ["frame"] (defScope st_is_frame) && ckSs N_is_frame (defScope st_is_frame) m_is_frame (defBody st_is_frame)) = true := by decide +kernel
/-! Model.__init__ -/
abbrev st_Model___init__ : Stmt := ((clsB (top 15)).getD 0 (.Pass ⟨0, 0, 0, 0⟩))
def N_Model___init__ : List Str := ["self", "frame", "values", "name", "v", "w", "_"]
def m_Model___init__ : List S := [
  (.ite (.not (.call "is_frame" (.cons (.var 1) .nil))) [.nev] []),
  (.sfl (.var 0) "_frame" (.tup (.cons (.ix (.var 1) (.cst (.int 0))) (.cons (.blt .tuple (.cons (.ix (.var 1) (.cst (.int 1))) .nil)) .nil)))),
  (.sfl (.var 0) "_seen" (.lc false [6] (.nm 6) (.rg (.ix (.var 1) (.cst (.int 0)))) .nil (.el (.new .nil)))),
  (.for_ (.tp [4, 5]) (.sq (.ix (.var 1) (.cst (.int 1)))) [(.app (.ix (.fld (.var 0) "_seen") (.var 4)) (.var 5))]),
  (.sfl (.var 0) "_values" .dnw),
  (.for_ (.nm 3) (.dk (.var 2)) [(.for_ (.nm 5) (.sq (.ix (.var 2) (.var 3))) [(.ite (.not (.call "is_world" (.cons (.var 5) (.cons (.ix (.var 1) (.cst (.int 0))) .nil)))) [.nev] [])]), (.ite (.cmp .Gt (.blt .len (.cons (.ix (.var 2) (.var 3)) .nil)) (.cst (.int 0))) [(.sub (.fld (.var 0) "_values") (.var 3) (.xf 0 (.cons (.ix (.var 2) (.var 3)) .nil)))] [])])]
def d_Model___init__ : He.DefD := ⟨("Model", some "__init__"), "__init__", "Model.__init__", defArgs st_Model___init__, defBody st_Model___init__, defScope st_Model___init__, [], []⟩
theorem ck_Model___init__ : (scB N_Model___init__ ["self", "frame", "values"] (defScope st_Model___init__) && ckSs N_Model___init__ (defScope st_Model___init__) m_Model___init__ (defBody st_Model___init__)) = true := by decide +kernel
/-! Model.frame -/
abbrev st_Model_frame : Stmt := ((clsB (top 15)).getD 1 (.Pass ⟨0, 0, 0, 0⟩))
def N_Model_frame : List Str := ["self"]
def m_Model_frame : List S := [
  (.ret (.fld (.var 0) "_frame"))]
def d_Model_frame : He.DefD := ⟨("Model", some "frame"), "frame", "Model.frame", defArgs st_Model_frame, defBody st_Model_frame, defScope st_Model_frame, [], []⟩
theorem ck_Model_frame : (scB N_Model_frame ["self"] (defScope st_Model_frame) && ckSs N_Model_frame (defScope st_Model_frame) m_Model_frame (defBody st_Model_frame)) = true := by decide +kernel
/-! Model.true_worlds -/
abbrev st_Model_true_worlds : Stmt := ((clsB (top 15)).getD 2 (.Pass ⟨0, 0, 0, 0⟩))
def N_Model_true_worlds : List Str := ["self", "name"]
def m_Model_true_worlds : List S := [
  (.ret (.dc true [1] (.nm 1) (.dk (.fld (.var 0) "_values")) .nil (.var 1) (.blt .list (.cons (.ix (.fld (.var 0) "_values") (.var 1)) .nil))))]
def d_Model_true_worlds : He.DefD := ⟨("Model", some "true_worlds"), "true_worlds", "Model.true_worlds", defArgs st_Model_true_worlds, defBody st_Model_true_worlds, defScope st_Model_true_worlds, [], []⟩
theorem ck_Model_true_worlds : (scB N_Model_true_worlds ["self"] (defScope st_Model_true_worlds) && ckSs N_Model_true_worlds (defScope st_Model_true_worlds) m_Model_true_worlds (defBody st_Model_true_worlds)) = true := by decide +kernel
/-! Model.seen -/
abbrev st_Model_seen : Stmt := ((clsB (top 15)).getD 3 (.Pass ⟨0, 0, 0, 0⟩))
def N_Model_seen : List Str := ["self", "v"]
def m_Model_seen : List S := [
  (.ret (.blt .list (.cons (.ix (.fld (.var 0) "_seen") (.var 1)) .nil)))]
def d_Model_seen : He.DefD := ⟨("Model", some "seen"), "seen", "Model.seen", defArgs st_Model_seen, defBody st_Model_seen, defScope st_Model_seen, [], []⟩
theorem ck_Model_seen : (scB N_Model_seen ["self", "v"] (defScope st_Model_seen) && ckSs N_Model_seen (defScope st_Model_seen) m_Model_seen (defBody st_Model_seen)) = true := by decide +kernel
/-! worlds_of -/
abbrev st_worlds_of : Stmt := (top 16)
def N_worlds_of : List Str := ["model"]
def m_worlds_of : List S := [
  (.ret (.xf 3 (.cons (.ix (.met (.var 0) "frame" .nil) (.cst (.int 0))) .nil)))]
def d_worlds_of : He.DefD := ⟨("worlds_of", none), "worlds_of", "worlds_of", defArgs st_worlds_of, defBody st_worlds_of, defScope st_worlds_of, [], []⟩
theorem ck_worlds_of : (scB N_worlds_of ["model"] (defScope st_worlds_of) && ckSs N_worlds_of (defScope st_worlds_of) m_worlds_of (defBody st_worlds_of)) = true := by decide +kernel
/-! evaluated -/
abbrev st_evaluated : Stmt := (top 17)
def N_evaluated : List Str := ["model", "a", "forced", "first", "second", "good", "v", "w"]
def m_evaluated : List S := [
  (.ite (.cmp .Eq (.ix (.var 1) (.cst (.int 0))) (.cst (.str "var"))) [(.ret (.bm (.frz (.met (.var 0) "true_worlds" .nil)) .get (.cons (.ix (.var 1) (.cst (.int 1))) (.cons (.dsp .nil) .nil))))] []),
  (.ite (.cmp .Eq (.ix (.var 1) (.cst (.int 0))) (.cst (.str "falsum"))) [(.ret (.dsp .nil))] []),
  (.set 3 (.call "evaluated" (.cons (.var 0) (.cons (.ix (.var 1) (.cst (.int 1))) (.cons (.var 2) .nil))))),
  (.ite (.cmp .Eq (.ix (.var 1) (.cst (.int 0))) (.cst (.str "box"))) [(.ret (.lc false [6] (.nm 6) (.sq (.call "worlds_of" (.cons (.var 0) .nil))) (.cons (.cmp .Eq (.lc false [7] (.nm 7) (.sq (.met (.var 0) "seen" (.cons (.var 6) .nil))) (.cons (.cmp .NotIn (.var 7) (.var 3)) .nil) (.el (.var 7))) (.dsp .nil)) .nil) (.el (.var 6))))] []),
  (.set 4 (.call "evaluated" (.cons (.var 0) (.cons (.ix (.var 1) (.cst (.int 2))) (.cons (.var 2) .nil))))),
  (.ite (.cmp .Eq (.ix (.var 1) (.cst (.int 0))) (.cst (.str "and"))) [(.ret (.lc false [6] (.nm 6) (.sq (.var 3)) (.cons (.cmp .In (.var 6) (.var 4)) .nil) (.el (.var 6))))] []),
  (.ite (.cmp .Eq (.ix (.var 1) (.cst (.int 0))) (.cst (.str "or"))) [(.ret (.lc false [6] (.nm 6) (.sq (.call "worlds_of" (.cons (.var 0) .nil))) (.cons (.or (.cmp .In (.var 6) (.var 3)) (.cmp .In (.var 6) (.var 4))) .nil) (.el (.var 6))))] []),
  (.set 5 (.lc false [6] (.nm 6) (.sq (.call "worlds_of" (.cons (.var 0) .nil))) (.cons (.or (.cmp .NotIn (.var 6) (.var 3)) (.cmp .In (.var 6) (.var 4))) .nil) (.el (.var 6)))),
  (.ite (.not (.var 2)) [(.ret (.var 5))] []),
  (.ret (.lc false [6] (.nm 6) (.sq (.call "worlds_of" (.cons (.var 0) .nil))) (.cons (.cmp .Eq (.lc false [7] (.nm 7) (.sq (.met (.var 0) "seen" (.cons (.var 6) .nil))) (.cons (.cmp .NotIn (.var 7) (.var 5)) .nil) (.el (.var 7))) (.dsp .nil)) .nil) (.el (.var 6))))]
def d_evaluated : He.DefD := ⟨("evaluated", none), "evaluated", "evaluated", defArgs st_evaluated, defBody st_evaluated, defScope st_evaluated, [], []⟩
theorem ck_evaluated : (scB N_evaluated ["model", "a", "forced"] (defScope st_evaluated) && ckSs N_evaluated (defScope st_evaluated) m_evaluated (defBody st_evaluated)) = true := by decide +kernel
/-! truth -/
abbrev st_truth : Stmt := (top 18)
def N_truth : List Str := ["model", "a"]
def m_truth : List S := [
  (.ret (.call "evaluated" (.cons (.var 0) (.cons (.var 1) (.cons (.cst (.bl false)) .nil)))))]
def d_truth : He.DefD := ⟨("truth", none), "truth", "truth", defArgs st_truth, defBody st_truth, defScope st_truth, [], []⟩
theorem ck_truth : (scB N_truth ["model", "a"] (defScope st_truth) && ckSs N_truth (defScope st_truth) m_truth (defBody st_truth)) = true := by decide +kernel
/-! part_of -/
abbrev st_part_of : Stmt := (top 19)
def N_part_of : List Str := ["model", "worlds", "number", "pairs", "values", "kept", "name", "at", "v", "w"]
def m_part_of : List S := [
  (.set 2 (.dc false [7, 8] (.tp [7, 8]) (.en (.var 1)) .nil (.var 8) (.var 7))),
  (.set 3 (.lc false [8, 9] (.tp [8, 9]) (.sq (.ix (.met (.var 0) "frame" .nil) (.cst (.int 1)))) (.cons (.and (.cmp .In (.var 8) (.var 2)) (.cmp .In (.var 9) (.var 2))) .nil) (.el (.tup (.cons (.ix (.var 2) (.var 8)) (.cons (.ix (.var 2) (.var 9)) .nil)))))),
  (.set 4 (.frz (.met (.var 0) "true_worlds" .nil))),
  (.set 5 (.dc false [6] (.nm 6) (.dk (.var 4)) .nil (.var 6) (.lc false [8] (.nm 8) (.sq (.ix (.var 4) (.var 6))) (.cons (.cmp .In (.var 8) (.var 2)) .nil) (.el (.ix (.var 2) (.var 8)))))),
  (.ret (.mk "Model" (.cons (.tup (.cons (.blt .len (.cons (.var 1) .nil)) (.cons (.blt .tuple (.cons (.blt .sorted (.cons (.var 3) .nil)) .nil)) .nil))) (.cons (.var 5) .nil))))]
def d_part_of : He.DefD := ⟨("part_of", none), "part_of", "part_of", defArgs st_part_of, defBody st_part_of, defScope st_part_of, [], []⟩
theorem ck_part_of : (scB N_part_of ["model", "worlds"] (defScope st_part_of) && ckSs N_part_of (defScope st_part_of) m_part_of (defBody st_part_of)) = true := by decide +kernel
/-! generated -/
abbrev st_generated : Stmt := (top 20)
def N_generated : List Str := ["model", "v", "reached", "at", "w"]
def m_generated : List S := [
  (.set 2 (.new (.cons (.var 1) .nil))),
  (.set 3 (.cst (.int 0))),
  (.whl (.cmp .Lt (.var 3) (.blt .len (.cons (.var 2) .nil))) [(.for_ (.nm 4) (.sq (.met (.var 0) "seen" (.cons (.ix (.var 2) (.var 3)) .nil))) [(.ite (.cmp .NotIn (.var 4) (.var 2)) [(.app (.var 2) (.var 4))] [])]), (.aug 3 .Add (.cst (.int 1)))]),
  (.ret (.call "part_of" (.cons (.var 0) (.cons (.bin .Add (.dsp (.cons (.var 1) .nil)) (.blt .sorted (.cons (.sl (.var 2) (.so (.cst (.int 1))) .no) .nil))) .nil))))]
def d_generated : He.DefD := ⟨("generated", none), "generated", "generated", defArgs st_generated, defBody st_generated, defScope st_generated, [], []⟩
theorem ck_generated : (scB N_generated ["model", "v"] (defScope st_generated) && ckSs N_generated (defScope st_generated) m_generated (defBody st_generated)) = true := by decide +kernel
/-! disjoint -/
abbrev st_disjoint : Stmt := (top 21)
def N_disjoint : List Str := ["first", "second", "by", "pairs", "values", "others", "name", "w", "v"]
def m_disjoint : List S := [
  (.set 2 (.ix (.met (.var 0) "frame" .nil) (.cst (.int 0)))),
  (.set 3 (.bin .Add (.ix (.met (.var 0) "frame" .nil) (.cst (.int 1))) (.blt .tuple (.cons (.lc false [8, 7] (.tp [8, 7]) (.sq (.ix (.met (.var 1) "frame" .nil) (.cst (.int 1)))) .nil (.el (.tup (.cons (.bin .Add (.var 8) (.var 2)) (.cons (.bin .Add (.var 7) (.var 2)) .nil))))) .nil)))),
  (.set 4 (.met (.var 0) "true_worlds" .nil)),
  (.set 5 (.frz (.met (.var 1) "true_worlds" .nil))),
  (.for_ (.nm 6) (.dk (.var 5)) [(.sub (.var 4) (.var 6) (.bin .Add (.bm (.var 4) .get (.cons (.var 6) (.cons (.dsp .nil) .nil))) (.lc false [7] (.nm 7) (.sq (.ix (.var 5) (.var 6))) .nil (.el (.bin .Add (.var 7) (.var 2))))))]),
  (.ret (.mk "Model" (.cons (.tup (.cons (.bin .Add (.var 2) (.ix (.met (.var 1) "frame" .nil) (.cst (.int 0)))) (.cons (.var 3) .nil))) (.cons (.frz (.var 4)) .nil))))]
def d_disjoint : He.DefD := ⟨("disjoint", none), "disjoint", "disjoint", defArgs st_disjoint, defBody st_disjoint, defScope st_disjoint, [], []⟩
theorem ck_disjoint : (scB N_disjoint ["first", "second"] (defScope st_disjoint) && ckSs N_disjoint (defScope st_disjoint) m_disjoint (defBody st_disjoint)) = true := by decide +kernel
/-! names_at -/
abbrev st_names_at : Stmt := (top 23)
def N_names_at : List Str := ["model", "v", "values", "name"]
def m_names_at : List S := [
  (.set 2 (.frz (.met (.var 0) "true_worlds" .nil))),
  (.ret (.blt .sorted (.cons (.lc false [3] (.nm 3) (.dk (.var 2)) (.cons (.cmp .In (.var 1) (.ix (.var 2) (.var 3))) .nil) (.el (.var 3))) .nil)))]
def d_names_at : He.DefD := ⟨("names_at", none), "names_at", "names_at", defArgs st_names_at, defBody st_names_at, defScope st_names_at, [], []⟩
theorem ck_names_at : (scB N_names_at ["model", "v"] (defScope st_names_at) && ckSs N_names_at (defScope st_names_at) m_names_at (defBody st_names_at)) = true := by decide +kernel
/-! Rounds.__init__ -/
abbrev st_Rounds___init__ : Stmt := ((clsB (top 24)).getD 0 (.Pass ⟨0, 0, 0, 0⟩))
def N_Rounds___init__ : List Str := ["self", "first", "second", "pairs", "count", "more", "v", "w", "told", "pair"]
def m_Rounds___init__ : List S := [
  (.sfl (.var 0) "first" (.var 1)),
  (.sfl (.var 0) "second" (.var 2)),
  (.sfl (.var 0) "found" .pnw),
  (.set 3 (.lc false [6, 7] (.nm 6) (.rg (.ix (.met (.var 1) "frame" .nil) (.cst (.int 0)))) .nil (.fo (.nm 7) (.rg (.ix (.met (.var 2) "frame" .nil) (.cst (.int 0)))) .nil (.el (.tup (.cons (.var 6) (.cons (.var 7) .nil))))))),
  (.for_ (.tp [6, 7]) (.sq (.var 3)) [(.ite (.cmp .NotEq (.call "names_at" (.cons (.var 1) (.cons (.var 6) .nil))) (.call "names_at" (.cons (.var 2) (.cons (.var 7) .nil)))) [(.sub (.fld (.var 0) "found") (.tup (.cons (.var 6) (.cons (.var 7) .nil))) (.cst (.int 0)))] [])]),
  (.set 4 (.cst (.int 1))),
  (.set 5 (.cst (.bl true))),
  (.whl (.var 5) [(.set 8 (.lc false [9] (.nm 9) (.sq (.var 3)) (.cons (.and (.cmp .NotIn (.var 9) (.fld (.var 0) "found")) (.met (.var 0) "is_told" (.cons (.var 9) .nil))) .nil) (.el (.var 9)))), (.for_ (.nm 9) (.sq (.var 8)) [(.sub (.fld (.var 0) "found") (.var 9) (.var 4))]), (.aug 4 .Add (.cst (.int 1))), (.set 5 (.cmp .Gt (.blt .len (.cons (.var 8) .nil)) (.cst (.int 0))))])]
def d_Rounds___init__ : He.DefD := ⟨("Rounds", some "__init__"), "__init__", "Rounds.__init__", defArgs st_Rounds___init__, defBody st_Rounds___init__, defScope st_Rounds___init__, [], []⟩
theorem ck_Rounds___init__ : (scB N_Rounds___init__ ["self", "first", "second"] (defScope st_Rounds___init__) && ckSs N_Rounds___init__ (defScope st_Rounds___init__) m_Rounds___init__ (defBody st_Rounds___init__)) = true := by decide +kernel
/-! Rounds.is_told -/
abbrev st_Rounds_is_told : Stmt := ((clsB (top 24)).getD 1 (.Pass ⟨0, 0, 0, 0⟩))
def N_Rounds_is_told : List Str := ["self", "pair"]
def m_Rounds_is_told : List S := [
  (.ret (.or (.ntn (.met (.var 0) "left_witness" (.cons (.var 1) .nil))) (.ntn (.met (.var 0) "right_witness" (.cons (.var 1) .nil)))))]
def d_Rounds_is_told : He.DefD := ⟨("Rounds", some "is_told"), "is_told", "Rounds.is_told", defArgs st_Rounds_is_told, defBody st_Rounds_is_told, defScope st_Rounds_is_told, [], []⟩
theorem ck_Rounds_is_told : (scB N_Rounds_is_told ["self", "pair"] (defScope st_Rounds_is_told) && ckSs N_Rounds_is_told (defScope st_Rounds_is_told) m_Rounds_is_told (defBody st_Rounds_is_told)) = true := by decide +kernel
/-! Rounds.left_witness -/
abbrev st_Rounds_left_witness : Stmt := ((clsB (top 24)).getD 2 (.Pass ⟨0, 0, 0, 0⟩))
def N_Rounds_left_witness : List Str := ["self", "pair", "x", "y"]
def m_Rounds_left_witness : List S := [
  (.for_ (.nm 2) (.sq (.met (.fld (.var 0) "first") "seen" (.cons (.ix (.var 1) (.cst (.int 0))) .nil))) [(.ite (.cmp .Eq (.lc false [3] (.nm 3) (.sq (.met (.fld (.var 0) "second") "seen" (.cons (.ix (.var 1) (.cst (.int 1))) .nil))) (.cons (.cmp .NotIn (.tup (.cons (.var 2) (.cons (.var 3) .nil))) (.fld (.var 0) "found")) .nil) (.el (.var 3))) (.dsp .nil)) [(.ret (.var 2))] [])]),
  (.ret (.cst .non))]
def d_Rounds_left_witness : He.DefD := ⟨("Rounds", some "left_witness"), "left_witness", "Rounds.left_witness", defArgs st_Rounds_left_witness, defBody st_Rounds_left_witness, defScope st_Rounds_left_witness, [], []⟩
theorem ck_Rounds_left_witness : (scB N_Rounds_left_witness ["self", "pair"] (defScope st_Rounds_left_witness) && ckSs N_Rounds_left_witness (defScope st_Rounds_left_witness) m_Rounds_left_witness (defBody st_Rounds_left_witness)) = true := by decide +kernel
/-! Rounds.right_witness -/
abbrev st_Rounds_right_witness : Stmt := ((clsB (top 24)).getD 3 (.Pass ⟨0, 0, 0, 0⟩))
def N_Rounds_right_witness : List Str := ["self", "pair", "y", "x"]
def m_Rounds_right_witness : List S := [
  (.for_ (.nm 2) (.sq (.met (.fld (.var 0) "second") "seen" (.cons (.ix (.var 1) (.cst (.int 1))) .nil))) [(.ite (.cmp .Eq (.lc false [3] (.nm 3) (.sq (.met (.fld (.var 0) "first") "seen" (.cons (.ix (.var 1) (.cst (.int 0))) .nil))) (.cons (.cmp .NotIn (.tup (.cons (.var 3) (.cons (.var 2) .nil))) (.fld (.var 0) "found")) .nil) (.el (.var 3))) (.dsp .nil)) [(.ret (.var 2))] [])]),
  (.ret (.cst .non))]
def d_Rounds_right_witness : He.DefD := ⟨("Rounds", some "right_witness"), "right_witness", "Rounds.right_witness", defArgs st_Rounds_right_witness, defBody st_Rounds_right_witness, defScope st_Rounds_right_witness, [], []⟩
theorem ck_Rounds_right_witness : (scB N_Rounds_right_witness ["self", "pair"] (defScope st_Rounds_right_witness) && ckSs N_Rounds_right_witness (defScope st_Rounds_right_witness) m_Rounds_right_witness (defBody st_Rounds_right_witness)) = true := by decide +kernel
/-! Rounds.early -/
abbrev st_Rounds_early : Stmt := ((clsB (top 24)).getD 4 (.Pass ⟨0, 0, 0, 0⟩))
def N_Rounds_early : List Str := ["self", "limit", "result", "pair"]
def m_Rounds_early : List S := [
  (.set 2 (.mk "Rounds" (.cons (.mk "Model" (.cons (.tup (.cons (.cst (.int 1)) (.cons (.tup .nil) .nil))) (.cons (.frz .dnw) .nil))) (.cons (.mk "Model" (.cons (.tup (.cons (.cst (.int 1)) (.cons (.tup .nil) .nil))) (.cons (.frz .dnw) .nil))) .nil)))),
  (.sfl (.var 2) "first" (.fld (.var 0) "first")),
  (.sfl (.var 2) "second" (.fld (.var 0) "second")),
  (.sfl (.var 2) "found" (.dp false [3] (.nm 3) (.ky (.fld (.var 0) "found")) (.cons (.cmp .Lt (.ix (.fld (.var 0) "found") (.var 3)) (.var 1)) .nil) (.var 3) (.ix (.fld (.var 0) "found") (.var 3)))),
  (.ret (.var 2))]
def d_Rounds_early : He.DefD := ⟨("Rounds", some "early"), "early", "Rounds.early", defArgs st_Rounds_early, defBody st_Rounds_early, defScope st_Rounds_early, [], []⟩
theorem ck_Rounds_early : (scB N_Rounds_early ["self", "limit"] (defScope st_Rounds_early) && ckSs N_Rounds_early (defScope st_Rounds_early) m_Rounds_early (defBody st_Rounds_early)) = true := by decide +kernel
/-! Rounds.formula -/
abbrev st_Rounds_formula : Stmt := ((clsB (top 24)).getD 5 (.Pass ⟨0, 0, 0, 0⟩))
def N_Rounds_formula : List Str := ["self", "pair", "before", "x", "y", "v", "w", "extra", "name"]
def m_Rounds_formula : List S := [
  (.unp [5, 6] (.var 1)),
  (.ite (.cmp .Eq (.ix (.fld (.var 0) "found") (.var 1)) (.cst (.int 0))) [(.set 7 (.lc false [8] (.nm 8) (.sq (.call "names_at" (.cons (.fld (.var 0) "first") (.cons (.var 5) .nil)))) (.cons (.cmp .NotIn (.var 8) (.call "names_at" (.cons (.fld (.var 0) "second") (.cons (.var 6) .nil)))) .nil) (.el (.var 8)))), (.ite (.cmp .Gt (.blt .len (.cons (.var 7) .nil)) (.cst (.int 0))) [(.ret (.tup (.cons (.cst (.str "var")) (.cons (.ix (.var 7) (.cst (.int 0))) .nil))))] []), (.ret (.call "neg" (.cons (.tup (.cons (.cst (.str "var")) (.cons (.ix (.lc false [8] (.nm 8) (.sq (.call "names_at" (.cons (.fld (.var 0) "second") (.cons (.var 6) .nil)))) (.cons (.cmp .NotIn (.var 8) (.call "names_at" (.cons (.fld (.var 0) "first") (.cons (.var 5) .nil)))) .nil) (.el (.var 8))) (.cst (.int 0))) .nil))) .nil)))] []),
  (.set 2 (.met (.var 0) "early" (.cons (.ix (.fld (.var 0) "found") (.var 1)) .nil))),
  (.set 3 (.met (.var 2) "left_witness" (.cons (.var 1) .nil))),
  (.ite (.ntn (.var 3)) [(.ret (.call "dia" (.cons (.call "conjunction" (.cons (.lc false [4] (.nm 4) (.sq (.met (.fld (.var 0) "second") "seen" (.cons (.var 6) .nil))) .nil (.el (.met (.var 0) "formula" (.cons (.tup (.cons (.var 3) (.cons (.var 4) .nil))) .nil)))) .nil)) .nil)))] []),
  (.set 4 (.met (.var 2) "right_witness" (.cons (.var 1) .nil))),
  (.ret (.call "neg" (.cons (.call "dia" (.cons (.call "conjunction" (.cons (.lc false [3] (.nm 3) (.sq (.met (.fld (.var 0) "first") "seen" (.cons (.var 5) .nil))) .nil (.el (.call "neg" (.cons (.met (.var 0) "formula" (.cons (.tup (.cons (.var 3) (.cons (.var 4) .nil))) .nil)) .nil)))) .nil)) .nil)) .nil)))]
def d_Rounds_formula : He.DefD := ⟨("Rounds", some "formula"), "formula", "Rounds.formula", defArgs st_Rounds_formula, defBody st_Rounds_formula, defScope st_Rounds_formula, [], []⟩
theorem ck_Rounds_formula : (scB N_Rounds_formula ["self", "pair"] (defScope st_Rounds_formula) && ckSs N_Rounds_formula (defScope st_Rounds_formula) m_Rounds_formula (defBody st_Rounds_formula)) = true := by decide +kernel
/-! greatest_bisimulation -/
abbrev st_greatest_bisimulation : Stmt := (top 25)
def N_greatest_bisimulation : List Str := ["first", "second", "told", "v", "w"]
def m_greatest_bisimulation : List S := [
  (.set 2 (.fld (.mk "Rounds" (.cons (.var 0) (.cons (.var 1) .nil))) "found")),
  (.ret (.lc false [3, 4] (.nm 3) (.rg (.ix (.met (.var 0) "frame" .nil) (.cst (.int 0)))) .nil (.fo (.nm 4) (.rg (.ix (.met (.var 1) "frame" .nil) (.cst (.int 0)))) (.cons (.cmp .NotIn (.tup (.cons (.var 3) (.cons (.var 4) .nil))) (.var 2)) .nil) (.el (.tup (.cons (.var 3) (.cons (.var 4) .nil)))))))]
def d_greatest_bisimulation : He.DefD := ⟨("greatest_bisimulation", none), "greatest_bisimulation", "greatest_bisimulation", defArgs st_greatest_bisimulation, defBody st_greatest_bisimulation, defScope st_greatest_bisimulation, [], []⟩
theorem ck_greatest_bisimulation : (scB N_greatest_bisimulation ["first", "second"] (defScope st_greatest_bisimulation) && ckSs N_greatest_bisimulation (defScope st_greatest_bisimulation) m_greatest_bisimulation (defBody st_greatest_bisimulation)) = true := by decide +kernel
/-! class_of -/
abbrev st_class_of : Stmt := (top 26)
def N_class_of : List Str := ["model", "alike", "leasts", "order", "v", "least", "u", "w"]
def m_class_of : List S := [
  (.set 1 (.call "greatest_bisimulation" (.cons (.var 0) (.cons (.var 0) .nil)))),
  (.set 2 (.lc false [4] (.nm 4) (.rg (.ix (.met (.var 0) "frame" .nil) (.cst (.int 0)))) .nil (.el (.blt .min (.cons (.lc false [6, 7] (.tp [6, 7]) (.sq (.var 1)) (.cons (.cmp .Eq (.var 6) (.var 4)) .nil) (.el (.var 7))) .nil))))),
  (.set 3 (.xf 0 (.cons (.var 2) .nil))),
  (.ret (.lc false [5] (.nm 5) (.sq (.var 2)) .nil (.el (.bm (.var 3) .index (.cons (.var 5) .nil)))))]
def d_class_of : He.DefD := ⟨("class_of", none), "class_of", "class_of", defArgs st_class_of, defBody st_class_of, defScope st_class_of, [], []⟩
theorem ck_class_of : (scB N_class_of ["model"] (defScope st_class_of) && ckSs N_class_of (defScope st_class_of) m_class_of (defBody st_class_of)) = true := by decide +kernel
/-! smallest -/
abbrev st_smallest : Stmt := (top 27)
def N_smallest : List Str := ["model", "number", "pairs", "values", "kept", "name", "v", "w"]
def m_smallest : List S := [
  (.set 1 (.call "class_of" (.cons (.var 0) .nil))),
  (.set 2 (.ssc [6, 7] (.tp [6, 7]) (.sq (.ix (.met (.var 0) "frame" .nil) (.cst (.int 1)))) .nil (.tup (.cons (.ix (.var 1) (.var 6)) (.cons (.ix (.var 1) (.var 7)) .nil))))),
  (.set 3 (.frz (.met (.var 0) "true_worlds" .nil))),
  (.set 4 (.dc false [5] (.nm 5) (.dk (.var 3)) .nil (.var 5) (.lc false [6] (.nm 6) (.sq (.ix (.var 3) (.var 5))) .nil (.el (.ix (.var 1) (.var 6)))))),
  (.ret (.mk "Model" (.cons (.tup (.cons (.bin .Add (.blt .max (.cons (.var 1) .nil)) (.cst (.int 1))) (.cons (.blt .tuple (.cons (.var 2) .nil)) .nil))) (.cons (.var 4) .nil))))]
def d_smallest : He.DefD := ⟨("smallest", none), "smallest", "smallest", defArgs st_smallest, defBody st_smallest, defScope st_smallest, [], []⟩
theorem ck_smallest : (scB N_smallest ["model"] (defScope st_smallest) && ckSs N_smallest (defScope st_smallest) m_smallest (defBody st_smallest)) = true := by decide +kernel
/-! round_of -/
abbrev st_round_of : Stmt := (top 28)
def N_round_of : List Str := ["first", "v", "second", "w"]
def m_round_of : List S := [
  (.ret (.bm (.fld (.mk "Rounds" (.cons (.var 0) (.cons (.var 2) .nil))) "found") .get (.cons (.tup (.cons (.var 1) (.cons (.var 3) .nil))) (.cons (.neg (.cst (.int 1))) .nil))))]
def d_round_of : He.DefD := ⟨("round_of", none), "round_of", "round_of", defArgs st_round_of, defBody st_round_of, defScope st_round_of, [], []⟩
theorem ck_round_of : (scB N_round_of ["first", "v", "second", "w"] (defScope st_round_of) && ckSs N_round_of (defScope st_round_of) m_round_of (defBody st_round_of)) = true := by decide +kernel
/-! telling -/
abbrev st_telling : Stmt := (top 29)
def N_telling : List Str := ["first", "v", "second", "w", "rounds"]
def m_telling : List S := [
  (.set 4 (.mk "Rounds" (.cons (.var 0) (.cons (.var 2) .nil)))),
  (.ite (.cmp .NotIn (.tup (.cons (.var 1) (.cons (.var 3) .nil))) (.fld (.var 4) "found")) [.nev] []),
  (.ret (.met (.var 4) "formula" (.cons (.tup (.cons (.var 1) (.cons (.var 3) .nil))) .nil)))]
def d_telling : He.DefD := ⟨("telling", none), "telling", "telling", defArgs st_telling, defBody st_telling, defScope st_telling, [], []⟩
theorem ck_telling : (scB N_telling ["first", "v", "second", "w"] (defScope st_telling) && ckSs N_telling (defScope st_telling) m_telling (defBody st_telling)) = true := by decide +kernel
/-! _law_pool -/
abbrev st__law_pool : Stmt := (top 31)
def N__law_pool : List Str := ["script", "salt", "cell"]
def m__law_pool : List S := [
  (.set 1 (.cst (.int 7))),
  (.for_ (.nm 2) (.sq (.sl (.var 0) .no (.so (.cst (.int 63))))) [(.set 1 (.bin .Mod (.blt .int (.cons (.bin .Add (.bin .Mult (.var 1) (.cst (.int 31))) (.var 2)) .nil)) (.cst (.int 1000003))))]),
  (.ret (.new (.cons (.blt .list (.cons (.var 0) .nil)) (.cons (.cst (.int 0)) (.cons (.cst (.int 0)) (.cons (.cst (.int 0)) (.cons (.var 1) .nil)))))))]
def d__law_pool : He.DefD := ⟨("_law_pool", none), "_law_pool", "_law_pool", defArgs st__law_pool, defBody st__law_pool, defScope st__law_pool, [], []⟩
theorem ck__law_pool : (scB N__law_pool ["script"] (defScope st__law_pool) && ckSs N__law_pool (defScope st__law_pool) m__law_pool (defBody st__law_pool)) = true := by decide +kernel
/-! _law_spread -/
abbrev st__law_spread : Stmt := (top 32)
def N__law_spread : List Str := ["cell", "blended", "whole_sum", "k"]
def m__law_spread : List S := [
  (.set 1 (.bin .Mod (.blt .int (.cons (.var 0) .nil)) (.cst (.int 2147483647)))),
  (.set 2 (.cst (.int 1))),
  (.for_ (.nm 3) (.rg (.cst (.int 4))) [(.set 1 (.bin .Mod (.blt .int (.cons (.bin .Add (.bin .Add (.bin .Mult (.var 1) (.cst (.int 48271))) (.cst (.int 12345))) (.var 3)) .nil)) (.cst (.int 2147483647)))), (.set 2 (.bin .Add (.bin .Mult (.var 2) (.cst (.int 2147483647))) (.var 1)))]),
  (.ret (.var 2))]
def d__law_spread : He.DefD := ⟨("_law_spread", none), "_law_spread", "_law_spread", defArgs st__law_spread, defBody st__law_spread, defScope st__law_spread, [], []⟩
theorem ck__law_spread : (scB N__law_spread ["cell"] (defScope st__law_spread) && ckSs N__law_spread (defScope st__law_spread) m__law_spread (defBody st__law_spread)) = true := by decide +kernel
/-! _law_draw -/
abbrev st__law_draw : Stmt := (top 33)
def N__law_draw : List Str := ["pool", "many", "value", "cell", "blended"]
def m__law_draw : List S := [
  (.ite (.and (.cmp .LtE (.ix (.var 0) (.cst (.int 2))) (.cst (.int 0))) (.cmp .Lt (.ix (.var 0) (.cst (.int 1))) (.blt .len (.cons (.ix (.var 0) (.cst (.int 0))) .nil)))) [(.set 3 (.ix (.ix (.var 0) (.cst (.int 0))) (.ix (.var 0) (.cst (.int 1))))), (.sub (.var 0) (.cst (.int 1)) (.bin .Add (.ix (.var 0) (.cst (.int 1))) (.cst (.int 1)))), (.sub (.var 0) (.cst (.int 2)) (.var 3)), (.ite (.cmp .Lt (.var 3) (.cst (.int 1000000000000000000))) [(.sub (.var 0) (.cst (.int 2)) (.call "_law_spread" (.cons (.var 3) .nil)))] [])] []),
  (.sub (.var 0) (.cst (.int 3)) (.bin .Add (.ix (.var 0) (.cst (.int 3))) (.cst (.int 1)))),
  (.ite (.cmp .LtE (.ix (.var 0) (.cst (.int 2))) (.cst (.int 0))) [(.set 4 (.bin .Mod (.blt .int (.cons (.bin .Add (.bin .Add (.bin .Mult (.ix (.var 0) (.cst (.int 4))) (.cst (.int 48271))) (.bin .Mult (.ix (.var 0) (.cst (.int 3))) (.cst (.int 69621)))) (.cst (.int 1))) .nil)) (.cst (.int 2147483647)))), (.set 4 (.bin .Mod (.blt .int (.cons (.bin .Add (.bin .Mult (.var 4) (.cst (.int 16807))) (.ix (.var 0) (.cst (.int 3)))) .nil)) (.cst (.int 2147483629)))), (.ret (.bin .Mod (.bin .FloorDiv (.var 4) (.cst (.int 5))) (.var 1)))] []),
  (.set 2 (.bin .Mod (.blt .int (.cons (.ix (.var 0) (.cst (.int 2))) .nil)) (.var 1))),
  (.sub (.var 0) (.cst (.int 2)) (.bin .FloorDiv (.ix (.var 0) (.cst (.int 2))) (.var 1))),
  (.ret (.var 2))]
def d__law_draw : He.DefD := ⟨("_law_draw", none), "_law_draw", "_law_draw", defArgs st__law_draw, defBody st__law_draw, defScope st__law_draw, [], []⟩
theorem ck__law_draw : (scB N__law_draw ["pool", "many"] (defScope st__law_draw) && ckSs N__law_draw (defScope st__law_draw) m__law_draw (defBody st__law_draw)) = true := by decide +kernel
/-! _law_some_model -/
abbrev st__law_some_model : Stmt := (top 34)
def N__law_some_model : List Str := ["pool", "most", "number", "pairs", "v", "values", "name", "w"]
def m__law_some_model : List S := [
  (.set 2 (.bin .Add (.cst (.int 1)) (.call "_law_draw" (.cons (.var 0) (.cons (.var 1) .nil))))),
  (.set 3 (.dsp .nil)),
  (.for_ (.nm 4) (.rg (.var 2)) [(.set 3 (.bin .Add (.var 3) (.lc false [7] (.nm 7) (.rg (.var 2)) (.cons (.cmp .Eq (.call "_law_draw" (.cons (.var 0) (.cons (.cst (.int 3)) .nil))) (.cst (.int 0))) .nil) (.el (.tup (.cons (.var 4) (.cons (.var 7) .nil)))))))]),
  (.set 5 .dnw),
  (.for_ (.nm 6) (.sq (.dsp (.cons (.cst (.str "p")) (.cons (.cst (.str "q")) .nil)))) [(.sub (.var 5) (.var 6) (.lc false [4] (.nm 4) (.rg (.var 2)) (.cons (.cmp .Eq (.call "_law_draw" (.cons (.var 0) (.cons (.cst (.int 2)) .nil))) (.cst (.int 0))) .nil) (.el (.var 4))))]),
  (.ret (.frz (.tup (.cons (.var 2) (.cons (.var 3) (.cons (.var 5) .nil))))))]
def d__law_some_model : He.DefD := ⟨("_law_some_model", none), "_law_some_model", "_law_some_model", defArgs st__law_some_model, defBody st__law_some_model, defScope st__law_some_model, [], []⟩
theorem ck__law_some_model : (scB N__law_some_model ["pool", "most"] (defScope st__law_some_model) && ckSs N__law_some_model (defScope st__law_some_model) m__law_some_model (defBody st__law_some_model)) = true := by decide +kernel
/-! _law_pick -/
abbrev st__law_pick : Stmt := (top 35)
def N__law_pick : List Str := ["pool", "items"]
def m__law_pick : List S := [
  (.ret (.ix (.var 1) (.call "_law_draw" (.cons (.var 0) (.cons (.blt .len (.cons (.var 1) .nil)) .nil)))))]
def d__law_pick : He.DefD := ⟨("_law_pick", none), "_law_pick", "_law_pick", defArgs st__law_pick, defBody st__law_pick, defScope st__law_pick, [], []⟩
theorem ck__law_pick : (scB N__law_pick ["pool", "items"] (defScope st__law_pick) && ckSs N__law_pick (defScope st__law_pick) m__law_pick (defBody st__law_pick)) = true := by decide +kernel
/-! _law_not -/
abbrev st__law_not : Stmt := (top 36)
def N__law_not : List Str := ["a"]
def m__law_not : List S := [
  (.ret (.tup (.cons (.cst (.str "implies")) (.cons (.var 0) (.cons (.tup (.cons (.cst (.str "falsum")) .nil)) .nil)))))]
def d__law_not : He.DefD := ⟨("_law_not", none), "_law_not", "_law_not", defArgs st__law_not, defBody st__law_not, defScope st__law_not, [], []⟩
theorem ck__law_not : (scB N__law_not ["a"] (defScope st__law_not) && ckSs N__law_not (defScope st__law_not) m__law_not (defBody st__law_not)) = true := by decide +kernel
/-! _law_tiny -/
abbrev st__law_tiny : Stmt := (top 37)
def N__law_tiny : List Str := ["pool", "names", "deep", "plain", "turn", "one"]
def m__law_tiny : List S := [
  (.set 4 (.call "_law_draw" (.cons (.var 0) (.cons (.ife (.cmp .Gt (.var 2) (.cst (.int 0))) (.cst (.int 9)) (.cst (.int 4))) .nil)))),
  (.ite (.cmp .Lt (.var 4) (.cst (.int 4))) [(.ret (.ife (.and (.cmp .Eq (.var 4) (.cst (.int 0))) (.cmp .Eq (.call "_law_draw" (.cons (.var 0) (.cons (.cst (.int 3)) .nil))) (.cst (.int 0)))) (.tup (.cons (.cst (.str "falsum")) .nil)) (.tup (.cons (.cst (.str "var")) (.cons (.call "_law_pick" (.cons (.var 0) (.cons (.var 1) .nil))) .nil)))))] []),
  (.ite (.cmp .Eq (.var 4) (.cst (.int 4))) [(.ret (.call "_law_not" (.cons (.call "_law_tiny" (.cons (.var 0) (.cons (.var 1) (.cons (.bin .Sub (.var 2) (.cst (.int 1))) (.cons (.var 3) .nil))))) .nil)))] []),
  (.ite (.and (.cmp .Eq (.var 4) (.cst (.int 5))) (.not (.var 3))) [(.ret (.tup (.cons (.cst (.str "box")) (.cons (.call "_law_tiny" (.cons (.var 0) (.cons (.var 1) (.cons (.bin .Sub (.var 2) (.cst (.int 1))) (.cons (.var 3) .nil))))) .nil))))] []),
  (.set 5 (.call "_law_tiny" (.cons (.var 0) (.cons (.var 1) (.cons (.bin .Sub (.var 2) (.cst (.int 1))) (.cons (.var 3) .nil)))))),
  (.ret (.tup (.cons (.call "_law_pick" (.cons (.var 0) (.cons (.dsp (.cons (.cst (.str "and")) (.cons (.cst (.str "or")) (.cons (.cst (.str "implies")) .nil)))) .nil))) (.cons (.var 5) (.cons (.call "_law_tiny" (.cons (.var 0) (.cons (.var 1) (.cons (.bin .Sub (.var 2) (.cst (.int 1))) (.cons (.var 3) .nil))))) .nil)))))]
def d__law_tiny : He.DefD := ⟨("_law_tiny", none), "_law_tiny", "_law_tiny", defArgs st__law_tiny, defBody st__law_tiny, defScope st__law_tiny, [], []⟩
theorem ck__law_tiny : (scB N__law_tiny ["pool", "names", "deep", "plain"] (defScope st__law_tiny) && ckSs N__law_tiny (defScope st__law_tiny) m__law_tiny (defBody st__law_tiny)) = true := by decide +kernel
/-! _law_so_at -/
abbrev st__law_so_at : Stmt := (top 38)
def N__law_so_at : List Str := ["model", "a", "v", "number", "pairs", "values", "one", "two", "u", "w"]
def m__law_so_at : List S := [
  (.unp [3, 4, 5] (.var 0)),
  (.ite (.cmp .Eq (.ix (.var 1) (.cst (.int 0))) (.cst (.str "var"))) [(.ret (.and (.cmp .In (.ix (.var 1) (.cst (.int 1))) (.var 5)) (.cmp .In (.var 2) (.ix (.var 5) (.ix (.var 1) (.cst (.int 1)))))))] []),
  (.ite (.cmp .Eq (.ix (.var 1) (.cst (.int 0))) (.cst (.str "falsum"))) [(.ret (.cst (.bl false)))] []),
  (.ite (.cmp .Eq (.ix (.var 1) (.cst (.int 0))) (.cst (.str "box"))) [(.ret (.cmp .Eq (.blt .len (.cons (.lc false [8, 9] (.tp [8, 9]) (.sq (.var 4)) (.cons (.and (.cmp .Eq (.var 8) (.var 2)) (.not (.call "_law_so_at" (.cons (.var 0) (.cons (.ix (.var 1) (.cst (.int 1))) (.cons (.var 9) .nil)))))) .nil) (.el (.var 9))) .nil)) (.cst (.int 0))))] []),
  (.par 6 7 (.call "_law_so_at" (.cons (.var 0) (.cons (.ix (.var 1) (.cst (.int 1))) (.cons (.var 2) .nil)))) (.call "_law_so_at" (.cons (.var 0) (.cons (.ix (.var 1) (.cst (.int 2))) (.cons (.var 2) .nil))))),
  (.ret (.ife (.cmp .Eq (.ix (.var 1) (.cst (.int 0))) (.cst (.str "and"))) (.and (.var 6) (.var 7)) (.ife (.cmp .Eq (.ix (.var 1) (.cst (.int 0))) (.cst (.str "or"))) (.or (.var 6) (.var 7)) (.or (.var 7) (.not (.var 6))))))]
def d__law_so_at : He.DefD := ⟨("_law_so_at", none), "_law_so_at", "_law_so_at", defArgs st__law_so_at, defBody st__law_so_at, defScope st__law_so_at, [], []⟩
theorem ck__law_so_at : (scB N__law_so_at ["model", "a", "v"] (defScope st__law_so_at) && ckSs N__law_so_at (defScope st__law_so_at) m__law_so_at (defBody st__law_so_at)) = true := by decide +kernel
/-! law -/
abbrev st_law : Stmt := (top 39)
def N_law : List Str := ["script", "pool", "shift", "pairs", "values", "name", "whole", "k", "apart", "one", "two", "v", "w", "first", "second", "a", "due", "part", "before", "told", "x", "y"]
def m_law : List S := [
  (.set 1 (.call "_law_pool" (.cons (.var 0) .nil))),
  (.par 9 10 (.call "_law_some_model" (.cons (.var 1) (.cons (.cst (.int 4)) .nil))) (.call "_law_some_model" (.cons (.var 1) (.cons (.cst (.int 4)) .nil)))),
  (.par 11 12 (.call "_law_draw" (.cons (.var 1) (.cons (.ix (.var 9) (.cst (.int 0))) .nil))) (.call "_law_draw" (.cons (.var 1) (.cons (.ix (.var 10) (.cst (.int 0))) .nil)))),
  (.set 2 (.bin .Add (.cst (.int 1)) (.ix (.var 9) (.cst (.int 0))))),
  (.set 3 (.bin .Add (.bin .Add (.dsp (.cons (.tup (.cons (.cst (.int 0)) (.cons (.bin .Add (.var 11) (.cst (.int 1))) .nil))) (.cons (.tup (.cons (.cst (.int 0)) (.cons (.bin .Add (.var 12) (.var 2)) .nil))) .nil))) (.lc false [20, 21] (.tp [20, 21]) (.sq (.ix (.var 9) (.cst (.int 1)))) .nil (.el (.tup (.cons (.bin .Add (.var 20) (.cst (.int 1))) (.cons (.bin .Add (.var 21) (.cst (.int 1))) .nil)))))) (.lc false [20, 21] (.tp [20, 21]) (.sq (.ix (.var 10) (.cst (.int 1)))) .nil (.el (.tup (.cons (.bin .Add (.var 20) (.var 2)) (.cons (.bin .Add (.var 21) (.var 2)) .nil))))))),
  (.set 4 .dnw),
  (.for_ (.nm 5) (.sq (.dsp (.cons (.cst (.str "p")) (.cons (.cst (.str "q")) .nil)))) [(.sub (.var 4) (.var 5) (.bin .Add (.lc false [20] (.nm 20) (.sq (.ix (.ix (.var 9) (.cst (.int 2))) (.var 5))) .nil (.el (.bin .Add (.var 20) (.cst (.int 1))))) (.lc false [20] (.nm 20) (.sq (.ix (.ix (.var 10) (.cst (.int 2))) (.var 5))) .nil (.el (.bin .Add (.var 20) (.var 2))))))]),
  (.set 6 (.mk "Model" (.cons (.tup (.cons (.bin .Add (.var 2) (.ix (.var 10) (.cst (.int 0)))) (.cons (.blt .tuple (.cons (.blt .sorted (.cons (.var 3) .nil)) .nil)) .nil))) (.cons (.frz (.var 4)) .nil)))),
  (.par 13 14 (.mk "Model" (.cons (.tup (.cons (.ix (.var 9) (.cst (.int 0))) (.cons (.blt .tuple (.cons (.blt .sorted (.cons (.ix (.var 9) (.cst (.int 1))) .nil)) .nil)) .nil))) (.cons (.ix (.var 9) (.cst (.int 2))) .nil))) (.mk "Model" (.cons (.tup (.cons (.ix (.var 10) (.cst (.int 0))) (.cons (.blt .tuple (.cons (.blt .sorted (.cons (.ix (.var 10) (.cst (.int 1))) .nil)) .nil)) .nil))) (.cons (.ix (.var 10) (.cst (.int 2))) .nil)))),
  (.for_ (.nm 7) (.rg (.cst (.int 4))) [(.set 15 (.call "_law_tiny" (.cons (.var 1) (.cons (.dsp (.cons (.cst (.str "p")) (.cons (.cst (.str "q")) .nil))) (.cons (.cst (.int 2)) (.cons (.cst (.bl false)) .nil)))))), (.set 16 (.dsp (.cons (.call "_law_so_at" (.cons (.var 9) (.cons (.var 15) (.cons (.var 11) .nil)))) (.cons (.call "_law_so_at" (.cons (.var 10) (.cons (.var 15) (.cons (.var 12) .nil)))) .nil)))), (.ite (.cmp .NotEq (.dsp (.cons (.cmp .In (.var 11) (.call "truth" (.cons (.var 13) (.cons (.var 15) .nil)))) (.cons (.cmp .In (.var 12) (.call "truth" (.cons (.var 14) (.cons (.var 15) .nil)))) .nil))) (.var 16)) [(.ret (.cst (.bl false)))] []), (.ite (.or (.cmp .NotEq (.cmp .In (.cst (.int 0)) (.call "truth" (.cons (.var 6) (.cons (.tup (.cons (.cst (.str "box")) (.cons (.var 15) .nil))) .nil)))) (.and (.ix (.var 16) (.cst (.int 0))) (.ix (.var 16) (.cst (.int 1))))) (.cmp .NotEq (.cmp .In (.cst (.int 0)) (.call "truth" (.cons (.var 6) (.cons (.call "dia" (.cons (.var 15) .nil)) .nil)))) (.or (.ix (.var 16) (.cst (.int 0))) (.ix (.var 16) (.cst (.int 1)))))) [(.ret (.cst (.bl false)))] []), (.ite (.or (.cmp .NotEq (.cmp .In (.bin .Add (.var 11) (.cst (.int 1))) (.call "truth" (.cons (.var 6) (.cons (.var 15) .nil)))) (.ix (.var 16) (.cst (.int 0)))) (.cmp .NotEq (.cmp .In (.bin .Add (.var 12) (.var 2)) (.call "truth" (.cons (.var 6) (.cons (.var 15) .nil)))) (.ix (.var 16) (.cst (.int 1))))) [(.ret (.cst (.bl false)))] [])]),
  (.ite (.or (.cmp .NotEq (.call "round_of" (.cons (.var 13) (.cons (.var 11) (.cons (.var 6) (.cons (.bin .Add (.var 11) (.cst (.int 1))) .nil))))) (.neg (.cst (.int 1)))) (.cmp .NotEq (.call "round_of" (.cons (.var 6) (.cons (.bin .Add (.var 12) (.var 2)) (.cons (.var 14) (.cons (.var 12) .nil))))) (.neg (.cst (.int 1))))) [(.ret (.cst (.bl false)))] []),
  (.par 17 18 (.call "generated" (.cons (.var 6) (.cons (.bin .Add (.var 11) (.cst (.int 1))) .nil))) (.call "generated" (.cons (.var 13) (.cons (.var 11) .nil)))),
  (.ite (.or (.cmp .NotEq (.ix (.met (.var 17) "frame" .nil) (.cst (.int 0))) (.ix (.met (.var 18) "frame" .nil) (.cst (.int 0)))) (.or (.cmp .NotEq (.met (.var 17) "frame" .nil) (.met (.var 18) "frame" .nil)) (.cmp .NotEq (.frz (.met (.var 17) "true_worlds" .nil)) (.frz (.met (.var 18) "true_worlds" .nil))))) [(.ret (.cst (.bl false)))] []),
  (.set 8 (.call "round_of" (.cons (.var 13) (.cons (.var 11) (.cons (.var 14) (.cons (.var 12) .nil)))))),
  (.ite (.or (.cmp .NotEq (.var 8) (.call "round_of" (.cons (.var 6) (.cons (.bin .Add (.var 11) (.cst (.int 1))) (.cons (.var 6) (.cons (.bin .Add (.var 12) (.var 2)) .nil)))))) (.cmp .NotEq (.var 8) (.call "round_of" (.cons (.var 14) (.cons (.var 12) (.cons (.var 13) (.cons (.var 11) .nil))))))) [(.ret (.cst (.bl false)))] []),
  (.ite (.cmp .GtE (.var 8) (.cst (.int 0))) [(.set 19 (.call "telling" (.cons (.var 13) (.cons (.var 11) (.cons (.var 14) (.cons (.var 12) .nil)))))), (.ite (.or (.isb true (.call "_law_so_at" (.cons (.var 9) (.cons (.var 19) (.cons (.var 11) .nil)))) (.cst (.bl true))) (.or (.isb true (.call "_law_so_at" (.cons (.var 10) (.cons (.var 19) (.cons (.var 12) .nil)))) (.cst (.bl false))) (.cmp .In (.cst (.int 0)) (.call "truth" (.cons (.var 6) (.cons (.tup (.cons (.cst (.str "box")) (.cons (.var 19) .nil))) .nil)))))) [(.ret (.cst (.bl false)))] [])] []),
  (.ret (.and (.cmp .Eq (.ix (.met (.call "disjoint" (.cons (.var 13) (.cons (.var 14) .nil))) "frame" .nil) (.cst (.int 0))) (.bin .Add (.ix (.var 9) (.cst (.int 0))) (.ix (.var 10) (.cst (.int 0))))) (.cmp .LtE (.ix (.met (.call "smallest" (.cons (.var 6) .nil)) "frame" .nil) (.cst (.int 0))) (.bin .Add (.var 2) (.ix (.var 10) (.cst (.int 0)))))))]
def d_law : He.DefD := ⟨("law", none), "law", "law", defArgs st_law, defBody st_law, defScope st_law, [], []⟩
theorem ck_law : (scB N_law ["script"] (defScope st_law) && ckSs N_law (defScope st_law) m_law (defBody st_law)) = true := by decide +kernel
end K94
namespace K94
open PySem L2 Vc
/-! S94: what each def promises. -/
def F.v : F → Val
  | .var x => .tup [.str "var", .str x]
  | .fls => .tup [.str "falsum"]
  | .imp a b => .tup [.str "implies", a.v, b.v]
  | .con a b => .tup [.str "and", a.v, b.v]
  | .dis a b => .tup [.str "or", a.v, b.v]
  | .box a => .tup [.str "box", a.v]
def nt (a : F) : F := .imp a .fls
def di (a : F) : F := nt (.box (nt a))
def vr : F := nt .fls
def frV (n : Nat) (ps : List (Nat × Nat)) : Val := .tup [wV n, .tup (ps.map pV)]
def dL (vs : List (Str × List Nat)) : List (Key × Val) := vs.map fun p => (.inr p.1, lV p.2)
def dV (vs : List (Str × List Nat)) : Val := .dct (dL vs)
def seenV (M : Mo) : Val := .lst ((List.range M.n).map fun v => lV (M.see v))
def mfs (M : Mo) : List (Str × Val) := [("_frame", frV M.n M.ps), ("_seen", seenV M), ("_values", dV M.vs)]
def Mo.v (M : Mo) : Val := .obj "Model" (mfs M)
def ltN (p q : Nat × Nat) : Prop := p.1 < q.1 ∨ (p.1 = q.1 ∧ p.2 < q.2)
structure FrOk (n : Nat) (ps : List (Nat × Nat)) : Prop where
  n0 : 1 ≤ n
  n1 : n ≤ 60
  lt : ∀ p ∈ ps, p.1 < n ∧ p.2 < n
  so : ps.Pairwise ltN
  pl : ps.length ≤ 60
structure VsOk (n : Nat) (kvs : List (Str × List Nat)) : Prop where
  nd : (kvs.map (·.1)).Nodup
  lt : ∀ p ∈ kvs, ∀ w ∈ p.2, w < n
  ll : ∀ p ∈ kvs, p.2.length ≤ 60
  kl : kvs.length ≤ 60
def sd (l : List Nat) : List Nat := (List.range 64).filter fun w => decide (w ∈ l)
def nzs (kvs : List (Str × List Nat)) : List (Str × List Nat) := (kvs.filter fun p => !decide (p.2 = [])).map fun p => (p.1, sd p.2)
/-- fit for rounds -/
structure Mo.Cn (M : Mo) : Prop extends M.Ok where
  fr : FrOk M.n M.ps
  vk : VsOk M.n M.vs
  l9 : ∀ p ∈ M.vs, p.2.length ≤ 9
  nm : M.vs.map (·.1) = [] ∨ M.vs.map (·.1) = [("p" : Str)] ∨ M.vs.map (·.1) = [("q" : Str)] ∨ M.vs.map (·.1) = [("p" : Str), "q"]
def R_neg : Nat → Vc.Spec := fun _ vs h Q _ => ∃ a : F, vs = [a.v] ∧ Q (nt a).v h
def R_verum : Nat → Vc.Spec := fun j vs h Q _ => 1 ≤ j ∧ vs = [] ∧ Q vr.v h
def R_dia : Nat → Vc.Spec := fun j vs h Q _ => 1 ≤ j ∧ ∃ a : F, vs = [a.v] ∧ Q (di a).v h
def R_joined_by : Nat → Vc.Spec := fun _ vs h Q _ => ∃ (as : List F) (e : F), as.length ≤ 60 ∧ vs = [.str "and", .lst (as.map F.v), e.v] ∧ (as = [] → Q e.v h) ∧ ∀ l z, as = l ++ [z] → Q (l.foldr F.con z).v h
def R_conjunction : Nat → Vc.Spec := fun j vs h Q _ => 2 ≤ j ∧ ∃ as : List F, as.length ≤ 60 ∧ vs = [.lst (as.map F.v)] ∧ (as = [] → Q vr.v h) ∧ ∀ l z, as = l ++ [z] → Q (l.foldr F.con z).v h
def R_is_world : Nat → Vc.Spec := fun _ vs h Q _ => ∃ w n : Nat, w < n ∧ vs = [wV w, wV n] ∧ Q (.bl true) h
def R_is_frame : Nat → Vc.Spec := fun j vs h Q _ => 1 ≤ j ∧ ∃ n ps, FrOk n ps ∧ vs = [frV n ps] ∧ Q (.bl true) h
def R_Model___init__ : Nat → Vc.Spec := fun j vs h Q _ => 2 ≤ j ∧ ∃ (a : Addr) (h0 : CH) (n : Nat) (ps : List (Nat × Nat)) (kvs : List (Str × List Nat)), h0 a = none ∧ h = h0.set a (.obj "Model" []) ∧ FrOk n ps ∧ VsOk n kvs ∧ vs = [.ref a, frV n ps, dV kvs] ∧
  ∀ h' : CH, (∀ b, h0 b ≠ none → h' b = h0 b) → (∀ b, h0 b = none → h' b ≠ some junk) → fz 3 h' (fun b => (h0 b).isNone) (.ref a) = (Mo.mk n ps (nzs kvs)).v → Q .non h'
def R_Model_frame : Nat → Vc.Spec := fun _ vs h Q _ => ∃ M : Mo, vs = [M.v] ∧ Q (frV M.n M.ps) h
def R_Model_true_worlds : Nat → Vc.Spec := fun _ vs h Q _ => ∃ M : Mo, (M.vs.map (·.1)).Nodup ∧ M.vs.length ≤ 60 ∧ vs = [M.v] ∧ ∀ p, h p = none → Q (.ref p) (h.set p (dV M.vs))
def R_Model_seen : Nat → Vc.Spec := fun _ vs h Q _ => ∃ (M : Mo) (v : Nat), v < M.n ∧ vs = [M.v, wV v] ∧ Q (lV (M.see v)) h
def R_worlds_of : Nat → Vc.Spec := fun j vs h Q _ => 1 ≤ j ∧ ∃ M : Mo, M.n ≤ 60 ∧ vs = [M.v] ∧ Q (lV (List.range M.n)) h
def R_evaluated : Nat → Vc.Spec := fun j vs h Q _ => ∃ (M : Mo) (a : F), M.Cn ∧ a.ht + 2 ≤ j ∧ vs = [M.v, a.v, .bl false] ∧ Q (lV (ev M a)) h
def R_truth : Nat → Vc.Spec := fun j vs h Q _ => ∃ (M : Mo) (a : F), M.Cn ∧ a.ht + 3 ≤ j ∧ vs = [M.v, a.v] ∧ Q (lV (ev M a)) h
/-- the number of a world in a row -/
def numb (ws : List Nat) (v : Nat) : Nat := ws.idxOf v
def partP (M : Mo) (ws : List Nat) : List (Nat × Nat) := (M.ps.filter fun p => decide (p.1 ∈ ws) && decide (p.2 ∈ ws)).map fun p => (numb ws p.1, numb ws p.2)
def partV (M : Mo) (ws : List Nat) : List (Str × List Nat) := M.vs.map fun p => (p.1, (p.2.filter fun v => decide (v ∈ ws)).map (numb ws))
def R_part_of : Nat → Vc.Spec := fun j vs h Q _ => 4 ≤ j ∧ ∃ (M : Mo) (ws : List Nat), M.Cn ∧ ws ≠ [] ∧ ws.Nodup ∧ (∀ w ∈ ws, w < M.n) ∧ vs = [M.v, lV ws] ∧ ∀ qs : List (Nat × Nat), qs.Perm (partP M ws) → qs.Pairwise ltN → Q (Mo.mk ws.length qs (nzs (partV M ws))).v h
/-- what is reached from a row of worlds -/
def push (l : List Nat) (w : Nat) : List Nat := if w ∈ l then l else l ++ [w]
inductive Rch (M : Mo) : Nat → List Nat → List Nat → Prop
  | done {at_ : Nat} {l : List Nat} (h : l.length ≤ at_) : Rch M at_ l l
  | step {at_ v : Nat} {l r : List Nat} (h : l[at_]? = some v) (n : Rch M (at_ + 1) ((M.see v).foldl push l) r) : Rch M at_ l r
def R_generated : Nat → Vc.Spec := fun j vs h Q _ => 5 ≤ j ∧ ∃ (M : Mo) (v : Nat), M.Cn ∧ v < M.n ∧ vs = [M.v, wV v] ∧ ∀ (h' : CH) (r ws : List Nat) (qs : List (Nat × Nat)), Ext h h' → Rch M 0 [v] (v :: r) → ws.Perm r → ws.Pairwise (· ≤ ·) → qs.Perm (partP M (v :: ws)) → qs.Pairwise ltN → ws.length + 1 ≤ 60 →
  Q (Mo.mk (ws.length + 1) qs (nzs (partV M (v :: ws)))).v h'
def R_disjoint : Nat → Vc.Spec := fun j vs h Q _ => 4 ≤ j ∧ ∃ A B : Mo, A.Cn ∧ B.Cn ∧ A.ps.length + B.ps.length ≤ 60 ∧ vs = [A.v, B.v] ∧ ∀ M : Mo, M.n = A.n + B.n → Q M.v h
def R_names_at : Nat → Vc.Spec := fun j vs h Q _ => 1 ≤ j ∧ ∃ (M : Mo) (v : Nat), M.Cn ∧ vs = [M.v, wV v] ∧ Q (.lst ((na M v).map .str)) h
def encT (L : Ta) : List (List Key × Val) := L.map fun q => ([.inl (q.1.1 : Int), .inl (q.1.2 : Int)], wV q.2)
def rfs (A B : Mo) (f : Val) : List (Str × Val) := [("first", A.v), ("second", B.v), ("found", f)]
/-- a table of rounds, done or not -/
def RdAt (h : CH) (x : Val) (A B : Mo) (L : Ta) : Prop := ∃ f, rdO h x = some (("Rounds" : Str), rfs A B f) ∧ rdP h f = some (encT L)
def rdV (A B : Mo) (L : Ta) : Val := .obj "Rounds" (rfs A B (.dtt (encT L)))
def R_Rounds___init__ : Nat → Vc.Spec := fun j vs h Q _ => 3 ≤ j ∧ ∃ (a : Addr) (h0 : CH) (A B : Mo), h0 a = none ∧ h = h0.set a (.obj "Rounds" []) ∧ A.Cn ∧ B.Cn ∧ vs = [.ref a, A.v, B.v] ∧
  ∀ (p : Addr) (L : Ta), h0 p = none → p ≠ a → Fi A B L → (∀ q r, (q, r) ∈ L → r ≤ L.length) → Q .non ((h0.set p (.dtt (encT L))).set a (.obj "Rounds" (rfs A B (.ref p))))
def R_Rounds_is_told : Nat → Vc.Spec := fun j vs h Q _ => 2 ≤ j ∧ ∃ (A B : Mo) (L : Ta) (x : Val) (v w : Nat), RdAt h x A B L ∧ A.Ok ∧ B.Ok ∧ v < A.n ∧ w < B.n ∧ vs = [x, pV (v, w)] ∧ Q (.bl (tell A B L v w)) h
def oV : Option Nat → Val
  | some x => wV x
  | none => .non
def leftW (A B : Mo) (L : Ta) (v w : Nat) : Option Nat := (A.see v).find? fun x => (B.see w).all fun y => hasK L (x, y)
def rightW (A B : Mo) (L : Ta) (v w : Nat) : Option Nat := (B.see w).find? fun y => (A.see v).all fun x => hasK L (x, y)
def R_Rounds_left_witness : Nat → Vc.Spec := fun j vs h Q _ => 1 ≤ j ∧ ∃ (A B : Mo) (L : Ta) (x : Val) (v w : Nat), RdAt h x A B L ∧ A.Ok ∧ B.Ok ∧ v < A.n ∧ w < B.n ∧ vs = [x, pV (v, w)] ∧ Q (oV (leftW A B L v w)) h
def R_Rounds_right_witness : Nat → Vc.Spec := fun j vs h Q _ => 1 ≤ j ∧ ∃ (A B : Mo) (L : Ta) (x : Val) (v w : Nat), RdAt h x A B L ∧ A.Ok ∧ B.Ok ∧ v < A.n ∧ w < B.n ∧ vs = [x, pV (v, w)] ∧ Q (oV (rightW A B L v w)) h
def R_Rounds_early : Nat → Vc.Spec := fun j vs h Q _ => 5 ≤ j ∧ ∃ (A B : Mo) (L : Ta) (r : Nat), (L.map (·.1)).Nodup ∧ L.length ≤ 100 ∧ vs = [rdV A B L, wV r] ∧ ∀ x h', RdAt h' x A B (L.filter fun q => decide (q.2 < r)) → Ext h h' → Q x h'
def R_Rounds_formula : Nat → Vc.Spec := fun j vs h Q _ => ∃ (A B : Mo) (L : Ta) (v w r : Nat), A.Cn ∧ B.Cn ∧ Fi A B L ∧ v < A.n ∧ w < B.n ∧ IsR A B v w r ∧ 6 + r ≤ j ∧ vs = [rdV A B L, pV (v, w)] ∧
  ∀ a h', Ext h h' → sat A a v = true → sat B a w = false → a.ht ≤ 20 * r + 20 → Q a.v h'
def R_greatest_bisimulation : Nat → Vc.Spec := fun j vs h Q _ => 5 ≤ j ∧ ∃ A B : Mo, A.Cn ∧ B.Cn ∧ vs = [A.v, B.v] ∧ ∀ l : List (Nat × Nat), l.length ≤ 100 → (∀ p, p ∈ l ↔ In A B p ∧ Never A B p.1 p.2) → Q (.lst (l.map pV)) h
def R_class_of : Nat → Vc.Spec := fun j vs h Q _ => 6 ≤ j ∧ ∃ M : Mo, M.Cn ∧ vs = [M.v] ∧ ∀ (cs : List Nat) (h' : CH), Ext h h' → cs.length = M.n → (∀ c ∈ cs, c < M.n) → Q (lV cs) h'
def R_smallest : Nat → Vc.Spec := fun j vs h Q _ => 7 ≤ j ∧ ∃ M : Mo, M.Cn ∧ vs = [M.v] ∧ ∀ (N : Mo) (h' : CH), Ext h h' → N.n ≤ M.n → Q N.v h'
def RoundIs (A B : Mo) (v w : Nat) (r : Int) : Prop := (r = -1 ∧ Never A B v w) ∨ ∃ k : Nat, r = k ∧ k ≤ A.n * B.n ∧ IsR A B v w k
def R_round_of : Nat → Vc.Spec := fun j vs h Q _ => 5 ≤ j ∧ ∃ (A B : Mo) (v w : Nat), A.Cn ∧ B.Cn ∧ v < A.n ∧ w < B.n ∧ vs = [A.v, wV v, B.v, wV w] ∧ ∀ r, RoundIs A B v w r → Q (.int r) h
def R_telling : Nat → Vc.Spec := fun j vs h Q _ => ∃ (A B : Mo) (v w r : Nat), A.Cn ∧ B.Cn ∧ v < A.n ∧ w < B.n ∧ IsR A B v w r ∧ 7 + r ≤ j ∧ vs = [A.v, wV v, B.v, wV w] ∧
  ∀ a h', Ext h h' → sat A a v = true → sat B a w = false → a.ht ≤ 20 * r + 20 → Q a.v h'
/-- the pool of draws -/
def PoolAt (a : Addr) (h : CH) : Prop := ∃ (ns : List Int) (i c k s : Int), 0 ≤ i ∧ h a = some (.lst [.lst (ns.map .int), .int i, .int c, .int k, .int s])
/-- the same but for the pool -/
def Sm (a : Addr) (h h' : CH) : Prop := PoolAt a h' ∧ ∀ b, b ≠ a → h' b = h b
def R__law_pool : Nat → Vc.Spec := fun _ vs h Q _ => ∃ ns : List Int, ns.length ≤ 63 ∧ vs = [.lst (ns.map .int)] ∧ ∀ a h', h a = none → Sm a h h' → Q (.ref a) h'
def R__law_spread : Nat → Vc.Spec := fun _ vs h Q _ => ∃ i : Int, vs = [.int i] ∧ ∀ j : Int, Q (.int j) h
def R__law_draw : Nat → Vc.Spec := fun j vs h Q _ => 1 ≤ j ∧ ∃ (a : Addr) (m : Nat), 0 < m ∧ m < 1000 ∧ PoolAt a h ∧ vs = [.ref a, wV m] ∧ ∀ c h', c < m → Sm a h h' → Q (wV c) h'
structure RawOk (n : Nat) (ps : List (Nat × Nat)) (P Q : List Nat) : Prop where
  n0 : 1 ≤ n
  n1 : n ≤ 4
  lt : ∀ p ∈ ps, p.1 < n ∧ p.2 < n
  so : ps.Pairwise ltN
  pl : P.Pairwise (· < ·) ∧ Q.Pairwise (· < ·)
  vl : (∀ w ∈ P, w < n) ∧ ∀ w ∈ Q, w < n
def kv2 (P Q : List Nat) : List (Str × List Nat) := [("p", P), ("q", Q)]
def rawV (n : Nat) (ps : List (Nat × Nat)) (P Q : List Nat) : Val := .tup [wV n, .lst (ps.map pV), dV (kv2 P Q)]
def R__law_some_model : Nat → Vc.Spec := fun j vs h Q _ => 2 ≤ j ∧ ∃ a : Addr, PoolAt a h ∧ vs = [.ref a, .int 4] ∧ ∀ h' n ps P P', RawOk n ps P P' → Sm a h h' → Q (rawV n ps P P') h'
def R__law_pick : Nat → Vc.Spec := fun j vs h Q _ => 2 ≤ j ∧ ∃ (a : Addr) (xs : List Str), 0 < xs.length ∧ xs.length < 1000 ∧ PoolAt a h ∧ vs = [.ref a, .lst (xs.map .str)] ∧ ∀ h', ∀ x ∈ xs, Sm a h h' → Q (.str x) h'
def R__law_not : Nat → Vc.Spec := fun _ vs h Q _ => ∃ a : F, vs = [a.v] ∧ Q (nt a).v h
def R__law_tiny : Nat → Vc.Spec := fun j vs h Q _ => ∃ (a : Addr) (deep : Nat), 3 + deep ≤ j ∧ PoolAt a h ∧ vs = [.ref a, .lst [.str "p", .str "q"], wV deep, .bl false] ∧ ∀ h' (b : F), b.ht ≤ deep + 1 → Sm a h h' → Q b.v h'
def R__law_so_at : Nat → Vc.Spec := fun j vs h Q _ => ∃ (n : Nat) (ps : List (Nat × Nat)) (P P' : List Nat) (a : F) (v : Nat), ps.length ≤ 60 ∧ a.ht ≤ j ∧ vs = [rawV n ps P P', a.v, wV v] ∧ Q (.bl (sat (Mo.mk n ps (kv2 P P')) a v)) h
def R_law : Nat → Vc.Spec := lawR 450
/-- what may be called, what it promises -/
structure Gm (Γ : Fns) (j : Nat) : Prop where
  gl : Γ.gl "FALSUM" = some (.tup [.str "falsum"])
  f_neg : Γ.fn "neg" = lv R_neg j
  o_neg : Γ.okf "neg"
  f_verum : Γ.fn "verum" = lv R_verum j
  o_verum : Γ.okf "verum"
  f_dia : Γ.fn "dia" = lv R_dia j
  o_dia : Γ.okf "dia"
  f_joined_by : Γ.fn "joined_by" = lv R_joined_by j
  o_joined_by : Γ.okf "joined_by"
  f_conjunction : Γ.fn "conjunction" = lv R_conjunction j
  o_conjunction : Γ.okf "conjunction"
  f_is_world : Γ.fn "is_world" = lv R_is_world j
  o_is_world : Γ.okf "is_world"
  f_is_frame : Γ.fn "is_frame" = lv R_is_frame j
  o_is_frame : Γ.okf "is_frame"
  c_Model : Γ.cn "Model" = mkSp R_Model___init__ 3 "Model" j
  oc_Model : 0 < j → Γ.okc "Model"
  fl__frame : Γ.fld "Model" "_frame"
  fl__seen : Γ.fld "Model" "_seen"
  fl__values : Γ.fld "Model" "_values"
  t_Model_frame : Γ.mt "Model" "frame" = lv R_Model_frame j
  ot_Model_frame : Γ.okm "Model" "frame"
  t_Model_true_worlds : Γ.mt "Model" "true_worlds" = lv R_Model_true_worlds j
  ot_Model_true_worlds : Γ.okm "Model" "true_worlds"
  t_Model_seen : Γ.mt "Model" "seen" = lv R_Model_seen j
  ot_Model_seen : Γ.okm "Model" "seen"
  f_worlds_of : Γ.fn "worlds_of" = lv R_worlds_of j
  o_worlds_of : Γ.okf "worlds_of"
  f_evaluated : Γ.fn "evaluated" = lv R_evaluated j
  o_evaluated : Γ.okf "evaluated"
  f_truth : Γ.fn "truth" = lv R_truth j
  o_truth : Γ.okf "truth"
  f_part_of : Γ.fn "part_of" = lv R_part_of j
  o_part_of : Γ.okf "part_of"
  f_generated : Γ.fn "generated" = lv R_generated j
  o_generated : Γ.okf "generated"
  f_disjoint : Γ.fn "disjoint" = lv R_disjoint j
  o_disjoint : Γ.okf "disjoint"
  f_names_at : Γ.fn "names_at" = lv R_names_at j
  o_names_at : Γ.okf "names_at"
  c_Rounds : Γ.cn "Rounds" = mkSp R_Rounds___init__ 3 "Rounds" j
  oc_Rounds : 0 < j → Γ.okc "Rounds"
  fl_first : Γ.fld "Rounds" "first"
  fl_second : Γ.fld "Rounds" "second"
  fl_found : Γ.fld "Rounds" "found"
  t_Rounds_is_told : Γ.mt "Rounds" "is_told" = lv R_Rounds_is_told j
  ot_Rounds_is_told : Γ.okm "Rounds" "is_told"
  t_Rounds_left_witness : Γ.mt "Rounds" "left_witness" = lv R_Rounds_left_witness j
  ot_Rounds_left_witness : Γ.okm "Rounds" "left_witness"
  t_Rounds_right_witness : Γ.mt "Rounds" "right_witness" = lv R_Rounds_right_witness j
  ot_Rounds_right_witness : Γ.okm "Rounds" "right_witness"
  t_Rounds_early : Γ.mt "Rounds" "early" = lv R_Rounds_early j
  ot_Rounds_early : Γ.okm "Rounds" "early"
  t_Rounds_formula : Γ.mt "Rounds" "formula" = lv R_Rounds_formula j
  ot_Rounds_formula : Γ.okm "Rounds" "formula"
  f_greatest_bisimulation : Γ.fn "greatest_bisimulation" = lv R_greatest_bisimulation j
  o_greatest_bisimulation : Γ.okf "greatest_bisimulation"
  f_class_of : Γ.fn "class_of" = lv R_class_of j
  o_class_of : Γ.okf "class_of"
  f_smallest : Γ.fn "smallest" = lv R_smallest j
  o_smallest : Γ.okf "smallest"
  f_round_of : Γ.fn "round_of" = lv R_round_of j
  o_round_of : Γ.okf "round_of"
  f_telling : Γ.fn "telling" = lv R_telling j
  o_telling : Γ.okf "telling"
  f__law_pool : Γ.fn "_law_pool" = lv R__law_pool j
  o__law_pool : Γ.okf "_law_pool"
  f__law_spread : Γ.fn "_law_spread" = lv R__law_spread j
  o__law_spread : Γ.okf "_law_spread"
  f__law_draw : Γ.fn "_law_draw" = lv R__law_draw j
  o__law_draw : Γ.okf "_law_draw"
  f__law_some_model : Γ.fn "_law_some_model" = lv R__law_some_model j
  o__law_some_model : Γ.okf "_law_some_model"
  f__law_pick : Γ.fn "_law_pick" = lv R__law_pick j
  o__law_pick : Γ.okf "_law_pick"
  f__law_not : Γ.fn "_law_not" = lv R__law_not j
  o__law_not : Γ.okf "_law_not"
  f__law_tiny : Γ.fn "_law_tiny" = lv R__law_tiny j
  o__law_tiny : Γ.okf "_law_tiny"
  f__law_so_at : Γ.fn "_law_so_at" = lv R__law_so_at j
  o__law_so_at : Γ.okf "_law_so_at"
end K94
namespace K94
open PySem L2 Vc
/-! A94: formulas, frames. -/
theorem br_t {A B : Prop} (a : A) : branch (.bl true) A B := And.intro (fun _ => a) (fun e => by cases e)
theorem br_f {A B : Prop} (b : B) : branch (.bl false) A B := And.intro (fun e => by cases e) (fun _ => b)
theorem eqW_i {i j : Int} {h : CH} {Q : Bool → Prop} (q : Q (decide (i = j))) : eqW (.int i) (.int j) h Q := eqW_en en_i (by decide) q
theorem eqW_lp {l m : List (Nat × Nat)} {h : CH} {Q : Bool → Prop} (q : Q (decide (l = m))) : eqW (.lst (l.map pV)) (.lst (m.map pV)) h Q := eqW_en en_p.lst (by decide) q
theorem br {A B : Prop} {b : Bool} (t : b = true → A) (f : b = false → B) : branch (.bl b) A B := ⟨t, f⟩
section
variable {Γ : Fns} {j i : Nat} {h : CH} {Q : VP} {X : XP}
theorem callF {f : Str} {R : Nat → Vc.Spec} {vs : List Val} (e : Γ.fn f = lv R (i + 1)) (r : R i vs h Q X) : Γ.fn f vs h Q X := by rw [e]; exact ⟨i, rfl, r⟩
theorem callM {C m : Str} {R : Nat → Vc.Spec} {vs : List Val} (e : Γ.mt C m = lv R (i + 1)) (r : R i vs h Q X) : Γ.mt C m vs h Q X := by rw [e]; exact ⟨i, rfl, r⟩
theorem sl9 {n : Nat} (h : decide (n ≤ 100) = true) : n ≤ sizeLine := szl (Nat.le_trans (of_decide_eq_true h) (by decide))
theorem lvl {c j : Nat} (h : c + 1 ≤ j) : ∃ i, j = i + 1 ∧ c ≤ i := ⟨j - 1, by omega, by omega⟩
end
section
variable {Γ : Fns} {j : Nat}
theorem vc_neg (g : Gm Γ j) : ∀ xs h Q Xp, R_neg j xs h Q Xp → wpSs Γ m_neg (bodyPo Q Xp) (startV N_neg xs) h := by
  rintro xs h Q Xp ⟨a, rfl, q⟩
  exact ⟨_, rfl, _, g.gl, sl9 rfl, q⟩
theorem vc_verum (g : Gm Γ j) : ∀ xs h Q Xp, R_verum j xs h Q Xp → wpSs Γ m_verum (bodyPo Q Xp) (startV N_verum xs) h := by
  rintro xs h Q Xp ⟨hj, rfl, q⟩
  obtain ⟨i, rfl, hi⟩ := lvl hj
  exact ⟨g.o_neg, _, g.gl, callF g.f_neg ⟨.fls, rfl, q⟩⟩
theorem vc_dia (g : Gm Γ j) : ∀ xs h Q Xp, R_dia j xs h Q Xp → wpSs Γ m_dia (bodyPo Q Xp) (startV N_dia xs) h := by
  rintro xs h Q Xp ⟨hj, a, rfl, q⟩
  obtain ⟨i, rfl, hi⟩ := lvl hj
  exact ⟨g.o_neg, g.o_neg, _, rfl, callF g.f_neg ⟨a, rfl, sl9 rfl, callF g.f_neg ⟨.box (nt a), rfl, q⟩⟩⟩
theorem atI_last {l : List F} {z : F} : atI ((l ++ [z]).map F.v) (-1) = some z.v := by
  unfold atI ixN
  have e : (-1 + ((l.length : Int) + 1)).toNat = l.length := by omega
  simp [e]
  rw [if_pos (by omega)]
  simp
theorem cut_last {l : List F} {z : F} : cutL ((l ++ [z]).map F.v) none (some (-1)) = l.map F.v := by
  unfold cutL HT.sIx
  have e : (-1 + ((l.length : Int) + 1)).toNat = l.length := by omega
  simp [e]
theorem vc_joined_by (g : Gm Γ j) : ∀ xs h Q Xp, R_joined_by j xs h Q Xp → wpSs Γ m_joined_by (bodyPo Q Xp) (startV N_joined_by xs) h := by
  rintro xs h Q Xp ⟨as, e, hl, rfl, q0, q1⟩
  refine ⟨_, rfl, _, .inl ⟨_, rfl, rfl⟩, eqW_i (br (fun c => ?_) fun c => ?_)⟩
  · have e0 : as = [] := by
      have := of_decide_eq_true c
      rw [List.length_map] at this
      exact List.length_eq_zero_iff.mp (Int.ofNat_inj.mp this)
    exact ⟨_, rfl, q0 e0⟩
  · rcases List.eq_nil_or_concat as with e0 | ⟨l, z, e0⟩
    · subst e0
      exact absurd c (by decide)
    · rw [List.concat_eq_append] at e0
      subst e0
      refine ⟨_, rfl, ⟨1, rfl, _, _, rfl, atI_last, ?_⟩⟩
      refine ⟨_, rfl, 1, rfl, _, rfl, .inl ⟨_, rfl, _, rfl, ?_⟩⟩
      show goL always _ (cutL _ _ _).reverse _ _ _
      rw [cut_last, ← List.map_reverse]
      refine goL_map (fun d h' ρ' => h' = h ∧ ∃ u, ρ' = [some (.str "and"), some (.lst ((l ++ [z]).map F.v)), some e.v, some (d.foldl (fun b a => F.con a b) z).v, u]) ⟨rfl, _, rfl⟩ (fun d x r h' ρ' K el i k => ?_) fun h' ρ' i => ?_
      · obtain ⟨rfl, u, rfl⟩ := i
        refine ⟨_, rfl, _, rfl, _, rfl, sl9 rfl, k _ _ ⟨rfl, some x.v, ?_⟩⟩
        rw [List.foldl_append]
        rfl
      · obtain ⟨rfl, u, rfl⟩ := i
        refine ⟨_, rfl, ?_⟩
        have := q1 l z rfl
        rw [List.foldl_reverse]
        exact this
theorem vc_conjunction (g : Gm Γ j) : ∀ xs h Q Xp, R_conjunction j xs h Q Xp → wpSs Γ m_conjunction (bodyPo Q Xp) (startV N_conjunction xs) h := by
  rintro xs h Q Xp ⟨hj, as, hl, rfl, q⟩
  obtain ⟨i, rfl, hi⟩ := lvl hj
  exact ⟨g.o_joined_by, _, rfl, g.o_verum, callF g.f_verum ⟨hi, rfl, callF g.f_joined_by ⟨as, vr, hl, rfl, q⟩⟩⟩
theorem vc_is_world (g : Gm Γ j) : ∀ xs h Q Xp, R_is_world j xs h Q Xp → wpSs Γ m_is_world (bodyPo Q Xp) (startV N_is_world xs) h := by
  rintro xs h Q Xp ⟨w, n, hw, rfl, q⟩
  refine ⟨_, rfl, .inl ⟨_, rfl⟩, br_t ⟨_, rfl, ⟨_, rfl⟩, _, rfl, br_t ⟨_, rfl, _, _, rfl, rfl, ?_⟩⟩⟩
  refine br (fun _ => ⟨_, rfl, _, _, rfl, rfl, ?_⟩) fun c => ?_
  · show Q (.bl (decide ((w : Int) < n))) h
    rw
          [decide_eq_true (by omega)]
    exact q
  · have := of_decide_eq_false c
    omega
theorem vc_is_frame (g : Gm Γ j) : ∀ xs h Q Xp, R_is_frame j xs h Q Xp → wpSs Γ m_is_frame (bodyPo Q Xp) (startV N_is_frame xs) h := by
  rintro xs h Q Xp ⟨hj, n, ps, o, rfl, q⟩
  obtain ⟨i, rfl, hi⟩ := lvl hj
  refine ⟨_, rfl, _, rfl, rfl, _, rfl, ⟨_, rfl⟩, br_f ⟨_, rfl, _, _, rfl, rfl, br (fun c => ?_) fun c => ⟨_, rfl, ?_⟩⟩⟩
  · have := of_decide_eq_true c
    have := o.n0
    omega
  · refine goL_map (fun d h' ρ' => h' = h ∧ ∃ u, ρ' = [some (frV n ps), u, some (wV n), some (.tup (ps.map pV))]) ⟨rfl, _, rfl⟩ (fun d x r h' ρ' K el i k => ?_) fun h' ρ' i => ?_
    · obtain ⟨rfl, u, rfl⟩ := i
      have hx : x ∈ ps := by rw [← el]; exact List.mem_append_right _ (List.mem_cons_self ..)
      obtain ⟨h1, h2⟩ := o.lt x hx
      refine ⟨_, rfl, _, rfl, eqW_i (br_f ⟨g.o_is_world, _, rfl, _, _, rfl, rfl, _, rfl, callF g.f_is_world ⟨x.1, n, h1, rfl, true, rfl, br_f ⟨g.o_is_world, _, rfl, _, _, rfl, rfl, _, rfl, callF g.f_is_world ⟨x.2, n, h2, rfl, true, rfl, br_f ?_⟩⟩⟩⟩)⟩
      exact k _ _ ⟨rfl, some (pV x), rfl⟩
    · obtain ⟨rfl, u, rfl⟩ := i
      refine ⟨_, rfl, _, .inr rfl, _, rfl, _, .inr rfl, .inr ⟨_, pairsOf_p ps, by rw [List.length_map]; have := o.pl; omega, ?_, ?_⟩⟩
      · intro p hp
        obtain ⟨q, hq, rfl⟩ :=
              List.mem_map.mp hp
        obtain ⟨h1, h2⟩ := o.lt q hq
        have := o.n1
        exact ⟨⟨by simp, by simp; omega⟩, by simp, by simp; omega⟩
      · intro qs s m
        have e : qs = ps.map fun p => ((p.1 : Int), (p.2 : Int)) := plt_eq s (o.so.map _ fun a b hab => by unfold ltN at hab; unfold lexlt; simp only; omega) m
        subst e
        rw [map_pV]
        refine eqW_lp ?_
        rw [decide_eq_true rfl]
        exact q
end
end K94
namespace K94
open PySem L2 Vc
/-! B94: models. -/
theorem vget_dL (vs : List (Str × List Nat)) (x : Str) : vget (dL vs) (.inr x) = (look vs x).map lV := by
  unfold vget dL look
  induction vs with
  | nil => rfl
  | cons p r ih =>
    rw [List.map_cons, List.find?_cons, List.find?_cons]
    by_cases c : p.1 = x
    · have c' : ((Sum.inr p.1 : Key) = Sum.inr x) := by rw [c]
      simp only [decide_eq_true c, decide_eq_true c', Option.map_some]
    · have c' : ¬ ((Sum.inr p.1 : Key) = Sum.inr x) := fun e => c (Sum.inr.inj e)
      simp only [decide_eq_false c, decide_eq_false c']
      exact ih
theorem vput_dL {vs : List (Str × List Nat)} {x : Str} {l : List Nat} (n : x ∉ vs.map (·.1)) : vput (dL vs) (.inr x) (lV l) = dL (vs ++ [(x, l)]) := by
  unfold vput
  rw [if_neg]
  · unfold dL
    rw [List.map_append]
    rfl
  · intro c
    obtain ⟨q, hq, e⟩ := List.any_eq_true.mp c
    obtain ⟨p, hp, rfl⟩ :=
          List.mem_map.mp hq
    have e1 := of_decide_eq_true e
    exact n (List.mem_map.mpr ⟨p, hp, Sum.inr.inj e1⟩)
theorem fz_int {n : Nat} {h : CH} {F : Addr → Bool} {i : Int} : fz n h F (.int i) = .int i := by cases n <;> rfl
theorem fz_wl {n : Nat} {h : CH} {F : Addr → Bool} (l : List Nat) : (l.map wV).map (fz n h F) = l.map wV := by
  rw [List.map_map]
  exact List.map_congr_left fun w _ => fz_int
theorem fz_dct {h : CH} {F : Addr → Bool} {a : Addr} {xs : List (Key × Val)} (f : F a = true) (e : h a = some (.dct xs)) : fz 1 h F (.ref a) = .dct xs := by
  show (if F a = true then _ else _) = _
  rw [if_pos f, e]
  show Val.dct (xs.map fun p => (p.1, p.2)) = _
  rw [List.map_id']
theorem sub_set {h : CH} {p : Addr} {x : Val} (n : h p = none) : (h.set p x).sub (fun b => decide (b = p)) = h := by
  funext b
  unfold CH.sub CH.set
  by_cases e : b = p
  · subst e; simp [n]
  · simp [e]
theorem lk_frame (M : Mo) : (mfs M).lookup ("_frame" : Str) = some (frV M.n M.ps) := by rfl
theorem lk_seen (M : Mo) : (mfs M).lookup ("_seen" : Str) = some (seenV M) := by rfl
theorem lk_values (M : Mo) : (mfs M).lookup ("_values" : Str) = some (dV M.vs) := by rfl
theorem ln_frame (M : Mo) : (mfs M).lookup ("frame" : Str) = none := by rfl
theorem ln_seen (M : Mo) : (mfs M).lookup ("seen" : Str) = none := by rfl
theorem ln_tw (M : Mo) : (mfs M).lookup ("true_worlds" : Str) = none := by rfl
theorem str_eq {x y : Str} {b : Bool} {h : CH} {Q : Bool → Prop} (e : (PyData.strOk x && (PyData.strOk y && ((x == y) == b))) = true) (q : Q b) : eqW (.str x) (.str y) h Q := by
  rw [Bool.and_eq_true, Bool.and_eq_true] at e
  have e3 := e.2.2
  have e4 : (x == y) = b := by simpa using e3
  exact eqW_of (eqP_str e.1 e.2.1 (by rw [e4]; exact q))
section
variable {Γ : Fns} {j : Nat}
theorem vc_Model_frame (g : Gm Γ j) : ∀ xs h Q Xp, R_Model_frame j xs h Q Xp → wpSs Γ m_Model_frame (bodyPo Q Xp) (startV N_Model_frame xs) h := by
  rintro xs h Q Xp ⟨M, rfl, q⟩
  exact ⟨_, rfl, _, _, _, rfl, g.fl__frame, lk_frame M, q⟩
theorem seen_at {M : Mo} {v : Nat} (hv : v < M.n) : atI ((List.range M.n).map fun v => lV (M.see v)) (v : Int) = some (lV (M.see v)) := by
  unfold atI ixN
  rw [List.length_map, List.length_range, if_pos (by omega), if_pos (by omega)]
  simp [hv]
theorem vc_Model_seen (g : Gm Γ j) : ∀ xs h Q Xp, R_Model_seen j xs h Q Xp → wpSs Γ m_Model_seen (bodyPo Q Xp) (startV N_Model_seen xs) h := by
  rintro xs h Q Xp ⟨M, v, hv, rfl, q⟩
  exact ⟨_, rfl, _, _, _, rfl, g.fl__seen, lk_seen M, _, rfl, (v : Int), _, rfl, seen_at hv, _, .inl rfl, q⟩
theorem look_of {vs : List (Str × List Nat)} (nd : (vs.map (·.1)).Nodup) {p : Str × List Nat} (hp : p ∈ vs) : look vs p.1 = some p.2 := by
  unfold look
  induction vs with
  | nil => cases hp
  | cons q r ih =>
    rw
          [List.map_cons, List.nodup_cons] at nd
    rw [List.find?_cons]
    rcases
          List.mem_cons.mp hp with e | e
    · subst e
      simp
    · have ne : ¬ q.1 = p.1 := fun x => nd.1 (List.mem_map.mpr ⟨p, e, x.symm⟩)
      rw [decide_eq_false ne]
      exact ih nd.2 e
theorem vc_Model_true_worlds (g : Gm Γ j) : ∀ xs h Q Xp, R_Model_true_worlds j xs h Q Xp → wpSs Γ m_Model_true_worlds (bodyPo Q Xp) (startV N_Model_true_worlds xs) h := by
  rintro xs h Q Xp ⟨M, nd, hl, rfl, q⟩
  refine ⟨_, rfl, _, _, _, rfl, g.fl__values, lk_values M, _, rfl, fun D hD => ?_⟩
  show goL always _ (List.map _ (List.map _ _)) _ _ _
  rw [List.map_map]
  refine goL_map (fun d h' acc => h' = h.set D junk ∧ acc = dL d) ⟨rfl, rfl⟩ (fun d x r h' acc K el i k => ?_) fun h' acc i => ?_
  · obtain ⟨rfl, rfl⟩ := i
    have hx : x ∈ M.vs := by rw [← el]; exact List.mem_append_right _ (List.mem_cons_self ..)
    have lk : vget (dL M.vs) (.inr x.1) = some (lV x.2) := by rw [vget_dL, look_of nd hx]; rfl
    refine ⟨fun _ => ⟨_, rfl, _, rfl, _, _, _, rfl, g.fl__values, lk_values M, _, rfl, .inr (.inl ⟨_, .inr x.1, _, rfl, rfl, lk, _, .inl rfl, .inr x.1, rfl, ?_, ?_⟩)⟩, fun e => by cases e⟩
    · refine szlt ?_
      have e := congrArg List.length el
      rw [List.length_append, List.length_cons] at e
      unfold dL
      rw [List.length_map]
      omega
    · refine k _ _ ⟨rfl, vput_dL ?_⟩
      rw [← el, List.map_append, List.nodup_append] at nd
      exact fun c => nd.2.2 _ c _ (List.mem_cons_self ..) rfl
  · obtain ⟨rfl, rfl⟩ := i
    show Q (.ref D) ((h.set D junk).set D _)
    rw [CH.set_set]
    exact q D hD
end
section
variable {Γ : Fns} {i : Nat} {ρ : Vc.Env} {h : CH} {Q : VP} {X : XP} {M : Mo} {e : E}
/-- the values of a model, read -/
theorem wp_tw (g : Gm Γ (i + 1)) (o : VsOk M.n M.vs) (he : ∀ Q' : VP, Q' M.v h → wpE Γ e ρ h Q' X) (q : Q (dV M.vs) h) : wpE Γ (.frz (.met e "true_worlds" .nil)) ρ h Q X := by
  refine he _ ⟨_, _, rfl, ln_tw M, g.ot_Model_true_worlds, callM g.t_Model_true_worlds ⟨M, o.nd, o.kl, rfl, fun p hp => ⟨fun b => decide (b = p), 1, fun a c => ?_, ?_⟩⟩⟩
  · have e1 := of_decide_eq_true c
    subst e1
    rw [CH.set_same]
    intro x
    cases x
  · rw [sub_set hp]
    have e1 : fz 1 (h.set p (dV M.vs)) (fun b => decide (b = p)) (.ref p) = dV M.vs := fz_dct (by simp) CH.set_same
    rw [e1]
    exact q
theorem wp_frame (g : Gm Γ (i + 1)) (he : ∀ Q' : VP, Q' M.v h → wpE Γ e ρ h Q' X) (q : Q (frV M.n M.ps) h) : wpE Γ (.met e "frame" .nil) ρ h Q X :=
  he _ ⟨_, _, rfl, ln_frame M, g.ot_Model_frame, callM g.t_Model_frame ⟨M, rfl, q⟩⟩
theorem wp_seen {e' : E} {v : Nat} (g : Gm Γ (i + 1)) (hv : v < M.n) (he : ∀ Q' : VP, Q' M.v h → wpE Γ e ρ h Q' X) (he' : ∀ Q' : VP, Q' (wV v) h → wpE Γ e' ρ h Q' X) (q : Q (lV (M.see v)) h) : wpE Γ (.met e "seen" (.cons e' .nil)) ρ h Q X :=
  he _ ⟨_, _, rfl, ln_seen M, g.ot_Model_seen, he' _ (callM g.t_Model_seen ⟨M, v, hv, rfl, q⟩)⟩
end
section
variable {Γ : Fns} {j : Nat}
theorem rng_w (n : Nat) : rngV 0 (Int.toNat (n : Int)) = (List.range n).map wV := by
  unfold rngV wV
  simp
theorem vc_worlds_of (g : Gm Γ j) : ∀ xs h Q Xp, R_worlds_of j xs h Q Xp → wpSs Γ m_worlds_of (bodyPo Q Xp) (startV N_worlds_of xs) h := by
  rintro xs h Q Xp ⟨hj, M, hn, rfl, q⟩
  obtain ⟨i, rfl, hi⟩ := lvl hj
  refine wp_frame (M := M) g (fun _ q => ⟨_, rfl, q⟩) ⟨0, _, rfl, rfl, _, rfl, by omega, by omega, ?_⟩
  rw [rng_w]
  exact q
theorem see_len {M : Mo} (o : M.Ok) (v : Nat) : (M.see v).length ≤ 60 := by
  unfold Mo.see
  rw [List.length_map]
  exact Nat.le_trans (List.length_filter_le ..) o.pl
theorem val_len {M : Mo} (o : VsOk M.n M.vs) (x : Str) : (M.val x).length ≤ 60 := by
  unfold Mo.val look
  cases c : M.vs.find? fun p => decide (p.1 = x) with
  | none => simp
  | some p => exact o.ll p (List.mem_of_find?_eq_some c)
theorem ev_len {M : Mo} (o : M.Cn) : ∀ a, (ev M a).length ≤ 60
  | .var x => val_len o.vk x
  | .fls => Nat.zero_le _
  | .imp a b => Nat.le_trans (List.length_filter_le ..) (by rw [List.length_range]; have := o.n1; omega)
  | .con a b => Nat.le_trans (List.length_filter_le ..) (ev_len o a)
  | .dis a b => Nat.le_trans (List.length_filter_le ..) (by rw [List.length_range]; have := o.n1; omega)
  | .box a => Nat.le_trans (List.length_filter_le ..) (by rw [List.length_range]; have := o.n1; omega)
theorem cs {A B : Prop} {b : Bool} (t : b = true → A) (f : b = false → B) : branch (.bl b) ((true = true → A) ∧ (true = false → B)) ((false = true → A) ∧ (false = false → B)) := br (fun c => ⟨fun _ => t c, fun e => nomatch e⟩) (fun c => ⟨fun e => (nomatch e), fun _ => f c⟩)
theorem cs_t {A B : Prop} (t : A) : branch (.bl true) ((true = true → A) ∧ (true = false → B)) ((false = true → A) ∧ (false = false → B)) := cs (fun _ => t) (fun e => nomatch e)
theorem br' {A B : Prop} {b c : Bool} (e : b = c) (k : branch (.bl c) A B) : branch (.bl b) A B := by rw [e]; exact k
theorem lnil {l : List Nat} {h : CH} {Q : Bool → Prop} (q : Q (decide (l = []))) : eqW (lV l) (.lst []) h Q := eqW_lnil en_w (by decide) q
theorem vc_evaluated (g : Gm Γ j) : ∀ xs h Q Xp, R_evaluated j xs h Q Xp → wpSs Γ m_evaluated (bodyPo Q Xp) (startV N_evaluated xs) h := by
  rintro xs h Q Xp ⟨M, a, o, hj, rfl, q⟩
  have no : M.Ok := o.toOk
  have rl : (List.range M.n).length ≤ 16777216 := by rw [List.length_range]; have := no.n1; omega
  cases a with
  | var x =>
    obtain ⟨i, rfl, hi⟩ := lvl (c := 1) (j := j) (by omega)
    refine ⟨_, rfl, 0, _, rfl, rfl, str_eq (b := true) (by decide +kernel) (br_t ?_)⟩
    refine w_ret (w_bm (wp_tw (M := M) g o.vk ?_ ?_))
    · exact fun _ q => ⟨_, rfl, q⟩
    refine ⟨.inl ⟨_, rfl⟩, _, rfl, 1, _, rfl, rfl, Nat.zero_le _, .inl ⟨.inr x, _, rfl, rfl, ?_⟩⟩
    rw [vget_dL]
    show Q ((Option.map lV (look M.vs x)).getD (lV [])) h
    have e : (Option.map lV (look M.vs x)).getD (lV []) = lV (ev M (.var x)) := by
      show _ = lV ((look M.vs x).getD [])
      cases look M.vs x <;> rfl
    rw [e]
    exact q
  | fls =>
    exact ⟨_, rfl, 0, _, rfl, rfl, str_eq (b := false) (by decide +kernel) (br_f ⟨_, rfl, 0, _, rfl, rfl, str_eq (b := true) (by decide +kernel) (br_t ⟨Nat.zero_le _, q⟩)⟩)⟩
  | box a =>
    obtain ⟨i, rfl, hi⟩ := lvl (c := 1) (j := j) (by omega)
    refine ⟨_, rfl, 0, _, rfl, rfl, str_eq (b := false) (by decide +kernel) (br_f ⟨_, rfl, 0, _, rfl, rfl, str_eq (b := false) (by decide +kernel) (br_f ?_)⟩)⟩
    refine ⟨g.o_evaluated, _, rfl, _, rfl, 1, _, rfl, rfl, _, rfl, callF g.f_evaluated ⟨M, a, o, by simp only [F.ht] at hj; omega, rfl, ?_⟩⟩
    refine ⟨_, rfl, 0, _, rfl, rfl, str_eq (b := true) (by decide +kernel) (br_t ?_)⟩
    refine wp_lc (List.range M.n) wV (fun v => decide ((M.see v).filter (fun w => decide (¬ w ∈ ev M a)) = [])) wV rl (fun K k => ⟨g.o_worlds_of, _, rfl, callF g.f_worlds_of ⟨hi, M, by have := no.n1; omega, rfl, k⟩⟩) (fun v hv D hD A K hA k1 k2 => ?_) q
    refine w_nm (w_if1 (w_cmp ?_))
    refine wp_lc (M.see v) wV (fun w => decide (¬ w ∈ ev M a)) wV (by have := see_len no v; omega) ?_ (fun w hw D' hD' A' K' hA' k1' k2' => ?_) ?_
    · intro K k
      refine wp_seen (M := M) g (List.mem_range.mp hv) ?_ ?_ k
      · exact fun _ q => ⟨_, rfl, q⟩
      · exact fun _ q => ⟨_, rfl, q⟩
    · refine ⟨_, rfl, _, rfl, inP_w ?_⟩
      refine cs (fun c => ⟨_, rfl, hA', k1' ?_⟩) (fun c => k2' ?_)
      · simpa using c
      · simpa using c
    · refine ⟨Nat.zero_le _, lnil ?_⟩
      exact cs (fun c => ⟨_, rfl, hA, k1 c⟩) (fun c => k2 c)
  | con a b =>
    obtain ⟨i, rfl, hi⟩ := lvl (c := 1) (j := j) (by simp only [F.ht] at hj; omega)
    refine ⟨_, rfl, 0, _, rfl, rfl, str_eq (b := false) (by decide +kernel) (br_f ⟨_, rfl, 0, _, rfl, rfl, str_eq (b := false) (by decide +kernel) (br_f ?_)⟩)⟩
    refine ⟨g.o_evaluated, _, rfl, _, rfl, 1, _, rfl, rfl, _, rfl, callF g.f_evaluated ⟨M, a, o, by simp only [F.ht] at hj; omega, rfl, ?_⟩⟩
    refine ⟨_, rfl, 0, _, rfl, rfl, str_eq (b := false) (by decide +kernel) (br_f ?_)⟩
    refine ⟨g.o_evaluated, _, rfl, _, rfl, 2, _, rfl, rfl, _, rfl, callF g.f_evaluated ⟨M, b, o, by simp only [F.ht] at hj; omega, rfl, ?_⟩⟩
    refine ⟨_, rfl, 0, _, rfl, rfl, str_eq (b := true) (by decide +kernel) (br_t ?_)⟩
    refine wp_lc (ev M a) wV (fun v => decide (v ∈ ev M b)) wV (by have := ev_len o a; omega) (fun K k => ⟨_, rfl, k⟩) (fun v hv D hD A K hA k1 k2 => ?_) q
    refine ⟨_, rfl, _, rfl, inP_w ?_⟩
    exact cs (fun c => ⟨_, rfl, hA, k1 c⟩) (fun c => k2 c)
  | dis a b =>
    obtain ⟨i, rfl, hi⟩ := lvl (c := 1) (j := j) (by simp only [F.ht] at hj; omega)
    refine ⟨_, rfl, 0, _, rfl, rfl, str_eq (b := false) (by decide +kernel) (br_f ⟨_, rfl, 0, _, rfl, rfl, str_eq (b := false) (by decide +kernel) (br_f ?_)⟩)⟩
    refine ⟨g.o_evaluated, _, rfl, _, rfl, 1, _, rfl, rfl, _, rfl, callF g.f_evaluated ⟨M, a, o, by simp only [F.ht] at hj; omega, rfl, ?_⟩⟩
    refine ⟨_, rfl, 0, _, rfl, rfl, str_eq (b := false) (by decide +kernel) (br_f ?_)⟩
    refine ⟨g.o_evaluated, _, rfl, _, rfl, 2, _, rfl, rfl, _, rfl, callF g.f_evaluated ⟨M, b, o, by simp only [F.ht] at hj; omega, rfl, ?_⟩⟩
    refine ⟨_, rfl, 0, _, rfl, rfl, str_eq (b := false) (by decide +kernel) (br_f ?_)⟩
    refine ⟨_, rfl, 0, _, rfl, rfl, str_eq (b := true) (by decide +kernel) (br_t ?_)⟩
    refine wp_lc (List.range M.n) wV (fun v => decide (v ∈ ev M a) || decide (v ∈ ev M b)) wV rl (fun K k => ⟨g.o_worlds_of, _, rfl, callF g.f_worlds_of ⟨hi, M, by have := no.n1; omega, rfl, k⟩⟩) (fun v hv D hD A K hA k1 k2 => ?_) q
    refine ⟨_, rfl, _, rfl, inP_w (br (fun c => ?_) fun c => ?_)⟩
    · exact cs_t ⟨_, rfl, hA, k1 (by rw [c]; rfl)⟩
    · refine ⟨_, rfl, _, rfl, inP_w ?_⟩
      exact cs (fun c' => ⟨_, rfl, hA, k1 (by rw [c']; simp)⟩) (fun c' => k2 (by rw [c, c']; rfl))
  | imp a b =>
    obtain ⟨i, rfl, hi⟩ := lvl (c := 1) (j := j) (by simp only [F.ht] at hj; omega)
    refine ⟨_, rfl, 0, _, rfl, rfl, str_eq (b := false) (by decide +kernel) (br_f ⟨_, rfl, 0, _, rfl, rfl, str_eq (b := false) (by decide +kernel) (br_f ?_)⟩)⟩
    refine ⟨g.o_evaluated, _, rfl, _, rfl, 1, _, rfl, rfl, _, rfl, callF g.f_evaluated ⟨M, a, o, by simp only [F.ht] at hj; omega, rfl, ?_⟩⟩
    refine ⟨_, rfl, 0, _, rfl, rfl, str_eq (b := false) (by decide +kernel) (br_f ?_)⟩
    refine ⟨g.o_evaluated, _, rfl, _, rfl, 2, _, rfl, rfl, _, rfl, callF g.f_evaluated ⟨M, b, o, by simp only [F.ht] at hj; omega, rfl, ?_⟩⟩
    refine ⟨_, rfl, 0, _, rfl, rfl, str_eq (b := false) (by decide +kernel) (br_f ?_)⟩
    refine ⟨_, rfl, 0, _, rfl, rfl, str_eq (b := false) (by decide +kernel) (br_f ?_)⟩
    refine w_nil (w_set (wp_lc (List.range M.n) wV (fun v => decide (¬ v ∈ ev M a) || decide (v ∈ ev M b)) wV rl ?_ (fun v hv D hD A K hA k1 k2 => ?_) ?_))
    · exact fun K k => ⟨g.o_worlds_of, _, rfl, callF g.f_worlds_of ⟨hi, M, by have := no.n1; omega, rfl, k⟩⟩
    · refine ⟨_, rfl, _, rfl, inP_w (br (fun c => ?_) fun c => ?_)⟩
      · exact cs_t ⟨_, rfl, hA, k1 (by have c' : ¬ v ∈ ev M a := by {simpa using c}; rw [decide_eq_true c', Bool.true_or])⟩
      · have c' : v ∈ ev M a := by simpa using c
        refine ⟨_, rfl, _, rfl, inP_w ?_⟩
        exact cs (fun c2 => ⟨_, rfl, hA, k1 (by rw [c2]; simp)⟩) (fun c2 => k2 (by rw [c2, decide_eq_false (fun x => x c')]; rfl))
    · exact ⟨_, rfl, false, rfl, br_t ⟨_, rfl, q⟩⟩
theorem vc_truth (g : Gm Γ j) : ∀ xs h Q Xp, R_truth j xs h Q Xp → wpSs Γ m_truth (bodyPo Q Xp) (startV N_truth xs) h := by
  rintro xs h Q Xp ⟨M, a, o, hj, rfl, q⟩
  obtain ⟨i, rfl, hi⟩ := lvl (c := a.ht + 2) (j := j) (by omega)
  exact ⟨g.o_evaluated, _, rfl, _, rfl, callF g.f_evaluated ⟨M, a, o, hi, rfl, q⟩⟩
end
end K94
namespace K94
open PySem L2 Vc
/-! C94: a model made. -/
def seeL (ps : List (Nat × Nat)) (v : Nat) : List Nat := (ps.filter fun p => decide (p.1 = v)).map (·.2)
theorem seeL_push (d : List (Nat × Nat)) (p : Nat × Nat) (v : Nat) : seeL (d ++ [p]) v = if p.1 = v then seeL d v ++ [p.2] else seeL d v := by
  unfold seeL
  rw [List.filter_append, List.map_append]
  by_cases c : p.1 = v
  · rw [if_pos c, List.filter_cons_of_pos (p := fun q : Nat × Nat => decide (q.1 = v)) (decide_eq_true c)]; rfl
  · rw [if_neg c, List.filter_cons_of_neg (p := fun q : Nat × Nat => decide (q.1 = v)) (by simpa using c)]; simp
theorem mapRs_eq (r : Addr → Val) : ∀ xs : List Val, mapRs r xs = xs.map (mapR r)
  | [] => rfl
  | x :: xs => by rw [List.map_cons, ← mapRs_eq r xs]; rfl
theorem fz_frV {n : Nat} {h : CH} {F : Addr → Bool} {m : Nat} {ps : List (Nat × Nat)} : fz (n + 1) h F (frV m ps) = frV m ps := by
  show Val.tup (mapRs _ [wV m, .tup (ps.map pV)]) = _
  show Val.tup [wV m, .tup (mapRs _ (ps.map pV))] = _
  rw [mapRs_eq, List.map_map]
  exact congrArg (fun z => Val.tup [wV m, Val.tup z]) (List.map_congr_left fun p _ => rfl)
theorem fz_lV {n : Nat} {h : CH} {F : Addr → Bool} (l : List Nat) : fz n h F (lV l) = lV l := by
  cases n with
  | zero => rfl
  | succ n =>
    show Val.lst (mapRs _ (l.map wV)) = _
    rw [mapRs_eq, List.map_map]
    exact congrArg Val.lst (List.map_congr_left fun p _ => rfl)
theorem rdO_ref {h : CH} {a : Addr} {C : Str} {fs : List (Str × Val)} (e : h a = some (.obj C fs)) : rdO h (.ref a) = some (C, fs) := by
  show (match h a with | some (.obj C fs) => some (C, fs) | _ => none) = _
  rw [e]
theorem rdP_ref {h : CH} {a : Addr} {kvs : List (List Key × Val)} (e : h a = some (.dtt kvs)) : rdP h (.ref a) = some kvs := by
  show (match h a with | some (.dtt kvs) => some kvs | _ => none) = _
  rw [e]
theorem nzs_push (d : List (Str × List Nat)) (p : Str × List Nat) : nzs (d ++ [p]) = if p.2 = [] then nzs d else nzs d ++ [(p.1, sd p.2)] := by
  unfold nzs
  rw [List.filter_append, List.map_append]
  by_cases c : p.2 = []
  · rw [if_pos c, List.filter_cons_of_neg (by simpa using c)]; simp
  · rw [if_neg c, List.filter_cons_of_pos (by simpa using c)]; rfl
theorem nzs_keys {d : List (Str × List Nat)} {x : Str} (h : x ∈ (nzs d).map (·.1)) : x ∈ d.map (·.1) := by
  unfold nzs at h
  rw [List.map_map] at h
  obtain ⟨p, hp, e⟩ :=
        List.mem_map.mp h
  exact List.mem_map.mpr ⟨p, (List.mem_filter.mp hp).1, e⟩
/-- the heap while a model is made -/
structure Mk1 (h0 : CH) (a : Addr) (fs : List (Str × Val)) (as : List Addr) (S : Nat → List Nat) (h' : CH) : Prop where
  self : h' a = some (.obj "Model" fs)
  at_ : ∀ i x, as[i]? = some x → h' x = some (lV (S i))
  fr : ∀ x ∈ as, h0 x = none ∧ x ≠ a
  nd : as.Nodup
  rest : ∀ b, b ≠ a → b ∉ as → h' b = h0 b
theorem nodup_at {as : List Addr} (nd : as.Nodup) {i k : Nat} {x : Addr} (h : as[i]? = some x) (h' : as[k]? = some x) : i = k := by
  obtain ⟨h1, e1⟩ := List.getElem?_eq_some_iff.mp h
  obtain ⟨h2, e2⟩ := List.getElem?_eq_some_iff.mp h'
  exact (List.getElem_inj (h₀ := h1) (h₁ := h2) nd).mp (e1.trans e2.symm)
theorem Mk1.upd {h0 : CH} {a : Addr} {fs : List (Str × Val)} {as : List Addr} {S : Nat → List Nat} {h' : CH} (m : Mk1 h0 a fs as S h') {v w : Nat} {x : Addr} (e : as[v]? = some x) :
    Mk1 h0 a fs as (fun i => if v = i then S i ++ [w] else S i) (h'.set x (.lst ((S v).map wV ++ [wV w]))) where
  self := by rw [CH.set_ne (Ne.symm (m.fr x (List.mem_of_getElem? e)).2)]; exact m.self
  at_ := fun i y ey => by
    by_cases c : v = i
    · subst c
      rw [e] at ey
      cases ey
      rw [CH.set_same, if_pos rfl, lV, List.map_append]
      rfl
    · rw [if_neg c, CH.set_ne, m.at_ i y ey]
      intro e2
      subst e2
      exact c (nodup_at m.nd e ey)
  fr := m.fr
  nd := m.nd
  rest := fun b h1 h2 => by
    rw [CH.set_ne, m.rest b h1 h2]
    intro e2
    subst e2
    exact h2 (List.mem_of_getElem? e)
structure Mk2 (h0 : CH) (a : Addr) (fs : List (Str × Val)) (as : List Addr) (S : Nat → List Nat) (p : Addr) (ds : List (Str × List Nat)) (h' : CH) : Prop where
  self : h' a = some (.obj "Model" fs)
  at_ : ∀ i x, as[i]? = some x → h' x = some (lV (S i))
  vl : h' p = some (.dct (dL ds))
  rest : ∀ b, b ≠ a → b ∉ as → b ≠ p → h' b = h0 b
theorem fz_model {h0 h' : CH} {a p : Addr} {as : List Addr} {n : Nat} {ps : List (Nat × Nat)} {ds : List (Str × List Nat)} (m : Mk2 h0 a [("_frame", frV n ps), ("_seen", .lst (as.map .ref)), ("_values", .ref p)] as (seeL ps) p ds h') (hl : as.length = n)
    (ha : h0 a = none) (hp : h0 p = none) (hx : ∀ x ∈ as, h0 x = none) : fz 3 h' (fun b => (h0 b).isNone) (.ref a) = (Mo.mk n ps ds).v := by
  show (if (h0 a).isNone = true then _ else _) = _
  rw [ha, if_pos (show (none : Option Val).isNone = true from rfl), m.self]
  show Val.obj "Model" [("_frame", fz 2 h' _ (frV n ps)), ("_seen", Val.lst (mapRs _ (as.map .ref))), ("_values", (if (h0 p).isNone = true then _ else _))] = _
  rw [fz_frV, hp, if_pos (show (none : Option Val).isNone = true from rfl), m.vl, mapRs_eq]
  have e1 : (dL ds).map (fun q => (q.1, fz 1 h' (fun b => (h0 b).isNone) q.2)) = dL ds := by
    unfold dL
    rw [List.map_map]
    refine List.map_congr_left fun q _ => ?_
    show (Sum.inr q.1, fz 1 h' _ (lV q.2)) = _
    rw [fz_lV]
  show Val.obj "Model" [("_frame", frV n ps), ("_seen", Val.lst _), ("_values", Val.dct ((dL ds).map (fun q => (q.1, fz 1 h' (fun b => (h0 b).isNone) q.2))))] = _
  rw [e1]
  refine congrArg (fun z => Val.obj "Model" [("_frame", frV n ps), ("_seen", Val.lst z), ("_values", Val.dct (dL ds))]) ?_
  rw [List.map_map]
  refine List.ext_getElem? fun i => ?_
  rw
        [List.getElem?_map, List.getElem?_map]
  show Option.map _ as[i]? = Option.map _ (List.range n)[i]?
  by_cases c : i < n
  · have e2 : as[i]? = some (as[i]'(by omega)) := List.getElem?_eq_getElem _
    rw [e2, List.getElem?_range c, Option.map_some, Option.map_some]
    refine congrArg some ?_
    show (if (h0 (as[i]'(by omega))).isNone = true then _ else _) = _
    rw [hx _ (List.mem_of_getElem? e2), if_pos (show (none : Option Val).isNone = true from rfl), m.at_ i _ e2]
    show Val.lst (((seeL ps i).map wV).map (fz 1 h' _)) = _
    rw [fz_wl]
    rfl
  · rw [List.getElem?_eq_none (by omega), List.getElem?_eq_none (by rw [List.length_range]; omega)]
    rfl
theorem sd_lt (l : List Nat) : (sd l).Pairwise (· < ·) := List.Pairwise.filter _ List.pairwise_lt_range
theorem mem_sd {l : List Nat} (h : ∀ w ∈ l, w < 64) (w : Nat) : w ∈ sd l ↔ w ∈ l := by
  unfold sd
  rw [List.mem_filter, List.mem_range, decide_eq_true_eq]
  exact ⟨fun x => x.2, fun x => ⟨h w x, x⟩⟩
/-- sorted, once each -/
theorem ss_lV {l : List Nat} {h : CH} {Q : VP} (hl : l.length ≤ 60) (hb : ∀ w ∈ l, w < 64) (q : Q (lV (sd l)) h) : xop 0 [lV l] h Q := by
  refine ⟨_, .inl rfl, .inl ⟨_, intsOf_w l, by rw [List.length_map]; omega, fun ms s m => ?_⟩⟩
  have e : ms = (sd l).map fun w : Nat => (w : Int) := by
    refine lt_eq s ((sd_lt l).map _ fun a b hab => by omega) fun i => (m i).trans ?_
    rw [List.mem_map, List.mem_map]
    exact exists_congr fun w => and_congr_left fun _ => (mem_sd hb w).symm
  subst e
  rw [map_wV]
  exact q
section
variable {Γ : Fns} {j : Nat}
theorem vc_Model___init__ (g : Gm Γ j) : ∀ xs h Q Xp, R_Model___init__ j xs h Q Xp → wpSs Γ m_Model___init__ (bodyPo Q Xp) (startV N_Model___init__ xs) h := by
  rintro xs h Q Xp ⟨hj, a, h0, n, ps, kvs, ha, rfl, o, ok, rfl, q⟩
  obtain ⟨i, rfl, hi⟩ := lvl hj
  refine ⟨g.o_is_frame, _, rfl, callF g.f_is_frame ⟨hi, n, ps, o, rfl, true, rfl, br_f ?_⟩⟩
  refine ⟨_, rfl, 0, _, rfl, rfl, ⟨_, rfl, 1, _, rfl, rfl, ?_⟩⟩
  refine ⟨sl9 rfl, _, rfl, a, _, _, rfl, CH.set_same, g.fl__frame, (by decide), ?_⟩
  rw [CH.set_set]
  refine ⟨_, rfl, 0, _, rfl, rfl, _, rfl, ⟨by omega, by have := o.n1; omega⟩, fun D hD => ?_⟩
  have Da : D ≠ a := fun e => by subst e; rw [CH.set_same] at hD; cases hD
  have hD0 : h0 D = none := by rw [CH.set_ne Da] at hD; exact hD
  rw [rng_w]
  refine goL_map (fun d h' acc => ∃ as : List Addr, acc = as.map .ref ∧ as.length = d.length ∧ as.Nodup ∧ (∀ x ∈ as, h0 x = none ∧ x ≠ a ∧ x ≠ D ∧ h' x = some (.lst [])) ∧ h' a = some (.obj "Model" [("_frame", frV n ps)]) ∧ h' D = some junk ∧ ∀ b, b ≠ a → b ≠ D → b ∉ as → h' b = h0 b)
    ⟨[], rfl, rfl, List.nodup_nil, (fun x hx => nomatch hx), by rw [CH.set_ne (Ne.symm Da), CH.set_same]; rfl, CH.set_same, fun b h1 h2 _ => by rw [CH.set_ne h2, CH.set_ne h1]⟩ (fun d x r h' acc K el inv k => ?_) fun h' acc inv => ?_
  · obtain ⟨as, rfl, hl, nd, hx, sf, hj, rest⟩ := inv
    refine ⟨fun _ => ⟨Nat.zero_le _, fun p hp => ⟨?_, k _ _ ⟨as ++ [p], ?_⟩⟩⟩, fun e => nomatch e⟩
    · refine szlt ?_
      have := congrArg List.length el
      rw [List.length_append, List.length_cons, List.length_range] at this
      rw [List.length_map]
      have := o.n1
      omega
    · have pa : p ≠ a := fun e => by subst e; rw [sf] at hp; cases hp
      have pD : p ≠ D := fun e => by subst e; rw [hj] at hp; cases hp
      have pn : p ∉ as := fun c => by rw [(hx p c).2.2.2] at hp; cases hp
      refine ⟨by rw [List.map_append]; rfl, by rw [List.length_append, hl, List.length_append]; rfl, ?_, fun y hy => ?_, ?_, ?_, fun b h1 h2 h3 => ?_⟩
      · rw [List.nodup_append]
        refine ⟨nd, by simp, fun y hy z hz e => ?_⟩
        rw [List.mem_singleton] at hz
        exact pn (by rw [← hz, ← e]; exact hy)
      · rcases List.mem_append.mp hy with hy2 | hy2
        · obtain ⟨f1, f2, f3, f4⟩ := hx y hy2
          refine ⟨f1, f2, f3, ?_⟩
          rw [CH.set_ne (fun e => pn (by rw [← e]; exact hy2))]
          exact f4
        · rw [List.mem_singleton] at hy2
          subst hy2
          refine ⟨?_, pa, pD, CH.set_same⟩
          rw [← rest y pa pD pn]
          exact hp
      · rw [CH.set_ne (Ne.symm pa)]; exact sf
      · rw [CH.set_ne (Ne.symm pD)]; exact hj
      · have h4 : b ∉ as := fun c => h3 (List.mem_append_left _ c)
        have h5 : b ≠ p := fun e => h3 (by rw [e]; exact List.mem_append_right _ (List.mem_cons_self ..))
        rw [CH.set_ne h5]
        exact rest b h1 h2 h4
  · obtain ⟨as, rfl, hl, nd, hx, sf, hj, rest⟩ := inv
    rw [List.length_range] at hl
    have sf' : (h'.del D) a = some (.obj "Model" [("_frame", frV n ps)]) := by rw [CH.del_ne (Ne.symm Da)]; exact sf
    refine ⟨_, rfl, a, _, _, rfl, sf', g.fl__seen, (show 1 < 1000 by decide), ?_⟩
    have m1 : Mk1 h0 a [("_frame", frV n ps), ("_seen", .lst (as.map .ref))] as (seeL []) ((h'.del D).set a (.obj "Model" [("_frame", frV n ps), ("_seen", .lst (as.map .ref))])) := {
      self := CH.set_same
      at_ := fun i x e => by
        obtain ⟨f1, f2, f3, f4⟩ := hx x (List.mem_of_getElem? e)
        rw [CH.set_ne f2, CH.del_ne f3]
        exact f4
      fr := fun x h => ⟨(hx x h).1, (hx x h).2.1⟩
      nd := nd
      rest := fun b h1 h2 => by
        rw [CH.set_ne h1]
        by_cases e : b = D
        · subst e; rw [CH.del_same]; exact hD0.symm
        · rw [CH.del_ne e]; exact rest b h1 e h2 }
    refine w_for (w_sq ⟨_, rfl, 1, _, rfl, rfl, ?_⟩)
    refine goL_map (fun d h' ρ' => Mk1 h0 a [("_frame", frV n ps), ("_seen", .lst (as.map .ref))] as (seeL d) h' ∧ ∃ u v, ρ' = [some (.ref a), some (frV n ps), some (dV kvs), none, u, v, none]) ⟨m1, _, _, rfl⟩ (fun d x r h' ρ' K el inv k => ?_) fun h' ρ' inv => ?_
    · obtain ⟨m, u, v, rfl⟩ := inv
      have xm : x ∈ ps := by rw [← el]; exact List.mem_append_right _ (List.mem_cons_self ..)
      obtain ⟨x1, x2⟩ := o.lt x xm
      have e1 : ∃ y, as[x.1]? = some y := ⟨as[x.1]'(by omega), List.getElem?_eq_getElem _⟩
      obtain ⟨y, ey⟩ := e1
      have e2 : atI (as.map Val.ref) ((x.1 : Nat) : Int) = some (.ref y) := by
        unfold atI ixN
        rw [List.length_map, if_pos (by omega), if_pos (by omega)]
        simp [ey]
      have ll : ((seeL d x.1).map wV).length < sizeLine := by
        refine szlt ?_
        rw [List.length_map]
        unfold seeL
        rw [List.length_map]
        have := List.length_filter_le (fun p : Nat × Nat => decide (p.1 = x.1)) d
        have := congrArg List.length el
        rw [List.length_append, List.length_cons] at this
        have := o.pl
        omega
      refine ⟨_, rfl, rfl, _, rfl, _, _, _, rdO_ref m.self, g.fl__seen, rfl, _, rfl, (x.1 : Int), _, rfl, e2, ⟨y, _, rfl, m.at_ _ _ ey⟩, _, rfl, y, _, rfl, m.at_ _ _ ey, ll, ?_⟩
      refine k _ _ ⟨?_, _, _, rfl⟩
      have := m.upd (w := x.2) ey
      have e3 : seeL (d ++ [x]) = fun i => if x.1 = i then seeL d i ++ [x.2] else seeL d i := funext fun i => seeL_push d x i
      rw [e3]
      exact this
    · obtain ⟨m, u, v, rfl⟩ := inv
      intro p hp
      have pa : p ≠ a := fun e => by subst e; rw [m.self] at hp; cases hp
      have pn : p ∉ as := fun c => by
        obtain ⟨i, hi, e⟩ := List.mem_iff_getElem.mp c
        rw [m.at_ i p (by rw [List.getElem?_eq_getElem hi, e])] at hp
        cases hp
      have p0 : h0 p = none := by rw [← m.rest p pa pn]; exact hp
      refine ⟨_, rfl, a, _, _, rfl, (CH.set_ne (Ne.symm pa)).trans m.self, g.fl__values, (show 2 < 1000 by decide), ?_⟩
      have m2 : Mk2 h0 a [("_frame", frV n ps), ("_seen", .lst (as.map .ref)), ("_values", .ref p)] as (seeL ps) p (nzs []) ((h'.set p (.dct [])).set a (.obj "Model" [("_frame", frV n ps), ("_seen", .lst (as.map .ref)), ("_values", .ref p)])) := {
        self := CH.set_same
        at_ := fun i x e => by
          have xm := List.mem_of_getElem? e
          rw [CH.set_ne (m.fr x xm).2, CH.set_ne (fun e => pn (by rw [← e]; exact xm))]
          exact m.at_ i x e
        vl := by rw [CH.set_ne pa, CH.set_same]; rfl
        rest := fun b h1 h2 h3 => by rw [CH.set_ne h1, CH.set_ne h3]; exact m.rest b h1 h2 }
      refine w_for ⟨_, rfl, _, rfl, ?_⟩
      show goL always _ (List.map _ (List.map _ _)) _ _ _
      rw [List.map_map]
      refine goL_map (fun d h' ρ' => Mk2 h0 a [("_frame", frV n ps), ("_seen", .lst (as.map .ref)), ("_values", .ref p)] as (seeL ps) p (nzs d) h' ∧ ∃ u v w, ρ' = [some (.ref a), some (frV n ps), some (dV kvs), u, v, w, none]) ⟨m2, _, _, _, rfl⟩ (fun d x r h' ρ' K el inv k => ?_) fun h' ρ' inv => ?_
      · obtain ⟨m, u, v, w, rfl⟩ := inv
        have hx : x ∈ kvs := by rw [← el]; exact List.mem_append_right _ (List.mem_cons_self ..)
        have lk : vget (dL kvs) (.inr x.1) = some (lV x.2) := by rw [vget_dL, look_of ok.nd hx]; rfl
        have il : ∀ {u v w : Option Val} {Q : VP} {X : XP}, Q (lV x.2) h' → wpE Γ (.ix (.var 2) (.var 3)) [some (.ref a), some (frV n ps), some (dV kvs), some (.str x.1), v, w, none] h' Q X := fun q => ⟨_, rfl, _, rfl, .inr (.inl ⟨_, .inr x.1, _, rfl, rfl, lk, q⟩)⟩
        refine w_nm (w_for (w_sq (il (u := none) ?_)))
        refine goL_map (fun _ h2 ρ' => h2 = h' ∧ ∃ v w, ρ' = [some (.ref a), some (frV n ps), some (dV kvs), some (.str x.1), v, w, none]) ⟨rfl, _, _, rfl⟩ (fun d2 y r2 h2 ρ2 K2 el2 inv2 k2 => ?_) fun h2 ρ2 inv2 => ?_
        · obtain ⟨rfl, v, w, rfl⟩ := inv2
          have hy : y ∈ x.2 := by rw [← el2]; exact List.mem_append_right _ (List.mem_cons_self ..)
          exact ⟨g.o_is_world, _, rfl, _, rfl, 0, _, rfl, rfl, callF g.f_is_world ⟨y, n, ok.lt x hx y hy, rfl, true, rfl, br_f (k2 _ _ ⟨rfl, _, _, rfl⟩)⟩⟩
        · obtain ⟨rfl, v, w, rfl⟩ := inv2
          refine w_ite (w_cmp (w_blt (w_es (il (u := none) ⟨_, .inl ⟨_, rfl, rfl⟩, _, _, rfl, rfl, br (fun c => ?_) fun c => ?_⟩))))
          · have ne : ¬ x.2 = [] := fun e => by
              have := of_decide_eq_true c
              rw [e] at this
              exact absurd this (by decide)
            refine w_sub (w_xf (w_es (il (u := none) (w_es0 (ss_lV (ok.ll x hx) (fun w hw => ?_) ?_)))))
            · have := ok.lt x hx w hw
              have := o.n1
              omega
            · refine ⟨_, rfl, _, _, _, rdO_ref m.self, g.fl__values, rfl, _, rfl, .inr (.inl ⟨p, _, .inr x.1, rfl, m.vl, rfl, ?_, ?_⟩)⟩
              · refine szlt ?_
                have e := congrArg List.length el
                rw [List.length_append, List.length_cons] at e
                have := ok.kl
                unfold dL nzs
                rw [List.length_map, List.length_map]
                have := List.length_filter_le (fun p : Str × List Nat => !decide (p.2 = [])) d
                omega
              · refine k _ _ ⟨?_, _, _, _, rfl⟩
                have nn : x.1 ∉ (nzs d).map (·.1) := fun c => by
                  have c' := nzs_keys c
                  have nd := ok.nd
                  rw [← el, List.map_append, List.nodup_append] at nd
                  exact nd.2.2 _ c' _ (List.mem_cons_self ..) rfl
                rw [vput_dL nn, nzs_push, if_neg ne]
                exact {
                  self := by rw [CH.set_ne (Ne.symm pa)]; exact m.self
                  at_ := fun i y e => by
                    rw [CH.set_ne (fun e2 => pn (by rw [← e2]; exact List.mem_of_getElem? e))]
                    exact m.at_ i y e
                  vl := CH.set_same
                  rest := fun b h1 h2 h3 => by rw [CH.set_ne h3]; exact m.rest b h1 h2 h3 }
          · have ne : x.2 = [] := by
              have := of_decide_eq_false c
              rw [List.length_map] at this
              exact
                    List.length_eq_zero_iff.mp (by omega)
            refine k _ _ ⟨?_, _, _, _, rfl⟩
            rw [nzs_push, if_pos ne]
            exact m
      · obtain ⟨m3, u, v, w, rfl⟩ := inv
        have fr := m.fr
        refine q h' (fun b hb => ?_) (fun b hb => ?_) (fz_model m3 hl ha p0 fun x hx => (fr x hx).1)
        · refine m3.rest b (fun e => hb (by rw [e]; exact ha)) (fun c => hb (fr b c).1) (fun e => hb (by rw [e]; exact p0))
        · by_cases e1 : b = a
          · subst e1; rw [m3.self]; intro e; cases e
          · by_cases e2 : b = p
            · subst e2; rw [m3.vl]; intro e; cases e
            · by_cases e3 : b ∈ as
              · obtain ⟨i, hi, e⟩ := List.mem_iff_getElem.mp e3
                rw [m3.at_ i b (by rw [List.getElem?_eq_getElem hi, e])]
                intro e; cases e
              · rw [m3.rest b e1 e3 e2, hb]
                intro e; cases e
end
end K94
namespace K94
open PySem L2 Vc
/-! E94: parts of models. -/
theorem ext_refl {h : CH} : Ext h h := fun _ _ => rfl
theorem ext_trans {a b c : CH} (x : Ext a b) (y : Ext b c) : Ext a c := fun p n => by rw [y p (by rw [x p n]; exact n), x p n]
theorem ext_set {h : CH} {p : Addr} {x : Val} (n : h p = none) : Ext h (h.set p x) := fun b hb => CH.set_ne fun e => hb (by rw [e]; exact n)
theorem sub_none {h h' : CH} (k : ∀ b, h b ≠ none → h' b = h b) : h'.sub (fun b => (h b).isNone) = h := by
  funext b
  show (if (h b).isNone = true then none else h' b) = h b
  by_cases c : h b = none
  · rw [c]; rfl
  · rw [if_neg (fun e => c (Option.isNone_iff_eq_none.mp e))]
    exact k b c
theorem mkM {Γ : Fns} {i : Nat} {h : CH} {Q : VP} {X : XP} (g : Gm Γ (i + 2)) (hi : 2 ≤ i) {n : Nat} {ps : List (Nat × Nat)} {kvs : List (Str × List Nat)} (o : FrOk n ps) (ok : VsOk n kvs) (q : Q (Mo.mk n ps (nzs kvs)).v h) :
    Γ.cn "Model" [frV n ps, dV kvs] h Q X := by
  rw [g.c_Model]
  refine ⟨i + 1, rfl, rfl, fun a ha => ⟨i, rfl, hi, a, h, n, ps, kvs, ha, rfl, o, ok, rfl, fun h' k1 k2 k3 => ⟨rfl, fun b => (h b).isNone, 3, fun b hb => k2 b (Option.isNone_iff_eq_none.mp hb), ?_⟩⟩⟩
  rw [k3, sub_none k1]
  exact q
/-! ### numbers of worlds -/
def dN (d : List (Nat × Nat)) : List (Key × Val) := d.map fun q => (.inl (q.1 : Int), wV q.2)
def numK (ws : List Nat) : List (Key × Val) := dN ws.zipIdx
def numV (ws : List Nat) : Val := .dct (numK ws)
theorem enumV_w (ws : List Nat) : enumV (ws.map wV) = ws.zipIdx.map fun q => .tup [wV q.2, wV q.1] := by
  unfold enumV
  rw [List.mapIdx_eq_zipIdx_map, List.zipIdx_map, List.map_map]
  rfl
theorem vput_dN {d : List (Nat × Nat)} {x l : Nat} (n : x ∉ d.map (·.1)) : vput (dN d) (.inl (x : Int)) (wV l) = dN (d ++ [(x, l)]) := by
  unfold vput
  rw [if_neg]
  · unfold dN
    rw [List.map_append]
    rfl
  · intro c
    obtain ⟨q, hq, e⟩ := List.any_eq_true.mp c
    obtain ⟨p, hp, rfl⟩ :=
          List.mem_map.mp hq
    have e1 := of_decide_eq_true e
    exact n (List.mem_map.mpr ⟨p, hp, Int.ofNat_inj.mp (Sum.inl.inj e1)⟩)
theorem find_zip (v : Nat) : ∀ (ws : List Nat) (k : Nat), (ws.zipIdx k).find? (fun q => decide (q.1 = v)) = if v ∈ ws then some (v, k + ws.idxOf v) else none
  | [], k => by simp
  | w :: ws, k => by
    rw [List.zipIdx_cons, List.find?_cons]
    by_cases c : w = v
    · subst c; simp
    · have c' : ¬ v = w := fun e => c e.symm
      have e1 : (decide ((w, k).1 = v)) = false := decide_eq_false c
      rw [e1, find_zip v ws (k + 1)]
      simp only [List.mem_cons, c', false_or]
      have e2 : (w == v) = false := by simpa using c
      rw [List.idxOf_cons, e2]
      by_cases d : v ∈ ws
      · rw [if_pos d, if_pos d]; simp; omega
      · rw [if_neg d, if_neg d]
theorem vget_dN (v : Nat) (d : List (Nat × Nat)) : vget (dN d) (.inl (v : Int)) = (d.find? fun q => decide (q.1 = v)).map fun q => wV q.2 := by
  unfold vget dN
  induction d with
  | nil => rfl
  | cons p r ih =>
    rw [List.map_cons, List.find?_cons, List.find?_cons]
    by_cases c : p.1 = v
    · have c' : ((Sum.inl (p.1 : Int) : Key) = Sum.inl (v : Int)) := by rw [c]
      simp only [decide_eq_true c, decide_eq_true c', Option.map_some]
    · have c' : ¬ ((Sum.inl (p.1 : Int) : Key) = Sum.inl (v : Int)) := fun e => c (Int.ofNat_inj.mp (Sum.inl.inj e))
      simp only [decide_eq_false c, decide_eq_false c']
      exact ih
theorem vget_num (ws : List Nat) (v : Nat) : vget (numK ws) (.inl (v : Int)) = if v ∈ ws then some (wV (numb ws v)) else none := by
  unfold numK numb
  rw [vget_dN, find_zip]
  by_cases c : v ∈ ws
  · rw [if_pos c, if_pos c]; simp
  · rw [if_neg c, if_neg c]; rfl
theorem inP_num {ws : List Nat} {v : Nat} {h : CH} {Q : Bool → Prop} (q : Q (decide (v ∈ ws))) : inP (wV v) (numV ws) h Q := ⟨.inr (.inl ⟨.inl (v : Int), numK ws, rfl, rfl, by
  rw [vget_num]
  by_cases c : v ∈ ws
  · rw [if_pos c]; rw [decide_eq_true c] at q; exact q
  · rw [if_neg c]; rw [decide_eq_false c] at q; exact q⟩)⟩
theorem ix_num {ws : List Nat} {v : Nat} {h : CH} {Q : VP} (hv : v ∈ ws) (q : Q (wV (numb ws v)) h) : ixV (numV ws) (wV v) h Q := .inr (.inl ⟨numK ws, .inl (v : Int), wV (numb ws v), rfl, rfl, by rw [vget_num, if_pos hv], q⟩)
theorem numb_lt {ws : List Nat} {v : Nat} (h : v ∈ ws) : numb ws v < ws.length := List.idxOf_lt_length_of_mem h
theorem numb_inj {ws : List Nat} {v w : Nat} (hv : v ∈ ws) (hw : w ∈ ws) (e : numb ws v = numb ws w) : v = w := by
  have a : ws[numb ws v]? = some v := by rw [List.getElem?_eq_getElem (numb_lt hv)]; exact congrArg some (List.getElem_idxOf (numb_lt hv))
  have b : ws[numb ws w]? = some w := by rw [List.getElem?_eq_getElem (numb_lt hw)]; exact congrArg some (List.getElem_idxOf (numb_lt hw))
  rw [e] at a
  exact Option.some.inj (a.symm.trans b)
/-- no more than there is room for -/
theorem nd_len : ∀ {l m : List Nat}, l.Nodup → (∀ x ∈ l, x ∈ m) → l.length ≤ m.length
  | [], m, _, _ => Nat.zero_le _
  | a :: l, m, nd, h => by
    rw [List.nodup_cons] at nd
    have ha :=
          h a (List.mem_cons_self ..)
    have := nd_len (l := l) (m := m.erase a) nd.2 fun x hx => (List.mem_erase_of_ne (fun e => nd.1 (by rw [← e]; exact hx))).mpr (h x (List.mem_cons_of_mem _ hx))
    rw [List.length_erase_of_mem ha] at this
    have := List.length_pos_of_mem ha
    rw [List.length_cons]
    omega
theorem nd_lt {l : List Nat} {n : Nat} (nd : l.Nodup) (h : ∀ x ∈ l, x < n) : l.length ≤ n := by
  have := nd_len nd (m := List.range n) fun x hx => List.mem_range.mpr (h x hx)
  rwa [List.length_range] at this
/-- whole numbers from nothing on -/
theorem perm_cast {qs : List Int} {l : List Nat} (p : qs.Perm (l.map fun w : Nat => (w : Int))) : ∃ m : List Nat, m.Perm l ∧ qs = m.map fun w : Nat => (w : Int) := by
  refine ⟨qs.map Int.toNat, ?_, ?_⟩
  · have := p.map Int.toNat
    rw [List.map_map] at this
    have e : l.map (Int.toNat ∘ fun w : Nat => (w : Int)) = l := by
      conv
            => rhs; rw [← List.map_id l]
      exact List.map_congr_left fun w _ => Int.toNat_natCast w
    rw [e] at this
    exact this
  · rw [List.map_map]
    conv => lhs; rw [← List.map_id qs]
    refine List.map_congr_left fun i hi => ?_
    obtain ⟨w, _, rfl⟩ := List.mem_map.mp (p.mem_iff.mp hi)
    show ((w : Int)) = ((Int.toNat (w : Int) : Nat) : Int)
    rw [Int.toNat_natCast]
abbrev cP (p : Nat × Nat) : Int × Int := ((p.1 : Int), (p.2 : Int))
theorem perm_castP {qs : List (Int × Int)} {l : List (Nat × Nat)} (p : qs.Perm (l.map cP)) : ∃ m : List (Nat × Nat), m.Perm l ∧ qs = m.map cP := by
  refine ⟨qs.map fun q => (q.1.toNat, q.2.toNat), ?_, ?_⟩
  · have := p.map fun q : Int × Int => (q.1.toNat, q.2.toNat)
    rw [List.map_map] at this
    have e : l.map ((fun q : Int × Int => (q.1.toNat, q.2.toNat)) ∘ cP) = l := by
      conv
            => rhs; rw [← List.map_id l]
      exact List.map_congr_left fun w _ => rfl
    rw [e] at this
    exact this
  · rw [List.map_map]
    conv => lhs; rw [← List.map_id qs]
    refine List.map_congr_left fun i hi => ?_
    obtain ⟨w, _, rfl⟩ := List.mem_map.mp (p.mem_iff.mp hi)
    rfl
theorem ltN_of {m : List (Nat × Nat)} (s : (m.map cP).Pairwise lexle) (nd : m.Nodup) : m.Pairwise ltN := by
  rw [List.pairwise_map] at s
  refine (s.and nd).imp fun {a b} hab => ?_
  obtain ⟨h1, h2⟩ := hab
  obtain ⟨a1, a2⟩ := a
  obtain ⟨b1, b2⟩ := b
  simp only [lexle, ltN, cP] at h1 ⊢
  have : ¬ (a1 = b1 ∧ a2 = b2) := fun e => h2 (by rw [e.1, e.2])
  omega
theorem so_nodup {m : List (Nat × Nat)} (s : m.Pairwise ltN) : m.Nodup := s.imp fun {a b} hab e => by subst e; unfold ltN at hab; omega
theorem part_nodup {M : Mo} {ws : List Nat} (o : FrOk M.n M.ps) : (partP M ws).Nodup := by
  have nd := (so_nodup o.so).filter fun p => decide (p.1 ∈ ws) && decide (p.2 ∈ ws)
  unfold partP
  refine List.pairwise_map.mpr (List.Pairwise.imp_of_mem ?_ nd)
  intro a b ha hb ne e
  have a2 := (List.mem_filter.mp ha).2
  have b2 := (List.mem_filter.mp hb).2
  rw [Bool.and_eq_true, decide_eq_true_eq, decide_eq_true_eq] at a2 b2
  have e1 :=
        congrArg Prod.fst e
  have e2 := congrArg Prod.snd e
  exact ne (Prod.ext (numb_inj a2.1 b2.1 e1) (numb_inj a2.2 b2.2 e2))
section
variable {Γ : Fns} {own : List Nat} {it : I} {e : E} {ρ : Vc.Env} {h : CH} {Q : VP} {X : XP}
/-- a dict by names -/
theorem wp_dcn {i : Nat} (vs : List (Str × List Nat)) (f : Str × List Nat → List Nat) (nd : (vs.map (·.1)).Nodup) (kl : vs.length ≤ 60) (hr : ∀ x, ((wipe own ρ).set i (some x))[i]? = some (some x))
    (hi : ∀ K : List Val → (CH → Prop) → CH → Prop, K ((dL vs).map fun p => kval p.1) always h → wpI Γ it ρ h K X)
    (hb : ∀ p ∈ vs, ∀ D, h D = none → ∀ Q' : VP, Q' (lV (f p)) (h.set D junk) → wpE Γ e ((wipe own ρ).set i (some (.str p.1))) (h.set D junk) Q' noX)
    (q : Q (dV (vs.map fun p => (p.1, f p))) h) : wpE Γ (.dc false own (.nm i) it .nil (.var i) e) ρ h Q X := by
  refine hi _ fun D hD => ?_
  show goL always _ (List.map _ (List.map _ _)) _ _ _
  rw [List.map_map]
  refine goL_map (fun d h' acc => h' = h.set D junk ∧ acc = dL (d.map fun p => (p.1, f p))) ⟨rfl, rfl⟩ (fun d x r h' acc K el i k => ?_) fun h' acc i => ?_
  · obtain ⟨rfl, rfl⟩ := i
    have hx : x ∈ vs := by rw [← el]; exact List.mem_append_right _ (List.mem_cons_self ..)
    refine ⟨fun _ => ⟨_, hr _, hb x hx D hD _ ⟨.inr x.1, rfl, ?_, ?_⟩⟩, fun e => nomatch e⟩
    · refine szlt ?_
      have e := congrArg List.length el
      rw [List.length_append, List.length_cons] at e
      unfold dL
      rw [List.length_map, List.length_map]
      omega
    · refine k _ _ ⟨rfl, ?_⟩
      rw [vput_dL, List.map_append]
      · rfl
      · rw [List.map_map]
        rw [← el, List.map_append, List.nodup_append] at nd
        exact fun c => nd.2.2 _ c _ (List.mem_cons_self ..) rfl
  · obtain ⟨rfl, rfl⟩ := i
    show Q (.dct _) ((h.set D junk).del D)
    rw [del_set hD]
    exact q
end
section
variable {Γ : Fns} {j : Nat}
theorem vc_part_of (g : Gm Γ j) : ∀ xs h Q Xp, R_part_of j xs h Q Xp → wpSs Γ m_part_of (bodyPo Q Xp) (startV N_part_of xs) h := by
  rintro xs h Q Xp ⟨hj, M, ws, o, ne, nd, wl, rfl, q⟩
  obtain ⟨i, rfl, hi⟩ : ∃ i, j = i + 2 ∧ 2 ≤ i := ⟨j - 2, by omega, by omega⟩
  have wn : ws.length ≤ M.n := nd_lt nd wl
  have n9 := o.n1
  refine w_set ⟨_, rfl, _, rfl, fun D hD => ?_⟩
  rw [enumV_w]
  refine goL_map (fun d h' acc => h' = h.set D junk ∧ acc = dN d) ⟨rfl, rfl⟩ (fun d x r h' acc K el i k => ?_) fun h' acc i => ?_
  · obtain ⟨rfl, rfl⟩ := i
    refine ⟨_, rfl, rfl, fun _ => ⟨_, rfl, _, rfl, .inl (x.1 : Int), rfl, ?_, ?_⟩, fun e => nomatch e⟩
    · refine szlt ?_
      have e := congrArg List.length el
      rw [List.length_append, List.length_cons, List.length_zipIdx] at e
      unfold dN
      rw [List.length_map]
      omega
    · refine k _ _ ⟨rfl, vput_dN ?_⟩
      have e := congrArg (List.map Prod.fst) el
      rw [List.map_append, List.zipIdx_map_fst] at e
      rw [← e, List.nodup_append] at nd
      exact fun c => nd.2.2 _ c _ (List.mem_cons_self ..) rfl
  · obtain ⟨rfl, rfl⟩ := i
    show wpSs Γ _ _ _ ((h.set D junk).del D)
    rw [del_set hD]
    refine w_set (wp_lc M.ps pV (fun p => decide (p.1 ∈ ws) && decide (p.2 ∈ ws)) (fun p => pV (numb ws p.1, numb ws p.2)) (by have := o.pl; omega) ?_ (fun p hp D hD A K hA k1 k2 => ?_) ?_)
    · intro K k
      refine w_sq (w_ix (wp_frame (M := M) g ?_ ⟨1, _, rfl, rfl, k⟩))
      exact fun _ q => ⟨_, rfl, q⟩
    · refine ⟨_, rfl, rfl, w_if1 (w_and (w_cmp ⟨_, rfl, _, rfl, inP_num (br (fun c => ⟨_, rfl, _, rfl, inP_num (cs (fun c' => ?_) fun c' => ?_)⟩) fun c => ?_)⟩))⟩
      · have c1 := of_decide_eq_true c
        have c2 := of_decide_eq_true c'
        exact ⟨_, rfl, _, rfl, ix_num c1 ⟨_, rfl, _, rfl, ix_num c2 ⟨sl9 rfl, hA, k1 (by rw [c, c']; rfl)⟩⟩⟩
      · exact k2 (by rw [c']; simp)
      · refine br_f ⟨fun e => (nomatch e), fun _ => k2 (by rw [c]; rfl)⟩
    · refine w_set (wp_tw (M := M) g o.vk ?_ ?_)
      · exact fun _ q => ⟨_, rfl, q⟩
      refine w_set (wp_dcn M.vs (fun p => (p.2.filter fun v => decide (v ∈ ws)).map (numb ws)) o.vk.nd o.vk.kl ?_ ?_ ?_ ?_)
      · exact fun _ => rfl
      · exact fun K k => ⟨_, rfl, _, rfl, k⟩
      · intro p hp D hD Q' q'
        have lk : vget (dL M.vs) (.inr p.1) = some (lV p.2) := by rw [vget_dL, look_of o.vk.nd hp]; rfl
        have e : Q' (.lst ((p.2.filter fun v => decide (v ∈ ws)).map fun v => wV (numb ws v))) (h.set D junk) := by
          have e1 : ((p.2.filter fun v => decide (v ∈ ws)).map (numb ws)).map wV = (p.2.filter fun v => decide (v ∈ ws)).map fun v => wV (numb ws v) := List.map_map
          rw [← e1]
          exact q'
        refine wp_lc p.2 wV (fun v => decide (v ∈ ws)) (fun v => wV (numb ws v)) (by have := o.l9 p hp; omega) ?_ (fun v hv D hD A K hA k1 k2 => ?_) e
        · exact fun K k => ⟨_, rfl, _, rfl, .inr (.inl ⟨_, .inr p.1, _, rfl, rfl, lk, k⟩)⟩
        · exact ⟨_, rfl, _, rfl, inP_num (cs (fun c => ⟨_, rfl, _, rfl, ix_num (of_decide_eq_true c) ⟨hA, k1 c⟩⟩) fun c => k2 c)⟩
      · have pe : ((M.ps.filter fun p => decide (p.1 ∈ ws) && decide (p.2 ∈ ws)).map fun p => pV (numb ws p.1, numb ws p.2)) = (partP M ws).map pV := by unfold partP; rw [List.map_map]; rfl
        rw [pe]
        refine w_ret ⟨g.oc_Model (by omega), w_es ⟨_, rfl, _, .inl ⟨_, rfl, rfl⟩, _, rfl, _, rfl, .inr (.inl ⟨_, pairsOf_p _, fun qs p s => ?_⟩)⟩⟩
        obtain ⟨m, pm, rfl⟩ := perm_castP p
        have nm : m.Nodup := (pm.nodup_iff).mpr (part_nodup o.fr)
        have sm := ltN_of s nm
        have ml : m.length ≤ 60 := by
          rw [pm.length_eq]
          unfold partP
          rw [List.length_map]
          exact Nat.le_trans (List.length_filter_le ..) o.pl
        refine ⟨_, rfl, sl9 rfl, _, rfl, ?_⟩
        rw [map_pV, List.length_map]
        refine mkM g hi ⟨?_, by omega, fun p hp => ?_, sm, ml⟩ ⟨?_, fun p hp w hw => ?_, fun p hp => ?_, ?_⟩ (q m pm sm)
        · exact List.length_pos_iff.mpr ne
        · obtain ⟨r, hr, rfl⟩ := List.mem_map.mp (pm.mem_iff.mp hp)
          have r2 := (List.mem_filter.mp hr).2
          rw [Bool.and_eq_true, decide_eq_true_eq, decide_eq_true_eq] at r2
          exact ⟨numb_lt r2.1, numb_lt r2.2⟩
        · rw [List.map_map]; exact o.vk.nd
        · obtain ⟨r, hr, rfl⟩ := List.mem_map.mp hp
          obtain ⟨v, hv, rfl⟩ := List.mem_map.mp hw
          exact numb_lt (of_decide_eq_true (List.mem_filter.mp hv).2)
        · obtain ⟨r, hr, rfl⟩ := List.mem_map.mp hp
          have := o.l9 r hr
          rw [List.length_map]
          have := List.length_filter_le (fun v => decide (v ∈ ws)) r.2
          omega
        · rw [List.length_map]; exact o.vk.kl
end
end K94
namespace K94
open PySem L2 Vc
/-! I94: what is reached; two models beside each other; names at a world. -/
theorem rdL_ref {h : CH} {a : Addr} {xs : List Val} (e : h a = some (.lst xs)) : rdL h (.ref a) = some xs := by
  show (match h a with | some (.lst xs) => some xs | _ => none) = _
  rw [e]
theorem rdD_ref {h : CH} {a : Addr} {xs : List (Key × Val)} (e : h a = some (.dct xs)) : rdD h (.ref a) = some xs := by
  show (match h a with | some (.dct xs) => some xs | _ => none) = _
  rw [e]
theorem inP_ref {h : CH} {a : Addr} {l : List Nat} {v : Nat} {Q : Bool → Prop} (e : h a = some (lV l)) (q : Q (decide (v ∈ l))) : inP (wV v) (.ref a) h Q := by
  have dh : datH h (.ref a) = some (.list (l.map fun w : Nat => .int (w : Int))) := by
    show (match h a with | some (.lst xs) => Val.toD (.lst xs) | _ => none) = _
    rw [e]
    exact en_w.lst.dat l
  exact ⟨.inl ⟨_, en_w.dat v, en_w.sh (by decide) v, _, .inl ⟨dh, en_w.lst.sh (by decide) l⟩, by rw [any_en en_w v l]; exact q⟩⟩
theorem push_nd {l : List Nat} {w : Nat} (nd : l.Nodup) : (push l w).Nodup := by
  unfold push
  by_cases c : w ∈ l
  · rw [if_pos c]; exact nd
  · rw [if_neg c, List.nodup_append]
    refine ⟨nd, by simp, fun a ha b hb e => ?_⟩
    rw [List.mem_singleton] at hb
    exact c (by rw [← hb, ← e]; exact ha)
theorem push_lt {l : List Nat} {w n : Nat} (hw : w < n) (h : ∀ x ∈ l, x < n) : ∀ x ∈ push l w, x < n := by
  unfold push
  intro x hx
  by_cases c : w ∈ l
  · rw [if_pos c] at hx; exact h x hx
  · rw [if_neg c] at hx
    rcases
          List.mem_append.mp hx with hx | hx
    · exact h x hx
    · rw [List.mem_singleton] at hx; omega
theorem push_hd {l : List Nat} {v w : Nat} (h : ∃ r, l = v :: r) : ∃ r, push l w = v :: r := by
  obtain ⟨r, rfl⟩ := h
  unfold push
  by_cases c : w ∈ v :: r
  · exact ⟨r, if_pos c⟩
  · exact ⟨r ++ [w], if_neg c⟩
theorem push_len {l : List Nat} {w : Nat} : l.length ≤ (push l w).length := by
  unfold push
  by_cases c : w ∈ l
  · rw [if_pos c]; exact Nat.le_refl _
  · rw [if_neg c, List.length_append]; omega
section
variable {Γ : Fns} {j : Nat}
theorem vc_generated (g : Gm Γ j) : ∀ xs h Q Xp, R_generated j xs h Q Xp → wpSs Γ m_generated (bodyPo Q Xp) (startV N_generated xs) h := by
  rintro xs h Q Xp ⟨hj, M, v, o, hv, rfl, q⟩
  obtain ⟨i, rfl, hi⟩ := lvl hj
  have n9 := o.n1
  refine w_set ⟨_, rfl, sl9 rfl, fun p hp => w_set ?_⟩
  refine ⟨fun m ρ' h' => ∃ (at_ : Nat) (l : List Nat) (u : Option Val), ρ' = [some M.v, some (wV v), some (.ref p), some (wV at_), u] ∧ h' = h.set p (lV l) ∧ l.Nodup ∧ (∀ x ∈ l, x < M.n) ∧ at_ ≤ l.length ∧ m = M.n - at_ ∧ (∃ r, l = v :: r) ∧ ∀ r, Rch M at_ l r → Rch M 0 [v] r,
    ⟨M.n, 0, [v], none, rfl, rfl, by simp, fun x hx => by rw [List.mem_singleton] at hx; omega, Nat.zero_le _, rfl, ⟨[], rfl⟩, fun r x => x⟩, fun m ρ' h' W => ?_⟩
  obtain ⟨at_, l, u, rfl, rfl, nd, lt, al, rfl, hd, rc⟩ := W
  have ln := nd_lt nd lt
  refine ⟨_, rfl, _, rfl, _, .inl ⟨_, rdL_ref CH.set_same, rfl⟩, _, _, rfl, rfl, br (fun c => ?_) fun c => ?_⟩
  · have c1 := of_decide_eq_true c
    rw [List.length_map] at c1
    have al2 : at_ < l.length := by omega
    have ea : l[at_]? = some (l[at_]) := List.getElem?_eq_getElem al2
    have ai : atI (l.map wV) (at_ : Int) = some (wV (l[at_])) := by
      unfold atI ixN
      rw [List.length_map, if_pos (by omega), if_pos (by omega)]
      simp [ea]
    have lx : l[at_] < M.n := lt _ (List.getElem_mem al2)
    refine w_for (w_sq (wp_seen (M := M) (v := l[at_]) g lx ?_ ?_ ?_))
    · exact fun _ q => ⟨_, rfl, q⟩
    · exact fun _ q => ⟨_, rfl, _, rfl, .inl ⟨_, _, _, rdL_ref CH.set_same, rfl, ai, q⟩⟩
    refine goL_map (fun d h' ρ' => h' = h.set p (lV (d.foldl push l)) ∧ (d.foldl push l).Nodup ∧ (∀ x ∈ d.foldl push l, x < M.n) ∧ l.length ≤ (d.foldl push l).length ∧ (∃ r, d.foldl push l = v :: r) ∧ ∃ u, ρ' = [some M.v, some (wV v), some (.ref p), some (wV at_), u]) ⟨rfl, nd, lt, Nat.le_refl _, hd, _, rfl⟩ (fun d x r h' ρ' K el i k => ?_) fun h' ρ' i => ?_
    · obtain ⟨rfl, nd, lt, ll, hd, u, rfl⟩ := i
      have hx : x ∈ M.see l[at_] := by rw [← el]; exact List.mem_append_right _ (List.mem_cons_self ..)
      have xl := see_lt o.toOk hx
      have e1 : (d ++ [x]).foldl push l = push (d.foldl push l) x := by rw [List.foldl_append]; rfl
      have done : K [some M.v, some (wV v), some (.ref p), some (wV at_), some (wV x)] (h.set p (lV (push (d.foldl push l) x))) := by
        refine k _ _ ⟨by rw [e1], by rw [e1]; exact push_nd nd, by rw [e1]; exact push_lt xl lt, by rw [e1]; exact Nat.le_trans ll push_len, by rw [e1]; exact push_hd hd, _, rfl⟩
      refine w_nm (w_ite (w_cmp ⟨_, rfl, _, rfl, inP_ref CH.set_same (br (fun c => ?_) fun c => ?_)⟩))
      · have c1 : ¬ x ∈ d.foldl push l := by simpa using c
        have e2 : push (d.foldl push l) x = d.foldl push l ++ [x] := if_neg c1
        rw [e2] at done
        refine ⟨_, rfl, ⟨p, _, rfl, CH.set_same⟩, _, rfl, p, _, rfl, CH.set_same, ?_, ?_⟩
        · refine szlt ?_
          rw [List.length_map]
          have := nd_lt nd lt
          omega
        · rw [CH.set_set]
          have e3 : (d.foldl push l).map wV ++ [wV x] = (d.foldl push l ++ [x]).map wV := by rw [List.map_append]; rfl
          rw [e3]
          exact done
      · have c1 : x ∈ d.foldl push l := by simpa using c
        have e2 : push (d.foldl push l) x = d.foldl push l := if_pos c1
        rw [e2] at done
        exact done
    · obtain ⟨rfl, nd, lt, ll, hd, u, rfl⟩ := i
      refine ⟨_, rfl, _, rfl, M.n - (at_ + 1), by omega, at_ + 1, _, u, rfl, rfl, nd, lt, by omega, rfl, hd, fun r x => rc r (.step ea x)⟩
  · have c1 := of_decide_eq_false c
    rw [List.length_map] at c1
    obtain ⟨r, rfl⟩ := hd
    have e1 : cutL ((v :: r).map wV) (some 1) none = r.map wV := by
      unfold cutL HT.sIx
      simp
      exact List.take_of_length_le (by rw [List.length_map]; exact Nat.le_refl _)
    refine w_ret (w_call g.o_part_of ⟨_, rfl, _, rfl, sl9 rfl, _, rfl, 1, rfl, .inl ⟨_, rdL_ref CH.set_same, ?_⟩⟩)
    refine ⟨_, rfl, .inl ⟨r.map (fun w : Nat => (w : Int)), ?_, fun ms pm s => ?_⟩⟩
    · show intsOf (cutL ((v :: r).map wV) (some 1) none) = _
      rw [e1]
      exact intsOf_w r
    · obtain ⟨ws, pw, rfl⟩ := perm_cast pm
      have nd2 := List.nodup_cons.mp nd
      have nv : (v :: ws).Nodup := List.nodup_cons.mpr ⟨fun c => nd2.1 (pw.mem_iff.mp c), (pw.nodup_iff).mpr nd2.2⟩
      have wl : ∀ w ∈ v :: ws, w < M.n := fun w hw => by
        rcases List.mem_cons.mp hw with e | e
        · rw [e]; exact hv
        · exact lt w (List.mem_cons_of_mem _ (pw.mem_iff.mp e))
      have sw : ws.Pairwise (· ≤ ·) := by
        rw [List.pairwise_map] at s
        exact s.imp fun {a b} hab => by omega
      refine
            ⟨_, _, rfl, rfl, ?_, ?_⟩
      · refine szl ?_
        rw [List.length_map, List.length_map]
        have := nd_lt nv wl
        rw [List.length_cons] at this
        show 1 + _ ≤ _
        omega
      · rw [map_wV]
        exact callF g.f_part_of ⟨hi, M, v :: ws, o, (by simp), nv, wl, rfl, fun qs pq sq => q _ r ws qs (ext_set hp) (rc _ (.done (by omega))) pw sw pq sq (by have := nd_lt nv wl; rw [List.length_cons] at this; omega)⟩
/-- a row put under a name -/
def aput (vs : List (Str × List Nat)) (x : Str) (l : List Nat) : List (Str × List Nat) := if x ∈ vs.map (·.1) then vs.map (fun p => if p.1 = x then (p.1, l) else p) else vs ++ [(x, l)]
theorem vput_aput (vs : List (Str × List Nat)) (x : Str) (l : List Nat) : vput (dL vs) (.inr x) (lV l) = dL (aput vs x l) := by
  unfold aput
  by_cases c : x ∈ vs.map (·.1)
  · rw [if_pos c]
    unfold vput
    rw [if_pos]
    · unfold dL
      rw
            [List.map_map, List.map_map]
      refine
            List.map_congr_left fun p _ => ?_
      show (if (Sum.inr p.1 : Key) = Sum.inr x then ((Sum.inr p.1 : Key), lV l) else (Sum.inr p.1, lV p.2)) = ((fun q : Str × List Nat => ((Sum.inr q.1 : Key), lV q.2)) (if p.1 = x then (p.1, l) else p))
      by_cases d : p.1 = x
      · rw [if_pos d, if_pos (by rw [d])]
      · rw [if_neg d, if_neg fun e => d (Sum.inr.inj e)]
    · obtain ⟨p, hp, e⟩ := List.mem_map.mp c
      exact List.any_eq_true.mpr ⟨(.inr p.1, lV p.2), List.mem_map.mpr ⟨p, hp, rfl⟩, decide_eq_true (by rw [e])⟩
  · rw [if_neg c]
    exact vput_dL c
theorem aput_keys {vs : List (Str × List Nat)} {x : Str} {l : List Nat} : (aput vs x l).map (·.1) = if x ∈ vs.map (·.1) then vs.map (·.1) else vs.map (·.1) ++ [x] := by
  unfold aput
  by_cases c : x ∈ vs.map (·.1)
  · rw [if_pos c, if_pos c, List.map_map]
    refine
          List.map_congr_left fun p _ => ?_
    show (if p.1 = x then (p.1, l) else p).1 = p.1
    by_cases d : p.1 = x
    · rw [if_pos d]
    · rw [if_neg d]
  · rw [if_neg c, if_neg c, List.map_append]; rfl
theorem mem_aput {vs : List (Str × List Nat)} {x : Str} {l : List Nat} {p : Str × List Nat} (h : p ∈ aput vs x l) : p = (x, l) ∨ (p ∈ vs ∧ p.1 ≠ x) := by
  unfold aput at h
  by_cases c : x ∈ vs.map (·.1)
  · rw [if_pos c] at h
    obtain ⟨q, hq, e⟩ := List.mem_map.mp h
    by_cases d : q.1 = x
    · rw [if_pos d] at e; exact .inl (by rw [← e, d])
    · rw [if_neg d] at e; subst e; exact .inr ⟨hq, d⟩
  · rw [if_neg c] at h
    rcases
          List.mem_append.mp h with h | h
    · exact .inr ⟨h, fun e => c (List.mem_map.mpr ⟨p, h, e⟩)⟩
    · rw [List.mem_singleton] at h; exact .inl h
theorem aput_len {vs : List (Str × List Nat)} {x : Str} {l : List Nat} : (aput vs x l).length ≤ vs.length + 1 := by
  unfold aput
  by_cases c : x ∈ vs.map (·.1)
  · rw [if_pos c, List.length_map]; omega
  · rw [if_neg c, List.length_append]; exact Nat.le_refl _
theorem look_mem {vs : List (Str × List Nat)} {x : Str} {l : List Nat} (h : look vs x = some l) : (x, l) ∈ vs := by
  unfold look at h
  cases c : vs.find? fun p => decide (p.1 = x) with
  | none => rw [c] at h; cases h
  | some p =>
    rw [c] at h
    cases h
    have e := of_decide_eq_true (List.find?_some (p := fun p : Str × List Nat => decide (p.1 = x)) c)
    have m := List.mem_of_find?_eq_some c
    have e2 : (x, p.2) = p := by rw [← e]
    rw [e2]; exact m
theorem vs_len {M : Mo} (o : M.Cn) : M.vs.length ≤ 2 := by
  have e0 : M.vs.length = (M.vs.map (·.1)).length := (List.length_map ..).symm
  rw [e0]
  rcases o.nm with e | e | e | e <;> rw [e] <;> decide
theorem vc_disjoint (g : Gm Γ j) : ∀ xs h Q Xp, R_disjoint j xs h Q Xp → wpSs Γ m_disjoint (bodyPo Q Xp) (startV N_disjoint xs) h := by
  rintro xs h Q Xp ⟨hj, A, B, o, o', hl, rfl, q⟩
  obtain ⟨i, rfl, hi⟩ : ∃ i, j = i + 2 ∧ 2 ≤ i := ⟨j - 2, by omega, by omega⟩
  have n9 := o.n1
  have n9' := o'.n1
  refine w_set (w_ix (wp_frame (M := A) g (fun _ q => ⟨_, rfl, q⟩) ⟨0, _, rfl, rfl, w_set (w_bin (w_ix (wp_frame (M := A) g (fun _ q => ⟨_, rfl, q⟩) ⟨1, _, rfl, rfl, w_blt (w_es ?_)⟩)))⟩))
  refine wp_lc B.ps pV (fun _ => true) (fun p => pV (p.1 + A.n, p.2 + A.n)) (by have := o'.pl; omega) ?_ (fun p hp D hD A' K hA k1 k2 => ?_) ?_
  · intro K k
    refine w_sq (w_ix (wp_frame (M := B) g ?_ ⟨1, _, rfl, rfl, k⟩))
    exact fun _ q => ⟨_, rfl, q⟩
  · exact ⟨_, rfl, rfl, fun _ => ⟨_, rfl, _, rfl, _, rfl, _, rfl, sl9 rfl, hA, k1 rfl⟩, fun e => nomatch e⟩
  · refine ⟨_, rfl, ?_, ?_⟩
    · refine szl ?_
      rw [List.length_map, List.length_map]
      have := List.length_filter_le (fun _ : Nat × Nat => true) B.ps
      omega
    have e1 : A.ps.map pV ++ (B.ps.filter fun _ => true).map (fun p => pV (p.1 + A.n, p.2 + A.n)) = (A.ps ++ B.ps.map fun p => (p.1 + A.n, p.2 + A.n)).map pV := by
      rw [List.map_append, List.map_map, List.filter_eq_self.mpr (fun _ _ => rfl)]
      rfl
    rw [e1]
    refine w_set ⟨_, rfl, _, _, rfl, ln_tw A, g.ot_Model_true_worlds, callM g.t_Model_true_worlds ⟨A, o.vk.nd, o.vk.kl, rfl, fun p hp => ?_⟩⟩
    refine w_set (wp_tw (M := B) g o'.vk ?_ ?_)
    · exact fun _ q => ⟨_, rfl, q⟩
    refine w_for ⟨_, rfl, _, rfl, ?_⟩
    show goL always _ (List.map _ (List.map _ _)) _ _ _
    rw [List.map_map]
    refine goL_map (fun d h' ρ' => ∃ cur, h' = h.set p (dV cur) ∧ (cur.map (·.1)).Nodup ∧ (∀ r ∈ cur, ∀ w ∈ r.2, w < A.n + B.n) ∧ (∀ r ∈ cur, r.2.length ≤ 9 ∨ r.1 ∈ d.map (·.1) ∧ r.2.length ≤ 18) ∧ cur.length ≤ A.vs.length + d.length ∧ ∃ u, ρ' = [some A.v, some B.v, some (wV A.n), some (.tup ((A.ps ++ B.ps.map fun p => (p.1 + A.n, p.2 + A.n)).map pV)), some (.ref p), some (dV B.vs), u, none, none])
      ⟨A.vs, rfl, o.vk.nd, fun r hr w hw => by have := o.vk.lt r hr w hw; omega, fun r hr => .inl (o.l9 r hr), Nat.le_refl _, _, rfl⟩ (fun d x r h' ρ' K el i k => ?_) fun h' ρ' i => ?_
    · obtain ⟨cur, rfl, nd, lt, ll, cl, u, rfl⟩ := i
      have hx : x ∈ B.vs := by rw [← el]; exact List.mem_append_right _ (List.mem_cons_self ..)
      have lk : vget (dL B.vs) (.inr x.1) = some (lV x.2) := by rw [vget_dL, look_of o'.vk.nd hx]; rfl
      have xd : x.1 ∉ d.map (·.1) := fun c => by
        have nd := o'.vk.nd
        rw [← el, List.map_append, List.nodup_append] at nd
        exact nd.2.2 _ c _ (List.mem_cons_self ..) rfl
      have gt : (Option.map lV (look cur x.1)).getD (.lst []) = lV ((look cur x.1).getD []) := by cases look cur x.1 <;> rfl
      refine w_nm (w_sub (w_bin (w_bm ⟨_, rfl, .inl ⟨_, rdD_ref CH.set_same⟩, _, rfl, Nat.zero_le _, .inl ⟨.inr x.1, _, rfl, rdD_ref CH.set_same, ?_⟩⟩)))
      rw [vget_dL, gt]
      have l9 := o'.l9 x hx
      refine wp_lc x.2 wV (fun _ => true) (fun w => wV (w + A.n)) (by omega) ?_ (fun w hw D hD A' K hA k1 k2 => ?_) ?_
      · exact fun K k => ⟨_, rfl, _, rfl, .inr (.inl ⟨_, .inr x.1, _, rfl, rfl, lk, k⟩)⟩
      · exact ⟨fun _ => ⟨_, rfl, _, rfl, hA, k1 rfl⟩, fun e => nomatch e⟩
      · have e2 : ((look cur x.1).getD []).map wV ++ (x.2.filter fun _ => true).map (fun w => wV (w + A.n)) = ((look cur x.1).getD [] ++ x.2.map fun w => w + A.n).map wV := by
          rw [List.map_append, List.map_map, List.filter_eq_self.mpr (fun _ _ => rfl)]
          rfl
        have cl9 : ((look cur x.1).getD []).length ≤ 9 := by
          cases c : look cur x.1 with
          | none => simp
          | some l =>
            rcases ll _ (look_mem c) with e | e
            · exact e
            · exact (xd e.1).elim
        refine
              ⟨_, _, rfl, rfl, ?_, ?_⟩
        · refine szl ?_
          have := List.length_filter_le (fun _ : Nat => true) x.2
          rw [List.length_map, List.length_map]
          omega
        rw [e2]
        refine ⟨_, rfl, _, rfl, .inr (.inl ⟨p, _, .inr x.1, rfl, CH.set_same, rfl, ?_, ?_⟩)⟩
        · refine szlt ?_
          have := congrArg List.length el
          rw [List.length_append, List.length_cons] at this
          have := o.vk.kl
          have := o'.vk.kl
          unfold dL
          rw [List.length_map]
          omega
        · rw [CH.set_set, vput_aput]
          refine k _ _ ⟨_, rfl, ?_, fun r hr w hw => ?_, fun r hr => ?_, ?_, _, rfl⟩
          · rw [aput_keys]
            by_cases c : x.1 ∈ cur.map (·.1)
            · rw [if_pos c]; exact nd
            · rw [if_neg c, List.nodup_append]
              refine ⟨nd, by simp, fun a ha b hb e => ?_⟩
              rw [List.mem_singleton] at hb
              exact c (by rw [← hb, ← e]; exact ha)
          · rcases mem_aput hr with e | e
            · subst e
              rcases List.mem_append.mp hw with hw | hw
              · cases c : look cur x.1 with
                | none => rw [c] at hw; cases hw
                | some l => rw [c] at hw; exact lt _ (look_mem c) w hw
              · obtain ⟨y, hy, rfl⟩ := List.mem_map.mp hw
                have := o'.vk.lt x hx y hy
                omega
            · exact lt r e.1 w hw
          · rcases mem_aput hr with e | e
            · subst e
              refine .inr ⟨by rw [List.map_append]; exact List.mem_append_right _ (List.mem_cons_self ..), ?_⟩
              rw [List.length_append, List.length_map]
              omega
            · rcases ll r e.1 with e2 | e2
              · exact .inl e2
              · exact .inr ⟨by rw [List.map_append]; exact List.mem_append_left _ e2.1, e2.2⟩
          · have := @aput_len cur x.1 ((look cur x.1).getD [] ++ x.2.map fun w => w + A.n)
            rw [List.length_append]
            show _ ≤ _ + (d.length + 1)
            omega
    · obtain ⟨cur, rfl, nd, lt, ll, cl, u, rfl⟩ := i
      refine w_ret ⟨g.oc_Model (by omega), w_es (w_es ?_)⟩
      refine ⟨_, rfl, w_ix (wp_frame (M := B) g ?_ ⟨0, _, rfl, rfl, _, rfl, sl9 rfl, _, rfl, fun b => decide (b = p), 1, fun b c => ?_, ?_⟩)⟩
      · exact fun _ q => ⟨_, rfl, q⟩
      · have e1 := of_decide_eq_true c
        subst e1
        rw [CH.set_same]
        intro x
        cases x
      · rw [sub_set hp]
        have e1 : fz 1 (h.set p (dV cur)) (fun b => decide (b = p)) (.ref p) = dV cur := fz_dct (by simp) CH.set_same
        rw [e1]
        refine mkM g hi (n := A.n + B.n) (ps := A.ps ++ B.ps.map fun p => (p.1 + A.n, p.2 + A.n)) ⟨by have := o.n0; omega, by omega, fun r hr => ?_, ?_, ?_⟩ ⟨nd, lt, fun r hr => ?_, ?_⟩ (q _ rfl)
        · rcases
              List.mem_append.mp hr with hr | hr
          · have := o.ps r hr
            omega
          · obtain ⟨y, hy, rfl⟩ := List.mem_map.mp hr
            have := o'.ps y hy
            show y.1 + A.n < _ ∧ y.2 + A.n < _
            omega
        · rw [List.pairwise_append]
          refine ⟨o.fr.so, ?_, fun a ha b hb => ?_⟩
          · exact o'.fr.so.map _ fun a b hab => by unfold ltN at *; simp only; omega
          · obtain ⟨y, hy, rfl⟩ := List.mem_map.mp hb
            have := o.ps a ha
            unfold ltN
            simp only
            omega
        · rw [List.length_append, List.length_map]; exact hl
        · rcases ll r hr with e | e <;> omega
        · have k1 := vs_len o
          have k2 := vs_len o'
          omega
theorem names_uniq {zs ys : List Str} (hz : zs = [] ∨ zs = [("p" : Str)] ∨ zs = [("q" : Str)] ∨ zs = [("p" : Str), "q"]) (p : ys.Perm zs) (s : PyProof.Rows.sortedS ys = true) : ys = zs := by
  rcases hz with rfl | rfl | rfl | rfl
  · exact List.perm_nil.mp p
  · exact List.perm_singleton.mp p
  · exact List.perm_singleton.mp p
  · have l := p.length_eq
    match ys, l with
    | [a, b], _ =>
      have hp : ("p" : Str) ∈ [a, b] := p.mem_iff.mpr (List.mem_cons_self ..)
      have hq : ("q" : Str) ∈ [a, b] := p.mem_iff.mpr (List.mem_cons_of_mem _ (List.mem_cons_self ..))
      have ha : a ∈ [("p" : Str), "q"] := p.mem_iff.mp (List.mem_cons_self ..)
      have hb : b ∈ [("p" : Str), "q"] := p.mem_iff.mp (List.mem_cons_of_mem _ (List.mem_cons_self ..))
      simp only [List.mem_cons, List.not_mem_nil, or_false] at hp hq ha hb
      rcases ha with rfl | rfl
      · rcases hb with rfl | rfl
        · rcases hq with e | e <;> exact absurd e (by decide +kernel)
        · rfl
      · rcases hb with rfl | rfl
        · exact absurd s (by decide +kernel)
        · rcases hp with e | e <;> exact absurd e (by decide +kernel)
theorem na_cases {M : Mo} (o : M.Cn) (v : Nat) : na M v = [] ∨ na M v = [("p" : Str)] ∨ na M v = [("q" : Str)] ∨ na M v = [("p" : Str), "q"] := by
  unfold na
  rcases o.nm with e | e | e | e <;> rw [e] <;> simp only [List.filter_cons, List.filter_nil]
  · simp
  · split <;> simp
  · split <;> simp
  · split <;> split <;> simp
theorem strsOf_s : ∀ l : List Str, strsOf (l.map .str) = some l
  | [] => rfl
  | a :: l => by
    show (match strsOf (l.map .str) with | some l => some (a :: l) | none => none) = _
    rw [strsOf_s l]
theorem vc_names_at (g : Gm Γ j) : ∀ xs h Q Xp, R_names_at j xs h Q Xp → wpSs Γ m_names_at (bodyPo Q Xp) (startV N_names_at xs) h := by
  rintro xs h Q Xp ⟨hj, M, v, o, rfl, q⟩
  obtain ⟨i, rfl, hi⟩ := lvl hj
  refine w_set (wp_tw (M := M) g o.vk ?_ ?_)
  · exact fun _ q => ⟨_, rfl, q⟩
  refine w_ret (w_blt (w_es (wp_lc (M.vs.map (·.1)) .str (fun x => decide (v ∈ M.val x)) .str ?_ ?_ (fun x hx D hD A K hA k1 k2 => ?_) ?_)))
  · rw [List.length_map]; have := o.vk.kl; omega
  · intro K k
    refine ⟨_, rfl, _, rfl, ?_⟩
    have e : (dL M.vs).map (fun p => kval p.1) = (M.vs.map (·.1)).map Val.str := by unfold dL; rw [List.map_map, List.map_map]; rfl
    rw [e]
    exact k
  · obtain ⟨p, hp, rfl⟩ := List.mem_map.mp hx
    have lk : vget (dL M.vs) (.inr p.1) = some (lV p.2) := by rw [vget_dL, look_of o.vk.nd hp]; rfl
    have e : M.val p.1 = p.2 := by unfold Mo.val; rw [look_of o.vk.nd hp]; rfl
    rw [e] at k1 k2
    exact ⟨_, rfl, _, rfl, _, rfl, .inr (.inl ⟨_, .inr p.1, _, rfl, rfl, lk, inP_w (cs (fun c => ⟨_, rfl, hA, k1 c⟩) fun c => k2 c)⟩)⟩
  · refine ⟨_, rfl, .inr (.inr ⟨_, strsOf_s _, ?_, fun ys p s => ?_⟩)⟩
    · have := List.length_filter_le (fun x => decide (v ∈ M.val x)) (M.vs.map (·.1))
      rw [List.length_map] at this
      have := o.vk.kl
      omega
    · have e : ys = na M v := names_uniq (na_cases o v) p s
      subst e
      exact q
end
end K94
namespace K94
open PySem L2 Vc
/-! J94: tables of rounds. -/
theorem rdO_inv {h : CH} {a : Addr} {p : Str × List (Str × Val)} (e : rdO h (.ref a) = some p) : h a = some (.obj p.1 p.2) := by
  have e' : (match h a with | some (.obj C fs) => some (C, fs) | _ => none) = some p := e
  split at e'
  · rename_i c; cases e'; exact c
  · cases e'
theorem rdP_inv {h : CH} {a : Addr} {p : List (List Key × Val)} (e : rdP h (.ref a) = some p) : h a = some (.dtt p) := by
  have e' : (match h a with | some (.dtt kvs) => some kvs | _ => none) = some p := e
  split at e'
  · rename_i c; cases e'; exact c
  · cases e'
theorem rdext {h h' : CH} (e : Ext h h') {x : Val} {A B : Mo} {L : Ta} (r : RdAt h x A B L) : RdAt h' x A B L := by
  obtain ⟨f, r1, r2⟩ := r
  refine ⟨f, ?_, ?_⟩
  · cases x <;> first | exact r1 | skip
    have c := rdO_inv r1
    exact rdO_ref ((e _ (by rw [c]; intro z; cases z)).trans c)
  · cases f <;> first | exact r2 | skip
    have c := rdP_inv r2
    exact rdP_ref ((e _ (by rw [c]; intro z; cases z)).trans c)
theorem find_encT (p : Nat × Nat) (L : Ta) : vget (encT L) [.inl (p.1 : Int), .inl (p.2 : Int)] = (L.find? fun q => decide (q.1 = p)).map fun q => wV q.2 := by
  unfold vget encT
  induction L with
  | nil => rfl
  | cons q r ih =>
    rw [List.map_cons, List.find?_cons, List.find?_cons]
    by_cases c : q.1 = p
    · have c' : ([.inl (q.1.1 : Int), .inl (q.1.2 : Int)] : List Key) = [.inl (p.1 : Int), .inl (p.2 : Int)] := by rw [c]
      simp only [decide_eq_true c, decide_eq_true c', Option.map_some]
    · have c' : ¬ ([.inl (q.1.1 : Int), .inl (q.1.2 : Int)] : List Key) = [.inl (p.1 : Int), .inl (p.2 : Int)] := fun e => by
        injection e with e1 e2
        injection e2 with e3 e4
        exact c (Prod.ext (Int.ofNat_inj.mp (Sum.inl.inj e1)) (Int.ofNat_inj.mp (Sum.inl.inj e3)))
      simp only [decide_eq_false c, decide_eq_false c']
      exact ih
theorem vget_hasK (p : Nat × Nat) (L : Ta) : (vget (encT L) [.inl (p.1 : Int), .inl (p.2 : Int)]).isSome = hasK L p := by
  rw [find_encT, Option.isSome_map]
  unfold hasK
  rw [Bool.eq_iff_iff, List.find?_isSome, decide_eq_true_eq, List.mem_map]
  exact exists_congr fun q => and_congr_right fun _ => decide_eq_true_iff
theorem vget_tab {L : Ta} (nd : (L.map (·.1)).Nodup) {p : Nat × Nat} {r : Nat} (h : (p, r) ∈ L) : vget (encT L) [.inl (p.1 : Int), .inl (p.2 : Int)] = some (wV r) := by
  rw [find_encT]
  induction L with
  | nil => cases h
  | cons q t ih =>
    rw
          [List.map_cons, List.nodup_cons] at nd
    rw [List.find?_cons]
    rcases
          List.mem_cons.mp h with e | e
    · subst e
      simp
    · have ne : ¬ q.1 = p := fun x => nd.1 (List.mem_map.mpr ⟨(p, r), e, x.symm⟩)
      rw [decide_eq_false ne]
      exact ih nd.2 e
theorem vput_encT {L : Ta} {p : Nat × Nat} {r : Nat} (n : p ∉ L.map (·.1)) : vput (encT L) [.inl (p.1 : Int), .inl (p.2 : Int)] (wV r) = encT (L ++ [(p, r)]) := by
  unfold vput
  rw [if_neg]
  · unfold encT
    rw [List.map_append]
    rfl
  · intro c
    obtain ⟨q, hq, e⟩ := List.any_eq_true.mp c
    obtain ⟨x, hx, rfl⟩ := List.mem_map.mp hq
    have e1 := of_decide_eq_true e
    injection e1 with e2 e3
    injection e3 with e4 e5
    exact n (List.mem_map.mpr ⟨x, hx, Prod.ext (Int.ofNat_inj.mp (Sum.inl.inj e2)) (Int.ofNat_inj.mp (Sum.inl.inj e4))⟩)
theorem inP_tab {h : CH} {f : Val} {L : Ta} {p : Nat × Nat} {Q : Bool → Prop} (r : rdP h f = some (encT L)) (q : Q (hasK L p)) : inP (pV p) f h Q := by
  have w : ∃ k kvs, pkeyOf (pV p) = some k ∧ rdP h f = some kvs ∧ Q (vget kvs k).isSome := ⟨_, _, rfl, r, by rw [vget_hasK]; exact q⟩
  constructor
  cases f <;> first | exact .inr (.inr w) | (simp [rdP] at r)
theorem ix_tab {h : CH} {f : Val} {L : Ta} {p : Nat × Nat} {r : Nat} {Q : VP} (e : rdP h f = some (encT L)) (nd : (L.map (·.1)).Nodup) (m : (p, r) ∈ L) (q : Q (wV r) h) : ixV f (pV p) h Q := by
  have w : ∃ kvs k v, rdP h f = some kvs ∧ pkeyOf (pV p) = some k ∧ vget kvs k = some v ∧ Q v h := ⟨_, _, _, e, rfl, vget_tab nd m, q⟩
  cases f <;> first | exact .inr (.inr w) | (simp [rdP] at e)
theorem lk_first (A B : Mo) (f : Val) : (rfs A B f).lookup ("first" : Str) = some A.v := by rfl
theorem lk_second (A B : Mo) (f : Val) : (rfs A B f).lookup ("second" : Str) = some B.v := by rfl
theorem lk_found (A B : Mo) (f : Val) : (rfs A B f).lookup ("found" : Str) = some f := by rfl
theorem ln_lw (A B : Mo) (f : Val) : (rfs A B f).lookup ("left_witness" : Str) = none := by rfl
theorem ln_rw (A B : Mo) (f : Val) : (rfs A B f).lookup ("right_witness" : Str) = none := by rfl
theorem ln_it (A B : Mo) (f : Val) : (rfs A B f).lookup ("is_told" : Str) = none := by rfl
theorem ln_ea (A B : Mo) (f : Val) : (rfs A B f).lookup ("early" : Str) = none := by rfl
theorem ln_fo (A B : Mo) (f : Val) : (rfs A B f).lookup ("formula" : Str) = none := by rfl
theorem find_at {α : Type} {p : α → Bool} {d r : List α} {x : α} (hd : ∀ y ∈ d, p y = false) (hx : p x = true) : (d ++ x :: r).find? p = some x := by
  induction d with
  | nil => simp [hx]
  | cons a d ih =>
    rw [List.cons_append, List.find?_cons, hd a (List.mem_cons_self ..)]
    exact ih fun y hy => hd y (List.mem_cons_of_mem _ hy)
theorem find_no {α : Type} {p : α → Bool} {d : List α} (hd : ∀ y ∈ d, p y = false) : d.find? p = none := by
  rw [List.find?_eq_none]
  intro x hx c
  rw [hd x hx] at c
  cases c
theorem any_find {α : Type} (p : α → Bool) (l : List α) : l.any p = (l.find? p).isSome := by
  rw [Bool.eq_iff_iff, List.any_eq_true, List.find?_isSome]
theorem nil_all {l : List Nat} {p : Nat → Bool} : decide (l.filter (fun y => !p y) = []) = l.all p := by
  rw [Bool.eq_iff_iff, decide_eq_true_eq, List.filter_eq_nil_iff, List.all_eq_true]
  exact forall_congr' fun a => forall_congr' fun _ => by cases p a <;> simp
theorem ext_junk {h : CH} {D : Addr} (hD : h D = none) : Ext h (h.set D junk) := ext_set hD
section
variable {Γ : Fns} {i j : Nat}
section
variable {ρ : Vc.Env} {h : CH} {Q : VP} {X : XP} {x : Val} {A B : Mo} {L : Ta} {e : E}
theorem wp_first (g : Gm Γ j) (r : RdAt h x A B L) (he : ∀ Q' : VP, Q' x h → wpE Γ e ρ h Q' X) (q : Q A.v h) : wpE Γ (.fld e "first") ρ h Q X := by
  obtain ⟨f, r1, r2⟩ := r
  exact he _ ⟨_, _, _, r1, g.fl_first, lk_first A B f, q⟩
theorem wp_second (g : Gm Γ j) (r : RdAt h x A B L) (he : ∀ Q' : VP, Q' x h → wpE Γ e ρ h Q' X) (q : Q B.v h) : wpE Γ (.fld e "second") ρ h Q X := by
  obtain ⟨f, r1, r2⟩ := r
  exact he _ ⟨_, _, _, r1, g.fl_second, lk_second A B f, q⟩
theorem wp_found (g : Gm Γ j) (r : RdAt h x A B L) (he : ∀ Q' : VP, Q' x h → wpE Γ e ρ h Q' X) (q : ∀ f, rdP h f = some (encT L) → Q f h) : wpE Γ (.fld e "found") ρ h Q X := by
  obtain ⟨f, r1, r2⟩ := r
  exact he _ ⟨_, _, _, r1, g.fl_found, lk_found A B f, q f r2⟩
end
theorem vc_Rounds_left_witness (g : Gm Γ j) : ∀ xs h Q Xp, R_Rounds_left_witness j xs h Q Xp → wpSs Γ m_Rounds_left_witness (bodyPo Q Xp) (startV N_Rounds_left_witness xs) h := by
  rintro xs h Q Xp ⟨hj, A, B, L, s, v, w, rd, oa, ob, hv, hw, rfl, q⟩
  obtain ⟨i, rfl, hi⟩ := lvl hj
  refine w_for (w_sq (wp_seen (M := A) (v := v) g hv ?_ ?_ ?_))
  · intro Q' q'
    refine wp_first g rd ?_ q'
    exact fun _ q => ⟨_, rfl, q⟩
  · exact fun _ q => ⟨_, rfl, 0, _, rfl, rfl, q⟩
  refine goL_map (fun d h' ρ' => h' = h ∧ (∀ x ∈ d, ((B.see w).all fun y => hasK L (x, y)) = false) ∧ ∃ u, ρ' = [some s, some (pV (v, w)), u, none]) ⟨rfl, (fun x hx => nomatch hx), _, rfl⟩ (fun d x r h' ρ' K el inv k => ?_) fun h' ρ' inv => ?_
  · obtain ⟨rfl, no, u, rfl⟩ := inv
    have xs : (A.see v).find? (fun x => (B.see w).all fun y => hasK L (x, y)) = leftW A B L v w := rfl
    refine w_nm (w_ite (w_cmp ?_))
    refine wp_lc (B.see w) wV (fun y => !hasK L (x, y)) wV (by have := see_len ob w; omega) ?_ (fun y hy D hD A' K' hA k1 k2 => ?_) ?_
    · intro K' k'
      refine w_sq (wp_seen (M := B) (v := w) g hw ?_ ?_ k')
      · intro Q' q'
        refine wp_second g rd ?_ q'
        exact fun _ q => ⟨_, rfl, q⟩
      · exact fun _ q => ⟨_, rfl, 1, _, rfl, rfl, q⟩
    · refine w_nm (w_if1 (w_cmp ⟨_, rfl, _, rfl, sl9 rfl, wp_found g (rdext (ext_junk hD) rd) (fun _ q => ⟨_, rfl, q⟩) fun f rf => inP_tab (p := (x, y)) rf (cs (fun c => ⟨_, rfl, hA, k1 c⟩) fun c => k2 c)⟩))
    · refine ⟨Nat.zero_le _, lnil (br' nil_all (br (fun c => ?_) fun c => ?_))⟩
      · have e : leftW A B L v w = some x := by rw [← xs, ← el]; exact find_at no c
        rw [e] at q
        exact ⟨_, rfl, q⟩
      · refine k _ _ ⟨rfl, fun z hz => ?_, _, rfl⟩
        rcases
              List.mem_append.mp hz with hz | hz
        · exact no z hz
        · rw [List.mem_singleton] at hz; subst hz; exact c
  · obtain ⟨rfl, no, u, rfl⟩ := inv
    have e : leftW A B L v w = none := find_no no
    rw [e] at q
    exact q
theorem vc_Rounds_right_witness (g : Gm Γ j) : ∀ xs h Q Xp, R_Rounds_right_witness j xs h Q Xp → wpSs Γ m_Rounds_right_witness (bodyPo Q Xp) (startV N_Rounds_right_witness xs) h := by
  rintro xs h Q Xp ⟨hj, A, B, L, s, v, w, rd, oa, ob, hv, hw, rfl, q⟩
  obtain ⟨i, rfl, hi⟩ := lvl hj
  refine w_for (w_sq (wp_seen (M := B) (v := w) g hw ?_ ?_ ?_))
  · intro Q' q'
    refine wp_second g rd ?_ q'
    exact fun _ q => ⟨_, rfl, q⟩
  · exact fun _ q => ⟨_, rfl, 1, _, rfl, rfl, q⟩
  refine goL_map (fun d h' ρ' => h' = h ∧ (∀ y ∈ d, ((A.see v).all fun x => hasK L (x, y)) = false) ∧ ∃ u, ρ' = [some s, some (pV (v, w)), u, none]) ⟨rfl, (fun x hx => nomatch hx), _, rfl⟩ (fun d y r h' ρ' K el inv k => ?_) fun h' ρ' inv => ?_
  · obtain ⟨rfl, no, u, rfl⟩ := inv
    have xs : (B.see w).find? (fun y => (A.see v).all fun x => hasK L (x, y)) = rightW A B L v w := rfl
    refine w_nm (w_ite (w_cmp ?_))
    refine wp_lc (A.see v) wV (fun x => !hasK L (x, y)) wV (by have := see_len oa v; omega) ?_ (fun x hx D hD A' K' hA k1 k2 => ?_) ?_
    · intro K' k'
      refine w_sq (wp_seen (M := A) (v := v) g hv ?_ ?_ k')
      · intro Q' q'
        refine wp_first g rd ?_ q'
        exact fun _ q => ⟨_, rfl, q⟩
      · exact fun _ q => ⟨_, rfl, 0, _, rfl, rfl, q⟩
    · refine w_nm (w_if1 (w_cmp ⟨_, rfl, _, rfl, sl9 rfl, wp_found g (rdext (ext_junk hD) rd) (fun _ q => ⟨_, rfl, q⟩) fun f rf => inP_tab (p := (x, y)) rf (cs (fun c => ⟨_, rfl, hA, k1 c⟩) fun c => k2 c)⟩))
    · refine ⟨Nat.zero_le _, lnil (br' nil_all (br (fun c => ?_) fun c => ?_))⟩
      · have e : rightW A B L v w = some y := by rw [← xs, ← el]; exact find_at no c
        rw [e] at q
        exact ⟨_, rfl, q⟩
      · refine k _ _ ⟨rfl, fun z hz => ?_, _, rfl⟩
        rcases
              List.mem_append.mp hz with hz | hz
        · exact no z hz
        · rw [List.mem_singleton] at hz; subst hz; exact c
  · obtain ⟨rfl, no, u, rfl⟩ := inv
    have e : rightW A B L v w = none := find_no no
    rw [e] at q
    exact q
theorem non_oV (o : Option Nat) : (!isNon (oV o)) = o.isSome := by cases o <;> rfl
theorem vc_Rounds_is_told (g : Gm Γ j) : ∀ xs h Q Xp, R_Rounds_is_told j xs h Q Xp → wpSs Γ m_Rounds_is_told (bodyPo Q Xp) (startV N_Rounds_is_told xs) h := by
  rintro xs h Q Xp ⟨hj, A, B, L, s, v, w, rd, oa, ob, hv, hw, rfl, q⟩
  obtain ⟨i, rfl, hi⟩ := lvl hj
  obtain ⟨f, r1, r2⟩ := id rd
  have e : tell A B L v w = ((leftW A B L v w).isSome || (rightW A B L v w).isSome) := by unfold tell leftW rightW; rw [any_find, any_find]
  rw [e] at q
  refine w_ret (w_or ⟨_, rfl, _, _, r1, ln_lw A B f, g.ot_Rounds_left_witness, _, rfl, callM g.t_Rounds_left_witness ⟨hi, A, B, L, s, v, w, rd, oa, ob, hv, hw, rfl, br' (non_oV _) (br (fun c => ?_) fun c => ?_)⟩⟩)
  · rw [c] at q; exact q
  · refine ⟨_, rfl, _, _, r1, ln_rw A B f, g.ot_Rounds_right_witness, _, rfl, callM g.t_Rounds_right_witness ⟨hi, A, B, L, s, v, w, rd, oa, ob, hv, hw, rfl, ?_⟩⟩
    show Q (.bl (!isNon (oV (rightW A B L v w)))) h
    rw [non_oV]
    rw [c] at q
    exact q
end
end K94
namespace K94
open PySem L2 Vc
/-! L94: the table of rounds made. -/
def hS (h0 : CH) (p a : Addr) (A B : Mo) (L : Ta) : CH := (h0.set p (.dtt (encT L))).set a (.obj "Rounds" (rfs A B (.ref p)))
theorem hS_p {h0 : CH} {p a : Addr} {A B : Mo} {L : Ta} (pa : p ≠ a) : hS h0 p a A B L p = some (.dtt (encT L)) := by
  unfold hS; rw [CH.set_ne pa, CH.set_same]
theorem hS_a {h0 : CH} {p a : Addr} {A B : Mo} {L : Ta} : hS h0 p a A B L a = some (.obj "Rounds" (rfs A B (.ref p))) := CH.set_same
theorem hS_set {h0 : CH} {p a : Addr} {A B : Mo} {L L' : Ta} (pa : p ≠ a) : (hS h0 p a A B L).set p (.dtt (encT L')) = hS h0 p a A B L' := by
  funext b
  unfold hS CH.set
  by_cases e : b = p
  · subst e
    rw [if_pos rfl, if_neg pa, if_pos rfl]
  · rw [if_neg e]
    by_cases e2 : b = a
    · rw [if_pos e2, if_pos e2]
    · rw [if_neg e2, if_neg e2, if_neg e, if_neg e]
theorem hS_rd {h0 : CH} {p a : Addr} {A B : Mo} {L : Ta} (pa : p ≠ a) : RdAt (hS h0 p a A B L) (.ref a) A B L := ⟨.ref p, rdO_ref hS_a, rdP_ref (hS_p pa)⟩
theorem pairs_flat (A B : Mo) : ((List.range A.n).flatMap fun v => ((List.range B.n).filter fun _ => true).map fun w => pV (v, w)) = (pairs A B).map pV := by
  unfold pairs
  rw [List.map_flatMap]
  congr 1
  funext v
  rw [List.map_map, List.filter_eq_self.mpr (fun _ _ => rfl)]
  rfl
theorem pairs_len (A B : Mo) : (pairs A B).length = A.n * B.n := by
  unfold pairs
  have : ∀ l : List Nat, (l.flatMap fun v => (List.range B.n).map fun w => (v, w)).length = l.length * B.n := by
    intro l
    induction l with
    | nil => simp
    | cons a l ih => rw [List.flatMap_cons, List.length_append, ih, List.length_map, List.length_range, List.length_cons, Nat.succ_mul]; omega
  rw [this, List.length_range]
theorem nd_lenG {α : Type} [DecidableEq α] : ∀ {l m : List α}, l.Nodup → (∀ x ∈ l, x ∈ m) → l.length ≤ m.length
  | [], m, _, _ => Nat.zero_le _
  | a :: l, m, nd, h => by
    rw [List.nodup_cons] at nd
    have ha :=
          h a (List.mem_cons_self ..)
    have := nd_lenG (l := l) (m := m.erase a) nd.2 fun x hx => (List.mem_erase_of_ne (fun e => nd.1 (by rw [← e]; exact hx))).mpr (h x (List.mem_cons_of_mem _ hx))
    rw [List.length_erase_of_mem ha] at this
    have := List.length_pos_of_mem ha
    rw [List.length_cons]
    omega
theorem nn81 {a b : Nat} (ha : a ≤ 9) (hb : b ≤ 9) : a * b ≤ 81 := Nat.mul_le_mul ha hb
theorem up_len {A B : Mo} {k : Nat} {L : Ta} (u : Up A B k L) : L.length ≤ A.n * B.n := by
  rw [← pairs_len, ← List.length_map (f := (·.1))]
  refine nd_lenG u.nd fun p hp => ?_
  obtain ⟨⟨q, r⟩, hq, rfl⟩ := List.mem_map.mp hp
  exact mem_pairs.mpr ((u.mem q r).mp hq).1
theorem fi_len {A B : Mo} {L : Ta} (u : Fi A B L) : L.length ≤ A.n * B.n := by
  rw [← pairs_len, ← List.length_map (f := (·.1))]
  refine nd_lenG u.nd fun p hp => ?_
  obtain ⟨⟨q, r⟩, hq, rfl⟩ := List.mem_map.mp hp
  exact mem_pairs.mpr ((u.mem q r).mp hq).1
/-! texts -/
theorem strOk_pq {x : Str} (h : x ∈ [("p" : Str), "q"]) : PyData.strOk x = true := by
  simp only [List.mem_cons, List.not_mem_nil, or_false] at h
  rcases h with rfl | rfl <;> decide +kernel
theorem na_pq {M : Mo} (o : M.Cn) {v : Nat} {x : Str} (h : x ∈ na M v) : x ∈ [("p" : Str), "q"] := by
  rcases na_cases o v with e | e | e | e <;> rw [e] at h <;> simp at h ⊢ <;> first | exact .inl h | exact .inr h | exact h
theorem toDs_str : ∀ l : List Str, Val.toDs (l.map .str) = some (l.map PyData.str) := toDs_map (f := fun x : Str => .str x) (g := fun x => .str x) fun _ => rfl
theorem eqvAll_str : ∀ l m : List Str, PyData.eqvAll (l.map PyData.str) (m.map PyData.str) = decide (l = m) := eqvAll_map fun a b => by
  simp only [PyData.eqv]
  by_cases h : a = b
  · simp [h]
  · rw [decide_eq_false h]; exact beq_eq_false_iff_ne.mpr h
theorem sh_strs {l : List Str} (h : ∀ x ∈ l, PyData.strOk x = true) : SeqAt.shaped (.list (l.map PyData.str)) = true := by
  have h1 : PyData.canLayAll0 (l.map PyData.str) = true := layAll_of fun d hd => by
    obtain ⟨x, hx, rfl⟩ := List.mem_map.mp hd
    simp only [PyData.canLay0]
    exact h x hx
  have h2 : PyData.depthAll (l.map PyData.str) ≤ 0 := depAll_of fun d hd => by
    obtain ⟨x, hx, rfl⟩ := List.mem_map.mp hd
    simp [PyData.depth]
  unfold SeqAt.shaped
  simp only [PyData.canLay0, PyData.depth, h1, Bool.true_and]
  exact
        decide_eq_true (by omega)
theorem eqW_strs {l m : List Str} {h : CH} {Q : Bool → Prop} (hl : ∀ x ∈ l, PyData.strOk x = true) (hm : ∀ x ∈ m, PyData.strOk x = true) (q : Q (decide (l = m))) : eqW (.lst (l.map .str)) (.lst (m.map .str)) h Q := by
  refine eqW_of ⟨.list (l.map .str), .list (m.map .str), ?_, ?_, sh_strs hl, sh_strs hm, ?_⟩
  · show Val.toD (.lst _) = _; simp only [Val.toD, toDs_str]
  · show Val.toD (.lst _) = _; simp only [Val.toD, toDs_str]
  · simp only [PyData.eqv, eqvAll_str]; exact q
theorem inP_strs {x : Str} {l : List Str} {h : CH} {Q : Bool → Prop} (hx : PyData.strOk x = true) (hl : ∀ x ∈ l, PyData.strOk x = true) (q : Q (decide (x ∈ l))) : inP (.str x) (.lst (l.map .str)) h Q := by
  refine ⟨.inl ⟨.str x, rfl, ?_, l.map .str, .inl ⟨?_, sh_strs hl⟩, ?_⟩⟩
  · simp [SeqAt.shaped, PyData.canLay0, PyData.depth, hx]
  · show Val.toD (.lst _) = _; simp only [Val.toD, toDs_str]
  · have e : ((l.map PyData.str).any fun z => PyData.eqv z (.str x)) = decide (x ∈ l) := by
      rw
            [Bool.eq_iff_iff, List.any_eq_true, decide_eq_true_eq]
      constructor
      · rintro ⟨d, hd, c⟩
        obtain ⟨y, hy, rfl⟩ := List.mem_map.mp hd
        simp only [PyData.eqv, beq_iff_eq] at c
        subst c
        exact hy
      · intro hx
        exact ⟨.str x, List.mem_map.mpr ⟨x, hx, rfl⟩, by simp [PyData.eqv]⟩
    rw [e]
    exact q
section
variable {Γ : Fns} {i j : Nat}
theorem vc_Rounds___init__ (g : Gm Γ j) : ∀ xs h Q Xp, R_Rounds___init__ j xs h Q Xp → wpSs Γ m_Rounds___init__ (bodyPo Q Xp) (startV N_Rounds___init__ xs) h := by
  rintro xs h Q Xp ⟨hj, a, h0, A, B, ha, rfl, oa, ob, rfl, q⟩
  obtain ⟨i, rfl, hi⟩ := lvl hj
  have na9 := oa.n1
  have nb9 := ob.n1
  refine ⟨_, rfl, _, rfl, a, _, _, rfl, CH.set_same, g.fl_first, (show 0 < 1000 by decide), ?_⟩
  refine ⟨_, rfl, _, rfl, a, _, _, rfl, CH.set_same, g.fl_second, (show 1 < 1000 by decide), fun p hp => ?_⟩
  have pa : p ≠ a := fun e => by subst e; rw [CH.set_same] at hp; cases hp
  have p0 : h0 p = none := by rw [CH.set_ne pa, CH.set_ne pa, CH.set_ne pa] at hp; exact hp
  refine ⟨_, rfl, a, _, _, rfl, (CH.set_ne (Ne.symm pa)).trans CH.set_same, g.fl_found, (show 2 < 1000 by decide), ?_⟩
  have eh : (((((h0.set a (.obj "Rounds" [])).set a (.obj "Rounds" (fput "first" A.v []))).set a (.obj "Rounds" (fput "second" B.v (fput "first" A.v [])))).set p (.dtt [])).set a (.obj "Rounds" (fput "found" (.ref p) (fput "second" B.v (fput "first" A.v []))))) = hS h0 p a A B [] := by
    rw [CH.set_set, CH.set_set]
    funext b
    unfold hS CH.set
    by_cases e : b = a
    · rw [if_pos e, if_pos e]; rfl
    · rw [if_neg e, if_neg e]
      by_cases e2 : b = p
      · rw [if_pos e2, if_neg e, if_pos e2]; rfl
      · rw [if_neg e2, if_neg e, if_neg e2]
  rw [eh]
  refine w_set (wp_lc2 (List.range A.n) wV (List.range B.n) wV (fun _ _ => true) (fun v w => pV (v, w)) ?_ ?_ ?_ ?_ ?_)
  · rw [List.length_range, List.length_range]; have := nn81 na9 nb9; omega
  · intro K k
    refine w_ix (wp_frame (M := A) g ?_ ⟨0, _, rfl, rfl, _, rfl, ⟨by omega, by omega⟩, by rw [rng_w]; exact k⟩)
    exact fun _ q => ⟨_, rfl, q⟩
  · intro x hx D hD K k
    refine w_ix (wp_frame (M := B) g ?_ ⟨0, _, rfl, rfl, _, rfl, ⟨by omega, by omega⟩, by rw [rng_w]; exact k⟩)
    exact fun _ q => ⟨_, rfl, q⟩
  · intro x hx y hy D hD A' K hA k1 k2
    exact ⟨fun _ => ⟨_, rfl, _, rfl, sl9 rfl, hA, k1 rfl⟩, fun e => nomatch e⟩
  rw [pairs_flat]
  refine w_for (w_sq ⟨_, rfl, ?_⟩)
  refine goL_map (fun d h' ρ' => h' = hS h0 p a A B ((d.filter fun p => !decide (na A p.1 = na B p.2)).map fun p => (p, 0)) ∧ ∃ u v, ρ' = [some (.ref a), some A.v, some B.v, some (.lst ((pairs A B).map pV)), none, none, u, v, none, none]) ⟨rfl, _, _, rfl⟩ (fun d x r h' ρ' K el inv k => ?_) fun h' ρ' inv => ?_
  · obtain ⟨rfl, u, v, rfl⟩ := inv
    have ll := congrArg List.length el
    rw [List.length_append, List.length_cons, pairs_len] at ll
    have l81 := nn81 na9 nb9
    have lf := List.length_filter_le (fun p => !decide (na A p.1 = na B p.2)) d
    have nd := pairs_nodup A B
    rw [← el, List.nodup_append] at nd
    refine ⟨_, rfl, rfl, w_ite (w_cmp ⟨g.o_names_at, _, rfl, _, rfl, callF g.f_names_at ⟨by omega, A, x.1, oa, rfl, g.o_names_at, _, rfl, _, rfl, callF g.f_names_at ⟨by omega, B, x.2, ob, rfl, eqW_strs (fun y hy => strOk_pq (na_pq oa hy)) (fun y hy => strOk_pq (na_pq ob hy)) (br (fun c => ?_) fun c => ?_)⟩⟩⟩)⟩
    · have nx : x ∉ ((d.filter fun p => !decide (na A p.1 = na B p.2)).map fun p => (p, 0)).map (·.1) := fun c => by
        rw [List.map_map] at c
        obtain ⟨y, hy, e⟩ := List.mem_map.mp c
        have e : y = x := e
        subst e
        exact nd.2.2 y (List.mem_filter.mp hy).1 y (List.mem_cons_self ..) rfl
      have e1 : vput (encT ((d.filter fun p => !decide (na A p.1 = na B p.2)).map fun p => (p, 0))) [.inl (x.1 : Int), .inl (x.2 : Int)] (.int 0) = encT (((d.filter fun p => !decide (na A p.1 = na B p.2)).map fun p => (p, 0)) ++ [(x, 0)]) := vput_encT nx
      refine w_sub ⟨_, rfl, _, _, _, rdO_ref hS_a, g.fl_found, lk_found A B _, _, rfl, _, rfl, sl9 rfl, .inr (.inr ⟨p, _, _, rfl, hS_p pa, rfl, ?_, ?_⟩)⟩
      · refine szlt ?_
        unfold encT
        rw [List.length_map, List.length_map]
        omega
      · rw [e1, hS_set pa]
        refine k _ _ ⟨?_, _, _, rfl⟩
        rw [List.filter_append, List.filter_cons_of_pos (p := fun p : Nat × Nat => !decide (na A p.1 = na B p.2)) c, List.map_append]
        rfl
    · refine k _ _ ⟨?_, _, _, rfl⟩
      rw [List.filter_append, List.filter_cons_of_neg (p := fun p : Nat × Nat => !decide (na A p.1 = na B p.2)) (by rw [c]; decide)]
      simp
  · obtain ⟨rfl, u, v, rfl⟩ := inv
    refine w_set (w_set ?_)
    refine ⟨fun m ρ' h' => ∃ (L : Ta) (k c : Nat) (b : Bool) (u v t y : Option Val), ρ' = [some (.ref a), some A.v, some B.v, some (.lst ((pairs A B).map pV)), some (wV c), some (.bl b), u, v, t, y] ∧ h' = hS h0 p a A B L ∧ Up A B k L ∧ k ≤ L.length ∧ (b = true → c = k + 1) ∧ (b = false → told A B L = []) ∧ m = 2 * (A.n * B.n - L.length) + (if b then 1 else 0),
      ⟨_, _, 0, 1, true, _, _, _, _, rfl, rfl, up_zero (pairs_nodup A B), Nat.zero_le _, fun _ => rfl, (fun e => nomatch e), rfl⟩, fun m ρ' h' W => ?_⟩
    obtain ⟨L, k, c, b, u, v, t, y, rfl, rfl, up, kl, cb, tb, rfl⟩ := W
    have ul := up_len up
    have l81 := nn81 na9 nb9
    refine ⟨_, rfl, br (fun hb => ?_) fun hb => ?_⟩
    · subst hb
      have ck := cb rfl
      subst ck
      refine w_set (wp_lc (pairs A B) pV (fun p => !hasK L p && tell A B L p.1 p.2) pV (by rw [pairs_len]; omega) ?_ (fun z hz D hD A' K hA k1 k2 => ?_) ?_)
      · exact fun K k => ⟨_, rfl, k⟩
      · have iz := mem_pairs.mp hz
        have rd := rdext (ext_junk hD) (hS_rd (h0 := h0) (A := A) (B := B) (L := L) pa)
        obtain ⟨f, r1, r2⟩ := id rd
        refine w_nm (w_if1 (w_and (w_cmp ⟨_, rfl, wp_found g rd (fun _ q => ⟨_, rfl, q⟩) fun f rf => inP_tab rf (br (fun c => ?_) fun c => ?_)⟩)))
        · refine ⟨_, rfl, _, _, r1, ln_it A B f, g.ot_Rounds_is_told, _, rfl, callM g.t_Rounds_is_told ⟨hi, A, B, L, _, z.1, z.2, rd, oa.toOk, ob.toOk, iz.1, iz.2, rfl, cs (fun c' => ?_) fun c' => ?_⟩⟩
          · exact ⟨_, rfl, hA, k1 (by rw [c, c']; rfl)⟩
          · exact k2 (by rw [c']; simp)
        · exact br_f ⟨fun e => (nomatch e), fun _ => k2 (by rw [c]; rfl)⟩
      · have et : ((pairs A B).filter fun p => !hasK L p && tell A B L p.1 p.2) = told A B L := rfl
        rw [et]
        have us := up_step oa.toOk ob.toOk up (pairs_nodup A B)
        have usl := up_len us
        refine w_for (w_sq ⟨_, rfl, ?_⟩)
        refine goL_map (fun d h' ρ' => h' = hS h0 p a A B (L ++ d.map fun p => (p, k + 1)) ∧ ∃ y, ρ' = [some (.ref a), some A.v, some B.v, some (.lst ((pairs A B).map pV)), some (wV (k + 1)), some (.bl true), u, v, some (.lst ((told A B L).map pV)), y]) ⟨by simp, _, rfl⟩ (fun d x r h' ρ' K el inv k' => ?_) fun h' ρ' inv => ?_
        · obtain ⟨rfl, y, rfl⟩ := inv
          have nd := us.nd
          rw [← el, List.map_append, List.map_append, List.map_cons] at nd
          have nx : x ∉ (L ++ d.map fun p => (p, k + 1)).map (·.1) := fun c => by
            have c1 : x ∈ L.map (·.1) ++ (d.map fun p => ((p, k + 1) : (Nat × Nat) × Nat)).map (·.1) := by rw [← List.map_append]; exact c
            rw [List.map_append, ← List.append_assoc, List.nodup_append] at nd
            exact nd.2.2 x c1 x (List.mem_cons_self ..) rfl
          refine w_nm (w_sub ⟨_, rfl, _, rfl, _, _, _, rdO_ref hS_a, g.fl_found, lk_found A B _, _, rfl, .inr (.inr ⟨p, _, _, rfl, hS_p pa, rfl, ?_, ?_⟩)⟩)
          · refine szlt ?_
            unfold encT
            rw [List.length_map, List.length_append, List.length_map]
            rw [List.length_append, List.length_map, ← el, List.length_append, List.length_cons] at usl
            omega
          · rw [vput_encT nx, hS_set pa]
            refine k' _ _ ⟨?_, _, rfl⟩
            rw [List.map_append, List.append_assoc]
            rfl
        · obtain ⟨rfl, y, rfl⟩ := inv
          refine ⟨_, rfl, _, rfl, w_set (w_cmp ⟨_, rfl, _, .inl ⟨_, rfl, rfl⟩, _, _, rfl, rfl, ?_⟩)⟩
          by_cases tn : told A B L = []
          · refine ⟨_, ?_, L, k, k + 2, false, u, v, some (.lst ((told A B L).map pV)), y, ?_, ?_, up, kl, (fun e => nomatch e), fun _ => tn, rfl⟩
            · show _ < _
              simp
            · rw [tn]
              rfl
            · rw [tn]; simp
          · have tl : 0 < (told A B L).length := List.length_pos_iff.mpr tn
            have e2 : decide ((0 : Int) < (((told A B L).map pV).length : Nat)) = true := decide_eq_true (by rw [List.length_map]; omega)
            refine ⟨_, ?_, L ++ (told A B L).map fun p => (p, k + 1), k + 1, k + 2, true, u, v, some (.lst ((told A B L).map pV)), y, ?_, rfl, us, ?_, fun _ => rfl, (fun e => nomatch e), rfl⟩
            · rw [List.length_append, List.length_map] at usl ⊢
              show _ + 1 < _ + 1
              omega
            · rw [← e2]
              rfl
            · rw [List.length_append, List.length_map]; omega
    · subst hb
      have fi := fi_of oa.toOk ob.toOk up (tb rfl)
      exact q p L p0 pa fi fun r s hr => Nat.le_trans ((up.mem r s).mp hr).2.1 kl
end
end K94
namespace K94
open PySem L2 Vc
/-! N94: what the table of rounds tells. -/
theorem mapRk_eq (r : Addr → Val) : ∀ xs : List (Key × Val), mapRk r xs = xs.map fun p => (p.1, mapR r p.2)
  | [] => rfl
  | (k, x) :: xs => by rw [List.map_cons, ← mapRk_eq r xs]; rfl
theorem mapR_lV (r : Addr → Val) (l : List Nat) : mapR r (lV l) = lV l := by
  show Val.lst (mapRs r (l.map wV)) = _
  rw [mapRs_eq, List.map_map]
  exact congrArg Val.lst (List.map_congr_left fun p _ => rfl)
theorem mapR_M (r : Addr → Val) (M : Mo) : mapR r M.v = M.v := by
  show Val.obj "Model" [("_frame", .tup [wV M.n, .tup (mapRs r (M.ps.map pV))]), ("_seen", .lst (mapRs r ((List.range M.n).map fun v => lV (M.see v)))), ("_values", .dct (mapRk r (dL M.vs)))] = _
  rw [mapRs_eq, mapRs_eq, mapRk_eq, List.map_map, List.map_map]
  have e1 : M.ps.map (mapR r ∘ pV) = M.ps.map pV := List.map_congr_left fun p _ => rfl
  have e2 : (List.range M.n).map (mapR r ∘ fun v => lV (M.see v)) = (List.range M.n).map fun v => lV (M.see v) := List.map_congr_left fun v _ => mapR_lV r _
  have e3 : (dL M.vs).map (fun p => (p.1, mapR r p.2)) = dL M.vs := by
    unfold dL
    rw [List.map_map]
    refine List.map_congr_left fun q _ => ?_
    show (Sum.inr q.1, mapR r (lV q.2)) = _
    rw [mapR_lV]
  rw [e1, e2, e3]
  rfl
theorem fz_M {n : Nat} {h : CH} {F : Addr → Bool} (M : Mo) : fz n h F M.v = M.v := by
  cases n with
  | zero => rfl
  | succ n => exact mapR_M _ M
section
variable {Γ : Fns} {i j : Nat} {h : CH} {Q : VP} {X : XP}
/-- a table of rounds made and left as it is -/
theorem mkR (g : Gm Γ (i + 2)) (hi : 3 ≤ i) {A B : Mo} (oa : A.Cn) (ob : B.Cn) (q : ∀ L, Fi A B L → (∀ x r, (x, r) ∈ L → r ≤ L.length) → Q (rdV A B L) h) : Γ.cn "Rounds" [A.v, B.v] h Q X := by
  rw [g.c_Rounds]
  refine ⟨i + 1, rfl, rfl, fun a ha => ⟨i, rfl, hi, a, h, A, B, ha, rfl, oa, ob, rfl, fun p L hp pa fi le => ⟨rfl, fun b => (h b).isNone, 2, fun b hb => ?_, ?_⟩⟩⟩
  · have hb := Option.isNone_iff_eq_none.mp hb
    unfold CH.set
    by_cases e : b = a
    · rw [if_pos e]; intro z; cases z
    · rw [if_neg e]
      by_cases e2 : b = p
      · rw [if_pos e2]; intro z; cases z
      · rw [if_neg e2, hb]; intro z; cases z
  · have e1 : fz 2 (hS h p a A B L) (fun b => (h b).isNone) (.ref a) = rdV A B L := by
      show (if (h a).isNone = true then _ else _) = _
      rw [ha, if_pos (show (none : Option Val).isNone = true from rfl), hS_a]
      show Val.obj "Rounds" [("first", fz 1 _ _ A.v), ("second", fz 1 _ _ B.v), ("found", (if (h p).isNone = true then _ else _))] = _
      rw [fz_M, fz_M, hp, if_pos (show (none : Option Val).isNone = true from rfl), hS_p pa]
      show Val.obj "Rounds" [("first", A.v), ("second", B.v), ("found", .dtt ((encT L).map fun p => (p.1, p.2)))] = _
      rw [List.map_id']
      rfl
    have e2 : (hS h p a A B L).sub (fun b => (h b).isNone) = h := sub_none fun b hb => by
      unfold hS
      rw [CH.set_ne (fun e => hb (by rw [e]; exact ha)), CH.set_ne (fun e => hb (by rw [e]; exact hp))]
    show Q (fz 2 (hS h p a A B L) _ _) ((hS h p a A B L).sub _)
    rw [e1, e2]
    exact q L fi le
/-- a table of rounds made, still to change -/
theorem mkR' (g : Gm Γ (i + 2)) (hi : 3 ≤ i) {A B : Mo} (oa : A.Cn) (ob : B.Cn) (q : ∀ a h' f, h a = none → Ext h h' → h' a = some (.obj "Rounds" (rfs A B f)) → Q (.ref a) h') : Γ.cn "Rounds" [A.v, B.v] h Q X := by
  rw [g.c_Rounds]
  refine ⟨i + 1, rfl, rfl, fun a ha => ⟨i, rfl, hi, a, h, A, B, ha, rfl, oa, ob, rfl, fun p L hp pa fi le => ⟨rfl, fun b => false, 0, fun b hb => (nomatch hb), ?_⟩⟩⟩
  have e2 : (hS h p a A B L).sub (fun b => false) = hS h p a A B L := rfl
  show Q (.ref a) ((hS h p a A B L).sub _)
  rw [e2]
  refine q a _ (.ref p) ha (fun b hb => ?_) hS_a
  unfold hS
  rw [CH.set_ne (fun e => hb (by rw [e]; exact ha)), CH.set_ne (fun e => hb (by rw [e]; exact hp))]
def E0 : Mo := ⟨1, [], []⟩
theorem cn_E0 : E0.Cn where
  n0 := by decide
  n1 := by decide
  ps := fun p hp => nomatch hp
  pl := by decide
  vl := fun x w hw => nomatch hw
  fr := ⟨by decide, by decide, fun p hp => (nomatch hp), List.Pairwise.nil, by decide⟩
  vk := ⟨List.Pairwise.nil, fun p hp => (nomatch hp), fun p hp => (nomatch hp), by decide⟩
  l9 := fun p hp => nomatch hp
  nm := .inl rfl
theorem wp_E0 {ρ : Vc.Env} (g : Gm Γ (i + 2)) (hi : 2 ≤ i) (q : Q E0.v h) : wpE Γ (.mk "Model" (.cons (.tup (.cons (.cst (.int 1)) (.cons (.tup .nil) .nil))) (.cons (.frz .dnw) .nil))) ρ h Q X := by
  refine ⟨g.oc_Model (by omega), Nat.zero_le _, sl9 rfl, fun p hp => ⟨fun b => decide (b = p), 1, fun b c => ?_, ?_⟩⟩
  · have e1 := of_decide_eq_true c
    subst e1
    rw [CH.set_same]
    intro x
    cases x
  · rw [sub_set hp]
    have e1 : fz 1 (h.set p (.dct [])) (fun b => decide (b = p)) (.ref p) = dV [] := fz_dct (by simp) CH.set_same
    rw [e1]
    exact mkM g hi (n := 1) (ps := []) (kvs := []) cn_E0.fr cn_E0.vk q
theorem keysT (L : Ta) : (encT L).map (fun p => Val.tup (p.1.map kval)) = L.map fun q => pV q.1 := by
  unfold encT
  rw [List.map_map]
  rfl
theorem vc_Rounds_early (g : Gm Γ j) : ∀ xs h Q Xp, R_Rounds_early j xs h Q Xp → wpSs Γ m_Rounds_early (bodyPo Q Xp) (startV N_Rounds_early xs) h := by
  rintro xs h Q Xp ⟨hj, A, B, L, r, nd, ll, rfl, q⟩
  obtain ⟨i, rfl, hi⟩ : ∃ i, j = i + 2 ∧ 3 ≤ i := ⟨j - 2, by omega, by omega⟩
  have rd : ∀ h, RdAt h (rdV A B L) A B L := fun h => ⟨_, rfl, rfl⟩
  refine w_set ⟨g.oc_Rounds (by omega), w_es (wp_E0 g (by omega) (w_es (wp_E0 g (by omega) (w_es0 (mkR' g hi cn_E0 cn_E0 fun a h' f ha ex ea => ?_)))))⟩
  refine ⟨_, rfl, _, _, _, rfl, g.fl_first, lk_first A B _, _, rfl, a, _, _, rfl, ea, g.fl_first, (show 3 < 1000 by decide), ?_⟩
  refine ⟨_, rfl, _, _, _, rfl, g.fl_second, lk_second A B _, _, rfl, a, _, _, rfl, CH.set_same, g.fl_second, (show 3 < 1000 by decide), ?_⟩
  rw [CH.set_set]
  refine ⟨_, rfl, _, _, _, rfl, g.fl_found, lk_found A B _, _, rfl, fun D hD => ?_⟩
  rw [keysT]
  have eD : ∀ b, h b ≠ none → b ≠ a ∧ b ≠ D := fun b hb => by
    have c1 : b ≠ a := fun e => hb (by rw [e]; exact ha)
    refine ⟨c1, fun e => ?_⟩
    subst e
    rw [CH.set_ne c1, ex b hb] at hD
    exact hb hD
  have Da : D ≠ a := fun e => by subst e; rw [CH.set_same] at hD; cases hD
  refine goL_map (fun d h2 acc => h2 = (h'.set a (.obj "Rounds" (fput "second" B.v (fput "first" A.v (rfs E0 E0 f))))).set D junk ∧ acc = encT (d.filter fun q => decide (q.2 < r))) ⟨rfl, rfl⟩ (fun d x t h2 acc K el inv k => ?_) fun h2 acc inv => ?_
  · obtain ⟨rfl, rfl⟩ := inv
    have hx : x ∈ L := by rw [← el]; exact List.mem_append_right _ (List.mem_cons_self ..)
    refine w_nm (w_if1 (w_cmp (w_ix (wp_found g (rd _) (fun _ q => ⟨_, rfl, q⟩) fun f rf => ⟨_, rfl, ix_tab rf nd hx ⟨_, rfl, _, _, rfl, rfl, cs (fun c => ?_) fun c => ?_⟩⟩))))
    · refine ⟨_, rfl, w_ix (wp_found g (rd _) (fun _ q => ⟨_, rfl, q⟩) fun f rf => ⟨_, rfl, ix_tab rf nd hx ⟨_, rfl, ?_, ?_⟩⟩)⟩
      · refine szlt ?_
        have e := congrArg List.length el
        rw [List.length_append, List.length_cons] at e
        have := List.length_filter_le (fun q : (Nat × Nat) × Nat => decide (q.2 < r)) d
        unfold encT
        rw [List.length_map]
        omega
      · have c1 : decide (x.2 < r) = true := decide_eq_true (by have := of_decide_eq_true c; omega)
        refine k _ _ ⟨rfl, ?_⟩
        rw [List.filter_append, List.filter_cons_of_pos (p := fun q : (Nat × Nat) × Nat => decide (q.2 < r)) c1]
        have nx : x.1 ∉ (d.filter fun q => decide (q.2 < r)).map (·.1) := fun z => by
          obtain ⟨y, hy, e⟩ := List.mem_map.mp z
          rw [← el, List.map_append, List.nodup_append] at nd
          exact nd.2.2 y.1 (List.mem_map.mpr ⟨y, (List.mem_filter.mp hy).1, rfl⟩) x.1 (List.mem_cons_self ..) e
        exact vput_encT nx
    · have c1 : ¬ decide (x.2 < r) = true := fun z => by have := of_decide_eq_false c; have := of_decide_eq_true z; omega
      refine k _ _ ⟨rfl, ?_⟩
      rw [List.filter_append, List.filter_cons_of_neg (p := fun q : (Nat × Nat) × Nat => decide (q.2 < r)) c1]
      simp
  · obtain ⟨rfl, rfl⟩ := inv
    refine ⟨_, rfl, a, "Rounds", fput "second" B.v (fput "first" A.v (rfs E0 E0 f)), rfl, ?_, g.fl_found, (show 3 < 1000 by decide), ?_⟩
    · show ((h'.set a _).set D junk).del D a = _
      rw [del_set hD, CH.set_same]
    · refine ⟨_, rfl, ?_⟩
      show Q (.ref a) ((((h'.set a _).set D junk).del D).set a _)
      rw [del_set hD, CH.set_set]
      refine q _ _ ⟨_, rdO_ref CH.set_same, rfl⟩ fun b hb => ?_
      rw [CH.set_ne (eD b hb).1]
      exact ex b hb
theorem vc_round_of (g : Gm Γ j) : ∀ xs h Q Xp, R_round_of j xs h Q Xp → wpSs Γ m_round_of (bodyPo Q Xp) (startV N_round_of xs) h := by
  rintro xs h Q Xp ⟨hj, A, B, v, w, oa, ob, hv, hw, rfl, q⟩
  obtain ⟨i, rfl, hi⟩ : ∃ i, j = i + 2 ∧ 3 ≤ i := ⟨j - 2, by omega, by omega⟩
  refine w_ret (w_bm ⟨g.oc_Rounds (by omega), _, rfl, _, rfl, mkR g hi oa ob fun L fi le => ⟨_, _, _, rfl, g.fl_found, lk_found A B _, .inr ⟨_, rfl⟩, _, rfl, _, rfl, sl9 rfl, 1, rfl, .inr ⟨_, _, rfl, rfl, ?_⟩⟩⟩)
  have fl := fi_len fi
  by_cases c : (v, w) ∈ L.map (·.1)
  · obtain ⟨⟨p, r⟩, hp, e⟩ := List.mem_map.mp c
    have e : p = (v, w) := e
    subst e
    have e1 : vget (encT L) [.inl (v : Int), .inl (w : Int)] = some (wV r) := vget_tab (p := (v, w)) fi.nd hp
    rw [e1]
    exact q r (.inr ⟨r, rfl, Nat.le_trans (le _ _ hp) fl, ((fi.mem _ _).mp hp).2⟩)
  · have e1 : vget (encT L) [.inl (v : Int), .inl (w : Int)] = none := by
      have := vget_hasK (v, w) L
      unfold hasK at this
      rw [decide_eq_false c] at this
      exact Option.isNone_iff_eq_none.mp (by cases e : vget (encT L) [.inl (v : Int), .inl (w : Int)] <;> simp_all)
    rw [e1]
    refine q (-1) (.inl ⟨rfl, fun k => ?_⟩)
    cases d : D A B k v w with
    | false => rfl
    | true =>
      obtain ⟨r, _, ir⟩ := isR_ex d
      exact (c (List.mem_map.mpr ⟨((v, w), r), (fi.mem (v, w) r).mpr ⟨⟨hv, hw⟩, ir⟩, rfl⟩)).elim
theorem vc_telling (g : Gm Γ j) : ∀ xs h Q Xp, R_telling j xs h Q Xp → wpSs Γ m_telling (bodyPo Q Xp) (startV N_telling xs) h := by
  rintro xs h Q Xp ⟨A, B, v, w, r, oa, ob, hv, hw, ir, hj, rfl, q⟩
  obtain ⟨i, rfl, hi⟩ : ∃ i, j = i + 2 ∧ 3 ≤ i := ⟨j - 2, by omega, by omega⟩
  refine w_set ⟨g.oc_Rounds (by omega), _, rfl, _, rfl, mkR g hi oa ob fun L fi le => ?_⟩
  have hm : ((v, w), r) ∈ L := (fi.mem (v, w) r).mpr ⟨⟨hv, hw⟩, ir⟩
  have e1 : hasK L (v, w) = true := decide_eq_true (List.mem_map.mpr ⟨_, hm, rfl⟩)
  refine w_ite (w_cmp ⟨_, rfl, _, rfl, sl9 rfl, wp_found g (L := L) (A := A) (B := B) ⟨_, rfl, rfl⟩ (fun _ q => ⟨_, rfl, q⟩) fun f rf => inP_tab (p := (v, w)) rf ?_⟩)
  refine br' (c := false) (by rw [e1]; rfl) (br_f ?_)
  exact ⟨_, rfl, _, _, rfl, ln_fo A B _, g.ot_Rounds_formula, _, rfl, _, rfl, sl9 rfl, callM g.t_Rounds_formula ⟨A, B, L, v, w, r, oa, ob, fi, hv, hw, ir, by omega, rfl, q⟩⟩
theorem vc_greatest_bisimulation (g : Gm Γ j) : ∀ xs h Q Xp, R_greatest_bisimulation j xs h Q Xp → wpSs Γ m_greatest_bisimulation (bodyPo Q Xp) (startV N_greatest_bisimulation xs) h := by
  rintro xs h Q Xp ⟨hj, A, B, oa, ob, rfl, q⟩
  obtain ⟨i, rfl, hi⟩ : ∃ i, j = i + 2 ∧ 3 ≤ i := ⟨j - 2, by omega, by omega⟩
  have na9 := oa.n1
  have nb9 := ob.n1
  refine w_set ⟨g.oc_Rounds (by omega), _, rfl, _, rfl, mkR g hi oa ob fun L fi le => ⟨_, _, _, rfl, g.fl_found, lk_found A B _, ?_⟩⟩
  have l81 := nn81 na9 nb9
  refine w_ret (wp_lc2 (List.range A.n) wV (List.range B.n) wV (fun v w => !hasK L (v, w)) (fun v w => pV (v, w)) ?_ ?_ ?_ ?_ ?_)
  · rw [List.length_range, List.length_range]; omega
  · intro K k
    refine w_ix (wp_frame (M := A) g ?_ ⟨0, _, rfl, rfl, _, rfl, ⟨by omega, by omega⟩, by rw [rng_w]; exact k⟩)
    exact fun _ q => ⟨_, rfl, q⟩
  · intro x hx D hD K k
    refine w_ix (wp_frame (M := B) g ?_ ⟨0, _, rfl, rfl, _, rfl, ⟨by omega, by omega⟩, by rw [rng_w]; exact k⟩)
    exact fun _ q => ⟨_, rfl, q⟩
  · intro x hx y hy D hD A' K hA k1 k2
    exact w_if1 (w_cmp ⟨_, rfl, _, rfl, sl9 rfl, _, rfl, inP_tab (p := (x, y)) rfl (cs (fun c => ⟨_, rfl, _, rfl, sl9 rfl, hA, k1 c⟩) fun c => k2 c)⟩)
  · have e1 : ((List.range A.n).flatMap fun v => ((List.range B.n).filter fun w => !hasK L (v, w)).map fun w => pV (v, w)) = ((pairs A B).filter fun p => !hasK L p).map pV := by
      unfold pairs
      rw [List.filter_flatMap, List.map_flatMap]
      congr 1
      funext v
      rw [List.filter_map, List.map_map]
      rfl
    rw [e1]
    refine q _ ?_ fun p => ?_
    · have := List.length_filter_le (fun p => !hasK L p) (pairs A B)
      rw [pairs_len] at this
      omega
    · rw [List.mem_filter, mem_pairs]
      refine and_congr_right fun ip => ?_
      unfold hasK
      rw [Bool.not_eq_true', decide_eq_false_iff_not]
      constructor
      · intro c k
        cases d : D A B k p.1 p.2 with
        | false => rfl
        | true =>
          obtain ⟨r, _, ir⟩ := isR_ex d
          exact (c (List.mem_map.mpr ⟨(p, r), (fi.mem p r).mpr ⟨ip, ir⟩, rfl⟩)).elim
      · intro nv c
        obtain ⟨⟨q, r⟩, hq, e⟩ := List.mem_map.mp c
        have e : q = p := e
        subst e
        have := ((fi.mem q r).mp hq).2.1
        rw [nv r] at this
        cases this
end
end K94
namespace K94
open PySem L2 Vc
/-! O94: telling formulas; classes. -/
theorem see_nodup {M : Mo} (o : M.Cn) (v : Nat) : (M.see v).Nodup := by
  unfold Mo.see
  have nd := (so_nodup o.fr.so).filter fun p => decide (p.1 = v)
  refine List.pairwise_map.mpr (List.Pairwise.imp_of_mem ?_ nd)
  intro a b ha hb ne e
  have a2 := of_decide_eq_true (List.mem_filter.mp ha).2
  have b2 := of_decide_eq_true (List.mem_filter.mp hb).2
  exact ne (Prod.ext (a2.trans b2.symm) e)
theorem see_len9 {M : Mo} (o : M.Cn) (v : Nat) : (M.see v).length ≤ 9 := Nat.le_trans (nd_lt (see_nodup o v) fun _ h => see_lt o.toOk h) o.n1
theorem mem_na {M : Mo} {v : Nat} {x : Str} : x ∈ na M v ↔ v ∈ M.val x := by
  unfold na
  rw [List.mem_filter, decide_eq_true_eq]
  refine ⟨fun h => h.2, fun h => ⟨?_, h⟩⟩
  unfold Mo.val at h
  cases c : look M.vs x with
  | none => rw [c] at h; cases h
  | some l => exact List.mem_map.mpr ⟨(x, l), look_mem c, rfl⟩
theorem at0 {α : Type} {x : α} {r : List α} : atI (x :: r) 0 = some x := by
  unfold atI ixN
  simp
def L4 : List (List Str) := [[], ["p"], ["q"], ["p", "q"]]
theorem na_L4 {M : Mo} (o : M.Cn) (v : Nat) : na M v ∈ L4 := by
  unfold L4
  rcases na_cases o v with a | a | a | a <;> rw [a] <;> simp
theorem w_tup {Γ : Fns} {ρ : Vc.Env} {h : CH} {Q : VP} {X : XP} {es : Es} (q : wpEs Γ es ρ h (fun vs h1 => vs.length ≤ sizeLine ∧ Q (.tup vs) h1) X) : wpE Γ (.tup es) ρ h Q X := q
theorem w_dsp {Γ : Fns} {ρ : Vc.Env} {h : CH} {Q : VP} {X : XP} {es : Es} (q : wpEs Γ es ρ h (fun vs h1 => vs.length ≤ sizeLine ∧ Q (.lst vs) h1) X) : wpE Γ (.dsp es) ρ h Q X := q
theorem w_ife {Γ : Fns} {ρ : Vc.Env} {h : CH} {Q : VP} {X : XP} {c a b : E} (q : wpE Γ c ρ h (fun x h1 => branch x (wpE Γ a ρ h1 Q X) (wpE Γ b ρ h1 Q X)) X) : wpE Γ (.ife c a b) ρ h Q X := q
theorem w_cst {Γ : Fns} {ρ : Vc.Env} {h : CH} {Q : VP} {X : XP} {v : Val} (q : Q v h) : wpE Γ (.cst v) ρ h Q X := q
theorem na_ne {A B : Mo} (oa : A.Cn) (ob : B.Cn) {v w : Nat} (ne : ¬ na A v = na B w) (e1 : (na A v).filter (fun x => !decide (x ∈ na B w)) = []) : (na B w).filter (fun x => !decide (x ∈ na A v)) ≠ [] := by
  intro e2
  have t : ∀ u ∈ L4, ∀ t ∈ L4, u.filter (fun x => !decide (x ∈ t)) = [] → t.filter (fun x => !decide (x ∈ u)) = [] → u = t := by decide +kernel
  exact ne (t _ (na_L4 oa v) _ (na_L4 ob w) e1 e2)
theorem sat_con {M : Mo} {z : F} {v : Nat} : ∀ l : List F, sat M (l.foldr F.con z) v = (l.all (fun a => sat M a v) && sat M z v)
  | [] => by simp
  | a :: l => by
    show (sat M a v && sat M (l.foldr F.con z) v) = _
    rw [sat_con l, List.all_cons, Bool.and_assoc]
theorem ht_con {z : F} {n : Nat} (hz : z.ht ≤ n) : ∀ l : List F, (∀ a ∈ l, a.ht ≤ n) → (l.foldr F.con z).ht ≤ n + l.length
  | [], _ => hz
  | a :: l, h => by
    show max a.ht (l.foldr F.con z).ht + 1 ≤ _
    have h1 := ht_con hz l fun b hb => h b (List.mem_cons_of_mem _ hb)
    have h2 :=
          h a (List.mem_cons_self ..)
    rw [List.length_cons]
    omega
theorem sat_nt {M : Mo} {a : F} {v : Nat} : sat M (nt a) v = !sat M a v := by
  show (!sat M a v || false) = _
  rw [Bool.or_false]
theorem sat_di {M : Mo} {a : F} {v : Nat} : sat M (di a) v = (M.see v).any fun w => sat M a w := by
  show sat M (nt (.box (nt a))) v = _
  rw [sat_nt]
  show (!(M.see v).all fun w => sat M (nt a) w) = _
  simp only [sat_nt, List.all_eq_not_any_not, Bool.not_not]
/-- what a joined formula is worth -/
theorem conj_ok {as : List F} {c : F} (h : (as = [] ∧ c = vr) ∨ ∃ l z, as = l ++ [z] ∧ c = l.foldr F.con z) {n : Nat} (hn : ∀ a ∈ as, a.ht ≤ n) (h1 : 1 ≤ n) : (∀ M v, sat M c v = as.all fun a => sat M a v) ∧ c.ht ≤ n + as.length := by
  rcases h with ⟨rfl, rfl⟩ | ⟨l, z, rfl, rfl⟩
  · exact ⟨fun M v => rfl, h1⟩
  · refine ⟨fun M v => ?_, ?_⟩
    · rw [sat_con, List.all_append]; simp
    · have := ht_con (n := n) (hn z (List.mem_append_right _ (List.mem_cons_self ..))) l fun a ha => hn a (List.mem_append_left _ ha)
      rw [List.length_append]
      show _ ≤ n + (l.length + 1)
      omega
theorem f2_to {β : Type} {R : β → F → Prop} : ∀ {l : List β} {ys : List Val}, F2 (fun x y => ∃ a : F, y = a.v ∧ R x a) l ys → ∃ as : List F, ys = as.map F.v ∧ F2 R l as
  | _, _, .nil => ⟨[], rfl, .nil⟩
  | _, _, .cons h t => by
    obtain ⟨a, rfl, r⟩ := h
    obtain ⟨as, rfl, r'⟩ := f2_to t
    exact ⟨a :: as, rfl, .cons r r'⟩
theorem f2_left {α β : Type} {R : α → β → Prop} {l : List α} {m : List β} (h : F2 R l m) : ∀ x ∈ l, ∃ y ∈ m, R x y := by
  induction h with
  | nil => intro x hx; cases hx
  | cons r _ ih =>
    intro x hx
    rcases List.mem_cons.mp hx with e | e
    · subst e; exact ⟨_, List.mem_cons_self .., r⟩
    · obtain ⟨y, hy, r⟩ := ih x e; exact ⟨y, List.mem_cons_of_mem _ hy, r⟩
theorem f2_right {α β : Type} {R : α → β → Prop} {l : List α} {m : List β} (h : F2 R l m) : ∀ y ∈ m, ∃ x ∈ l, R x y := by
  induction h with
  | nil => intro x hx; cases hx
  | cons r _ ih =>
    intro x hx
    rcases List.mem_cons.mp hx with e | e
    · subst e; exact ⟨_, List.mem_cons_self .., r⟩
    · obtain ⟨y, hy, r⟩ := ih x e; exact ⟨y, List.mem_cons_of_mem _ hy, r⟩
/-- the table up to a round -/
theorem up_early {A B : Mo} {L : Ta} (fi : Fi A B L) (r : Nat) : Up A B r (L.filter fun q => decide (q.2 < r + 1)) where
  nd := fi.nd.sublist (List.filter_sublist.map _)
  mem := fun p s => by
    rw [List.mem_filter, fi.mem p s, decide_eq_true_eq]
    exact ⟨fun ⟨⟨a, b⟩, c⟩ => ⟨a, by omega, b⟩, fun ⟨a, b, c⟩ => ⟨⟨a, c⟩, by omega⟩⟩
section
variable {Γ : Fns} {i j : Nat}
theorem cutx {L : Ta} {A B : Mo} {f : Val} {h : CH} {x : Val} (r : RdAt h x A B L) : ∃ f, rdO h x = some (("Rounds" : Str), rfs A B f) ∧ rdP h f = some (encT L) := r
theorem vc_Rounds_formula (g : Gm Γ j) : ∀ xs h Q Xp, R_Rounds_formula j xs h Q Xp → wpSs Γ m_Rounds_formula (bodyPo Q Xp) (startV N_Rounds_formula xs) h := by
  rintro xs h Q Xp ⟨A, B, L, v, w, r, oa, ob, fi, hv, hw, ir, hj, rfl, q⟩
  obtain ⟨i, rfl, hi⟩ := lvl (c := 5 + r) (j := j) (by omega)
  have na9 := oa.n1
  have nb9 := ob.n1
  have rd : ∀ h, RdAt h (rdV A B L) A B L := fun h => ⟨_, rfl, rfl⟩
  have hm : ((v, w), r) ∈ L := (fi.mem (v, w) r).mpr ⟨⟨hv, hw⟩, ir⟩
  have ll : L.length ≤ 100 := by have := fi_len fi; have := nn81 na9 nb9; omega
  have sa : ∀ {v x}, x ∈ na A v → PyData.strOk x = true := fun hx => strOk_pq (na_pq oa hx)
  have sb : ∀ {v x}, x ∈ na B v → PyData.strOk x = true := fun hx => strOk_pq (na_pq ob hx)
  have la : ∀ v, (na A v).length ≤ 16777216 := fun v => by rcases na_cases oa v with e | e | e | e <;> rw [e] <;> decide
  have lb : ∀ v, (na B v).length ≤ 16777216 := fun v => by rcases na_cases ob v with e | e | e | e <;> rw [e] <;> decide
  refine ⟨_, rfl, _, rfl, rfl, w_ite (w_cmp (w_ix (wp_found g (rd _) (fun _ q => ⟨_, rfl, q⟩) fun f rf => ⟨_, rfl, ix_tab rf fi.nd hm (eqW_i (br (fun c => ?_) fun c => ?_))⟩)))⟩
  · have r0 : r = 0 := by have := of_decide_eq_true c; omega
    subst r0
    refine w_set (wp_lc (na A v) .str (fun x => !decide (x ∈ na B w)) .str (la v) ?_ (fun x hx D hD A' K hA k1 k2 => ?_) ?_)
    · intro K k
      refine w_sq (w_call g.o_names_at (w_es (wp_first g (rd _) ?_ ⟨_, rfl, callF g.f_names_at ⟨by omega, A, v, oa, rfl, k⟩⟩)))
      exact fun _ q => ⟨_, rfl, q⟩
    · refine w_nm (w_if1 (w_cmp ⟨_, rfl, w_call g.o_names_at (w_es (wp_second g (rd _) ?_ ⟨_, rfl, callF g.f_names_at ⟨by omega, B, w, ob, rfl, inP_strs (sa hx) (fun y hy => sb hy) (cs (fun c => ⟨_, rfl, hA, k1 c⟩) fun c => k2 c)⟩⟩))⟩))
      exact fun _ q => ⟨_, rfl, q⟩
    · refine w_ite (w_cmp ⟨_, rfl, _, .inl ⟨_, rfl, rfl⟩, _, _, rfl, rfl, br (fun c => ?_) fun c => ?_⟩)
      · match el : (na A v).filter (fun x => !decide (x ∈ na B w)) with
        | [] => rw [el] at c; exact absurd (of_decide_eq_true c) (by decide)
        | x :: rest =>
          have hx : x ∈ (na A v).filter (fun x => !decide (x ∈ na B w)) := by rw [el]; exact List.mem_cons_self ..
          obtain ⟨h1, h2⟩ := List.mem_filter.mp hx
          have h3 : ¬ x ∈ na B w := by simpa using h2
          refine ⟨_, rfl, 0, .str x, rfl, at0, sl9 rfl, q (.var x) h ext_refl (decide_eq_true (mem_na.mp h1)) (decide_eq_false fun z => h3 (mem_na.mpr z)) (Nat.zero_le _)⟩
      · have e0 : (na A v).filter (fun x => !decide (x ∈ na B w)) = [] := by
          have := of_decide_eq_false c
          rw [List.length_map] at this
          exact
                List.length_eq_zero_iff.mp (by omega)
        have ne : ¬ na A v = na B w := by have := ir.1; simpa [D] using this
        have e1 := na_ne oa ob ne e0
        refine w_ret (w_call g.o_neg (w_es (w_tup (w_es (w_cst (w_es (w_ix (wp_lc (na B w) .str (fun x => !decide (x ∈ na A v)) .str (lb w) ?_ (fun x hx D hD A' K hA k1 k2 => ?_) ?_))))))))
        · intro K k
          refine w_sq (w_call g.o_names_at (w_es (wp_second g (rd _) ?_ ⟨_, rfl, callF g.f_names_at ⟨by omega, B, w, ob, rfl, k⟩⟩)))
          exact fun _ q => ⟨_, rfl, q⟩
        · refine w_nm (w_if1 (w_cmp ⟨_, rfl, w_call g.o_names_at (w_es (wp_first g (rd _) ?_ ⟨_, rfl, callF g.f_names_at ⟨by omega, A, v, oa, rfl, inP_strs (sb hx) (fun y hy => sa hy) (cs (fun c => ⟨_, rfl, hA, k1 c⟩) fun c => k2 c)⟩⟩))⟩))
          exact fun _ q => ⟨_, rfl, q⟩
        · match el : (na B w).filter (fun x => !decide (x ∈ na A v)) with
          | [] => exact (e1 el).elim
          | x :: rest =>
            have hx : x ∈ (na B w).filter (fun x => !decide (x ∈ na A v)) := by rw [el]; exact List.mem_cons_self ..
            obtain ⟨h1, h2⟩ := List.mem_filter.mp hx
            have h3 : ¬ x ∈ na A v := by simpa using h2
            have s1 : sat A (nt (.var x)) v = true := by rw [sat_nt]; show (!decide (v ∈ A.val x)) = true; rw [decide_eq_false fun z => h3 (mem_na.mpr z)]; rfl
            have s2 : sat B (nt (.var x)) w = false := by rw [sat_nt]; show (!decide (w ∈ B.val x)) = false; rw [decide_eq_true (mem_na.mp h1)]; rfl
            exact ⟨0, .str x, rfl, at0, sl9 rfl, callF g.f_neg ⟨.var x, rfl, q _ h ext_refl s1 s2 (show max 0 0 + 1 ≤ 20 * 0 + 20 by decide)⟩⟩
  · obtain ⟨s, rfl⟩ : ∃ s, r = s + 1 := ⟨r - 1, by have := of_decide_eq_false c; omega⟩
    have up := up_early fi s
    have tl : tell A B (L.filter fun q => decide (q.2 < s + 1)) v w = true := by
      rw [tell_up oa.toOk ob.toOk up]
      have := ir.1
      unfold D at this
      rw [ir.2 s (by omega)] at this
      simpa using this
    refine w_set ⟨_, rfl, _, _, rfl, ln_ea A B _, g.ot_Rounds_early, w_es (w_ix (wp_found g (rd _) (fun _ q => ⟨_, rfl, q⟩) fun f rf => ⟨_, rfl, ix_tab rf fi.nd hm (callM g.t_Rounds_early ⟨by omega, A, B, L, s + 1, fi.nd, ll, rfl, fun x h1 rx ex => ?_⟩)⟩))⟩
    obtain ⟨f2, x1, x2⟩ := id rx
    have lc : ∀ {v' w' : Nat} {h2 : CH} {Q2 : VP} {X2 : XP}, v' < A.n → w' < B.n → D A B s v' w' = true → (∀ y h3, Ext h2 h3 → (∃ a : F, y = a.v ∧ (sat A a v' = true ∧ sat B a w' = false ∧ a.ht ≤ 20 * s + 20)) → Q2 y h3) → Γ.mt "Rounds" "formula" [rdV A B L, pV (v', w')] h2 Q2 X2 := by
      intro v' w' h2 Q2 X2 hv' hw' d k
      obtain ⟨t, ht, it⟩ := isR_ex d
      exact callM g.t_Rounds_formula ⟨A, B, L, v', w', t, oa, ob, fi, hv', hw', it, by omega, rfl, fun a h3 e1 e2 e3 e4 => k _ _ e1 ⟨a, rfl, e2, e3, by omega⟩⟩
    refine w_set ⟨_, rfl, _, _, x1, ln_lw A B f2, g.ot_Rounds_left_witness, _, rfl, callM g.t_Rounds_left_witness ⟨by omega, A, B, _, x, v, w, rx, oa.toOk, ob.toOk, hv, hw, rfl, ?_⟩⟩
    cases lw : leftW A B (L.filter fun q => decide (q.2 < s + 1)) v w with
    | some x =>
      have lx := List.find?_some lw
      have mx := List.mem_of_find?_eq_some lw
      have dx : ∀ y ∈ B.see w, D A B s x y = true := fun y hy => by
        have := List.all_eq_true.mp lx y hy
        rw [up_has up ⟨see_lt oa.toOk mx, see_lt ob.toOk hy⟩] at this
        exact this
      refine ⟨_, rfl, br_t (w_ret (w_call g.o_dia (w_es (w_call g.o_conjunction (w_es ?_)))))⟩
      refine wp_lcx (B.see w) wV (fun y z => ∃ a : F, z = a.v ∧ (sat A a x = true ∧ sat B a y = false ∧ a.ht ≤ 20 * s + 20)) (by have := see_len9 ob w; omega) ?_ (fun y hy h2 e2 A' K hA k => ?_) fun ys h2 e2 fy => ?_
      · intro K k
        refine w_sq (wp_seen (M := B) g hw ?_ (fun _ q => ⟨_, rfl, q⟩) k)
        intro Q' q'
        exact wp_second g (rd _) (fun _ q => ⟨_, rfl, q⟩) q'
      · exact ⟨fun _ => ⟨_, rfl, _, _, rfl, ln_fo A B _, g.ot_Rounds_formula, _, rfl, _, rfl, sl9 rfl, lc (see_lt oa.toOk mx) (see_lt ob.toOk hy) (dx y hy) fun z h3 e3 r => ⟨hA, k z h3 e3 r⟩⟩, fun e => nomatch e⟩
      · obtain ⟨as, rfl, fa⟩ := f2_to fy
        have al : as.length ≤ 9 := by rw [← fa.length_eq]; exact see_len9 ob w
        have ah : ∀ a ∈ as, a.ht ≤ 20 * s + 20 := fun a ha => by obtain ⟨y, _, r⟩ := f2_right fa a ha; exact r.2.2
        have fin : ∀ c : F, ((as = [] ∧ c = vr) ∨ ∃ l z, as = l ++ [z] ∧ c = l.foldr F.con z) → Q (di c).v h2 := fun c hc => by
          obtain ⟨c1, c2⟩ := conj_ok hc ah (by omega)
          refine q (di c) h2 (ext_trans ex e2) ?_ ?_ ?_
          · rw [sat_di, List.any_eq_true]
            refine ⟨x, mx, ?_⟩
            rw [c1, List.all_eq_true]
            intro a ha
            obtain ⟨y, _, r⟩ := f2_right fa a ha
            exact r.1
          · rw [sat_di, List.any_eq_false]
            intro y hy
            obtain ⟨a, ha, r⟩ := f2_left fa y hy
            rw [c1]
            intro z
            have := List.all_eq_true.mp z a ha
            rw [r.2.1] at this
            cases this
          · show max (max c.ht 0 + 1 + 1) 0 + 1 ≤ _
            omega
        refine callF g.f_conjunction ⟨by omega, as, by omega, rfl, fun e => callF g.f_dia ⟨by omega, vr, rfl, fin vr (.inl ⟨e, rfl⟩)⟩, fun l z e => callF g.f_dia ⟨by omega, _, rfl, fin _ (.inr ⟨l, z, e, rfl⟩)⟩⟩
    | none =>
      refine ⟨_, rfl, br_f ?_⟩
      refine w_nil (w_set ⟨_, rfl, _, _, x1, ln_rw A B f2, g.ot_Rounds_right_witness, _, rfl, callM g.t_Rounds_right_witness ⟨by omega, A, B, _, _, v, w, rx, oa.toOk, ob.toOk, hv, hw, rfl, ?_⟩⟩)
      have rw_ : ∃ y, rightW A B (L.filter fun q => decide (q.2 < s + 1)) v w = some y := by
        unfold tell at tl
        rw [any_find, any_find] at tl
        unfold leftW at lw
        rw [lw] at tl
        rw [Option.isSome_none, Bool.false_or] at tl
        exact Option.isSome_iff_exists.mp tl
      obtain ⟨y, ry⟩ := rw_
      rw [ry]
      have ly := List.find?_some ry
      have my := List.mem_of_find?_eq_some ry
      have dy : ∀ x ∈ A.see v, D A B s x y = true := fun x hx => by
        have := List.all_eq_true.mp ly x hx
        rw [up_has up ⟨see_lt oa.toOk hx, see_lt ob.toOk my⟩] at this
        exact this
      refine w_ret (w_call g.o_neg (w_es (w_call g.o_dia (w_es (w_call g.o_conjunction (w_es ?_))))))
      refine wp_lcx (A.see v) wV (fun x z => ∃ b : F, z = b.v ∧ ∃ a : F, b = nt a ∧ (sat A a x = true ∧ sat B a y = false ∧ a.ht ≤ 20 * s + 20)) (by have := see_len9 oa v; omega) ?_ (fun x hx h2 e2 A' K hA k => ?_) fun ys h2 e2 fy => ?_
      · intro K k
        refine w_sq (wp_seen (M := A) g hv ?_ (fun _ q => ⟨_, rfl, q⟩) k)
        intro Q' q'
        exact wp_first g (rd _) (fun _ q => ⟨_, rfl, q⟩) q'
      · refine ⟨fun _ => w_call g.o_neg (w_es ⟨_, rfl, _, _, rfl, ln_fo A B _, g.ot_Rounds_formula, _, rfl, _, rfl, sl9 rfl, lc (see_lt oa.toOk hx) (see_lt ob.toOk my) (dy x hx) fun z h3 e3 r => ?_⟩), fun e => nomatch e⟩
        obtain ⟨a, rfl, r⟩ := r
        exact callF g.f_neg ⟨a, rfl, hA, k _ h3 e3 ⟨nt a, rfl, a, rfl, r⟩⟩
      · obtain ⟨as, rfl, fa⟩ := f2_to fy
        have al : as.length ≤ 9 := by rw [← fa.length_eq]; exact see_len9 oa v
        have ah : ∀ a ∈ as, a.ht ≤ 20 * s + 21 := fun a ha => by
          obtain ⟨x, _, b, rfl, r⟩ := f2_right fa a ha
          show max b.ht 0 + 1 ≤ _
          omega
        have fin : ∀ c : F, ((as = [] ∧ c = vr) ∨ ∃ l z, as = l ++ [z] ∧ c = l.foldr F.con z) → Q (nt (di c)).v h2 := fun c hc => by
          obtain ⟨c1, c2⟩ := conj_ok hc ah (by omega)
          refine q (nt (di c)) h2 (ext_trans ex e2) ?_ ?_ ?_
          · rw [sat_nt, sat_di, Bool.not_eq_true', List.any_eq_false]
            intro x hx z
            obtain ⟨a, ha, b, rfl, r⟩ := f2_left fa x hx
            rw [c1] at z
            have := List.all_eq_true.mp z _ ha
            rw [sat_nt, r.1] at this
            cases this
          · rw [sat_nt, sat_di, Bool.not_eq_false', List.any_eq_true]
            refine ⟨y, my, ?_⟩
            rw [c1, List.all_eq_true]
            intro a ha
            obtain ⟨x, _, b, rfl, r⟩ := f2_right fa a ha
            rw [sat_nt, r.2.1]; rfl
          · show max (max (max c.ht 0 + 1 + 1) 0 + 1) 0 + 1 ≤ _
            omega
        refine callF g.f_conjunction ⟨by omega, as, by omega, rfl, fun e => callF g.f_dia ⟨by omega, vr, rfl, callF g.f_neg ⟨di vr, rfl, fin vr (.inl ⟨e, rfl⟩)⟩⟩, fun l z e => callF g.f_dia ⟨by omega, _, rfl, callF g.f_neg ⟨di _, rfl, fin _ (.inr ⟨l, z, e, rfl⟩)⟩⟩⟩
end
end K94
namespace K94
open PySem L2 Vc
/-! W94: classes; the smallest model. -/
theorem f2_to' {α β : Type} {R : β → α → Prop} {enc : α → Val} : ∀ {l : List β} {ys : List Val}, F2 (fun x y => ∃ a : α, y = enc a ∧ R x a) l ys → ∃ as : List α, ys = as.map enc ∧ F2 R l as
  | _, _, .nil => ⟨[], rfl, .nil⟩
  | _, _, .cons h t => by
    obtain ⟨a, rfl, r⟩ := h
    obtain ⟨as, rfl, r'⟩ := f2_to' t
    exact ⟨a :: as, rfl, .cons r r'⟩
theorem atI_w {α : Type} {l : List α} {f : α → Val} {v : Nat} {x : α} (h : l[v]? = some x) : atI (l.map f) (v : Int) = some (f x) := by
  obtain ⟨hl, e⟩ :=
        List.getElem?_eq_some_iff.mp h
  unfold atI ixN
  rw [List.length_map, if_pos (by omega), if_pos (by omega)]
  simp [h]
theorem sd_len {l : List Nat} {n : Nat} (h : ∀ w ∈ l, w < n) : (sd l).length ≤ n := by
  refine nd_lt ((sd_lt l).imp fun {a b} hab => by omega) fun x hx => ?_
  exact h x (of_decide_eq_true (List.mem_filter.mp hx).2)
theorem idx_fst {l : List Nat} {c : Nat} (h : c ∈ l) : l[l.idxOf c]? = some c ∧ ∀ i x, i < l.idxOf c → l[i]? = some x → x ≠ c := by
  refine ⟨?_, fun i x hi e => ?_⟩
  · rw [List.getElem?_eq_getElem (List.idxOf_lt_length_of_mem h)]
    exact congrArg some (List.getElem_idxOf _)
  · intro ec
    subst ec
    obtain ⟨hl, e1⟩ := List.getElem?_eq_some_iff.mp e
    have := List.not_of_lt_findIdx (p := (· == x)) (xs := l) hi
    rw [e1] at this
    simp at this
section
variable {Γ : Fns} {i j : Nat}
theorem vc_class_of (g : Gm Γ j) : ∀ xs h Q Xp, R_class_of j xs h Q Xp → wpSs Γ m_class_of (bodyPo Q Xp) (startV N_class_of xs) h := by
  rintro xs h Q Xp ⟨hj, M, o, rfl, q⟩
  obtain ⟨i, rfl, hi⟩ := lvl hj
  have n9 := o.n1
  refine w_set (w_call g.o_greatest_bisimulation ⟨_, rfl, _, rfl, callF g.f_greatest_bisimulation ⟨hi, M, M, o, o, rfl, fun l ll lm => ?_⟩⟩)
  refine w_set (wp_lcx (List.range M.n) wV (fun v y => ∃ c : Nat, y = wV c ∧ c < M.n) (by rw [List.length_range]; omega) ?_ (fun v hv h' e' A K hA k => ?_) fun ys h' e' fy => ?_)
  · intro K k
    refine w_ix (wp_frame (M := M) g ?_ ⟨0, _, rfl, rfl, _, rfl, ⟨by omega, by omega⟩, by rw [rng_w]; exact k⟩)
    exact fun _ q => ⟨_, rfl, q⟩
  · have vn := List.mem_range.mp hv
    refine w_nm ⟨fun _ => w_blt (w_es (wp_lc l pV (fun p => decide (p.1 = v)) (fun p => wV p.2) (by omega) ?_ (fun p hp D hD A' K' hA' k1 k2 => ?_) ?_)), fun e => nomatch e⟩
    · exact fun K k => ⟨_, rfl, k⟩
    · refine ⟨_, rfl, rfl, w_if1 (w_cmp ⟨_, rfl, _, rfl, eqW_i ?_⟩)⟩
      have e : decide (((p.1 : Nat) : Int) = (v : Nat)) = decide (p.1 = v) := decide_eq_decide.mpr Int.ofNat_inj
      show branch (.bl (decide (((p.1 : Nat) : Int) = (v : Nat)))) _ _
      rw [e]
      exact cs (fun c => ⟨_, rfl, hA', k1 c⟩) fun c => k2 c
    · have ev : ((l.filter fun p => decide (p.1 = v)).map fun p => wV p.2) = ((l.filter fun p => decide (p.1 = v)).map (·.2)).map wV := by rw [List.map_map]; rfl
      have vm : (v, v) ∈ l.filter fun p => decide (p.1 = v) := List.mem_filter.mpr ⟨(lm (v, v)).mpr ⟨⟨vn, vn⟩, fun k => D_self k v⟩, by simp⟩
      rw [ev]
      refine ⟨_, _, rfl, intsOf_w _, ?_, fun m hm hle => ?_⟩
      · rw [List.length_map, List.length_map]; exact List.length_pos_of_mem vm
      · obtain ⟨c, hc, rfl⟩ := List.mem_map.mp hm
        obtain ⟨p, hp, rfl⟩ := List.mem_map.mp hc
        exact ⟨hA, k _ _ ext_refl ⟨p.2, rfl, ((lm p).mp (List.mem_filter.mp hp).1).1.2⟩⟩
  · obtain ⟨cs, rfl, fc⟩ := f2_to' fy
    have cl : cs.length = M.n := by rw [← fc.length_eq, List.length_range]
    have cm : ∀ c ∈ cs, c < M.n := fun c hc => by obtain ⟨_, _, r⟩ := f2_right fc c hc; exact r
    refine w_set (w_xf (w_es ⟨_, rfl, w_es0 (ss_lV (l := cs) (by omega) (fun w hw => by have := cm w hw; omega) ?_)⟩))
    refine w_ret (wp_lc cs wV (fun _ => true) (fun c => wV ((sd cs).idxOf c)) (by omega) ?_ (fun c hc D hD A K hA k1 k2 => ?_) ?_)
    · exact fun K k => ⟨_, rfl, k⟩
    · have cd : c ∈ sd cs := (mem_sd (fun w hw => by have := cm w hw; omega) c).mpr hc
      obtain ⟨i1, i2⟩ := idx_fst cd
      refine w_nm ⟨fun _ => w_bm ⟨_, rfl, ⟨_, rfl⟩, _, rfl, .int (c : Int), (sd cs).map (fun w : Nat => .int (w : Int)), (sd cs).idxOf c, .int (c : Int), rfl, en_w.lst.dat (sd cs), en_w.lst.sh (by decide) (sd cs), en_w.sh (by decide) c, ?_, ?_, fun i z hi hz => ?_, hA, k1 rfl⟩, fun e => nomatch e⟩
      · rw [List.getElem?_map, i1]; rfl
      · rw [en_w.eqv c c]; exact decide_eq_true rfl
      · rw [List.getElem?_map] at hz
        obtain ⟨x, hx, rfl⟩ := Option.map_eq_some_iff.mp hz
        rw [en_w.eqv x c]
        exact decide_eq_false (i2 i x hi hx)
    · have e1 : (cs.filter fun _ => true).map (fun c => wV ((sd cs).idxOf c)) = (cs.map fun c => (sd cs).idxOf c).map wV := by rw [List.filter_eq_self.mpr (fun _ _ => rfl), List.map_map]; rfl
      rw [e1]
      refine q _ h' e' (by rw [List.length_map, cl]) fun x hx => ?_
      obtain ⟨c, hc, rfl⟩ := List.mem_map.mp hx
      have cd : c ∈ sd cs := (mem_sd (fun w hw => by have := cm w hw; omega) c).mpr hc
      have h1 := List.idxOf_lt_length_of_mem cd
      have h2 := sd_len cm
      omega
theorem castP {qs : List (Int × Int)} {l : List (Nat × Nat)} (h : ∀ p ∈ qs, p ∈ l.map cP) : qs = (qs.map fun q => (q.1.toNat, q.2.toNat)).map cP := by
  rw [List.map_map]
  conv => lhs; rw [← List.map_id qs]
  refine List.map_congr_left fun i hi => ?_
  obtain ⟨w, _, rfl⟩ := List.mem_map.mp (h i hi)
  rfl
theorem vc_smallest (g : Gm Γ j) : ∀ xs h Q Xp, R_smallest j xs h Q Xp → wpSs Γ m_smallest (bodyPo Q Xp) (startV N_smallest xs) h := by
  rintro xs h Q Xp ⟨hj, M, o, rfl, q⟩
  obtain ⟨i, rfl, hi⟩ : ∃ i, j = i + 2 ∧ 5 ≤ i := ⟨j - 2, by omega, by omega⟩
  have n9 := o.n1
  have n0 := o.n0
  refine w_set (w_call g.o_class_of ⟨_, rfl, callF g.f_class_of ⟨by omega, M, o, rfl, fun cs h1 ex cl cm => ?_⟩⟩)
  have at_ : ∀ {v : Nat}, v < M.n → ∃ c, cs[v]? = some c ∧ c < M.n := fun {v} hv => ⟨cs[v]'(by omega), List.getElem?_eq_getElem _, cm _ (List.getElem_mem _)⟩
  refine w_set (w_ix (wp_frame (M := M) g (fun _ q => ⟨_, rfl, q⟩) ⟨1, _, rfl, rfl, fun D hD => ?_⟩))
  refine goL_map (fun d h' acc => h' = h1.set D junk ∧ acc = d.map fun p => cP ((cs[p.1]?).getD 0, (cs[p.2]?).getD 0)) ⟨rfl, rfl⟩ (fun d x r h' acc K el inv k => ?_) fun h' acc inv => ?_
  · obtain ⟨rfl, rfl⟩ := inv
    have hx : x ∈ M.ps := by rw [← el]; exact List.mem_append_right _ (List.mem_cons_self ..)
    obtain ⟨x1, x2⟩ := o.ps x hx
    obtain ⟨c1, e1, l1⟩ := at_ x1
    obtain ⟨c2, e2, l2⟩ := at_ x2
    have len : d.length < 62 := by
      have := congrArg List.length el
      rw [List.length_append, List.length_cons] at this
      have := o.pl
      omega
    refine ⟨_, rfl, rfl, fun _ => ⟨_, rfl, _, rfl, (x.1 : Int), _, rfl, atI_w e1, _, rfl, _, rfl, (x.2 : Int), _, rfl, atI_w e2, sl9 rfl, ((c1 : Int), (c2 : Int)), rfl, ⟨⟨by simp, by simp only; omega⟩, by simp, by simp only; omega⟩, by rw [List.length_map]; exact len, ?_⟩, fun e => nomatch e⟩
    refine k _ _ ⟨rfl, ?_⟩
    rw [List.map_append, List.map_cons, e1, e2]
    rfl
  · obtain ⟨rfl, rfl⟩ := inv
    intro qs sq mq
    show wpSs Γ _ _ _ ((h1.set D junk).del D)
    rw [del_set hD]
    refine w_set (wp_tw (M := M) g o.vk ?_ ?_)
    · exact fun _ q => ⟨_, rfl, q⟩
    refine w_set (wp_dcn M.vs (fun p => p.2.map fun v => (cs[v]?).getD 0) o.vk.nd o.vk.kl ?_ ?_ ?_ ?_)
    · exact fun _ => rfl
    · exact fun K k => ⟨_, rfl, _, rfl, k⟩
    · intro p hp D hD Q' q'
      have lk : vget (dL M.vs) (.inr p.1) = some (lV p.2) := by rw [vget_dL, look_of o.vk.nd hp]; rfl
      have e : Q' (.lst ((p.2.filter fun _ => true).map fun v => wV ((cs[v]?).getD 0))) (h1.set D junk) := by
        have e1 : (p.2.map fun v => (cs[v]?).getD 0).map wV = (p.2.filter fun _ => true).map fun v => wV ((cs[v]?).getD 0) := by rw [List.map_map, List.filter_eq_self.mpr (fun _ _ => rfl)]; rfl
        rw [← e1]
        exact q'
      refine wp_lc p.2 wV (fun _ => true) (fun v => wV ((cs[v]?).getD 0)) (by have := o.l9 p hp; omega) ?_ (fun v hv D hD A K hA k1 k2 => ?_) e
      · exact fun K k => ⟨_, rfl, _, rfl, .inr (.inl ⟨_, .inr p.1, _, rfl, rfl, lk, k⟩)⟩
      · obtain ⟨c1, e1, l1⟩ := at_ (o.vk.lt p hp v hv)
        rw [e1] at k1
        exact ⟨fun _ => ⟨_, rfl, _, rfl, (v : Int), _, rfl, atI_w e1, hA, k1 rfl⟩, fun e => nomatch e⟩
    · refine w_ret ⟨g.oc_Model (by omega), w_es (w_tup (w_es (w_bin (w_blt (w_es ⟨_, rfl, _, _, rfl, intsOf_w cs, ?_, fun m hm hle => ?_⟩)))))⟩
      · rw [List.length_map]; omega
      · obtain ⟨c, hc, rfl⟩ := List.mem_map.mp hm
        have cn := cm c hc
        have cle : ∀ x ∈ cs, x ≤ c := fun x hx => by have := hle _ (List.mem_map.mpr ⟨x, hx, rfl⟩); omega
        refine ⟨_, rfl, ?_⟩
        have mem : ∀ p ∈ qs, p ∈ (M.ps.map fun p => ((cs[p.1]?).getD 0, (cs[p.2]?).getD 0)).map cP := fun p hp => by
          have := (mq p).mp hp
          rw [List.map_map]
          exact this
        have ec := castP mem
        have nq : qs.Nodup := sq.imp fun {a b} hab e => by subst e; exact lex_irrefl hab
        have ql : qs.length ≤ 60 := by
          have h1 := nd_lenG nq (m := (M.ps.map fun p => ((cs[p.1]?).getD 0, (cs[p.2]?).getD 0)).map cP) mem
          rw [List.length_map, List.length_map] at h1
          exact Nat.le_trans h1 o.pl
        have sN : (qs.map fun q => (q.1.toNat, q.2.toNat)).Pairwise ltN := by
          rw [List.pairwise_map]
          refine List.Pairwise.imp_of_mem (fun {a b} ha hb hab => ?_) sq
          obtain ⟨u, _, rfl⟩ := List.mem_map.mp (mem a ha)
          obtain ⟨v, _, rfl⟩ := List.mem_map.mp (mem b hb)
          unfold lexlt at hab
          unfold ltN
          simp only [cP, Int.toNat_natCast] at hab ⊢
          omega
        rw [ec, List.map_map]
        have ep : (qs.map fun q => (q.1.toNat, q.2.toNat)).map (pairV ∘ cP) = (qs.map fun q => (q.1.toNat, q.2.toNat)).map pV := rfl
        refine ⟨_, rfl, sl9 rfl, _, rfl, ?_⟩
        have lt2 : ∀ {v : Nat}, v < M.n → (cs[v]?).getD 0 < c + 1 := fun {v} hv => by
          obtain ⟨c1, e1, l1⟩ := at_ hv
          rw [e1]
          have := cle c1 (List.mem_of_getElem? e1)
          show c1 < c + 1
          omega
        refine mkM g (by omega) (n := c + 1) (ps := qs.map fun q => (q.1.toNat, q.2.toNat)) ⟨by omega, by omega, fun p hp => ?_, sN, by rw [List.length_map]; exact ql⟩ ⟨?_, fun p hp w hw => ?_, fun p hp => ?_, ?_⟩ (q _ h1 ex ?_)
        · obtain ⟨r, hr, rfl⟩ := List.mem_map.mp hp
          obtain ⟨y, hy, rfl⟩ := List.mem_map.mp (mem r hr)
          obtain ⟨z, hz, rfl⟩ := List.mem_map.mp hy
          obtain ⟨z1, z2⟩ := o.ps z hz
          exact ⟨lt2 z1, lt2 z2⟩
        · rw [List.map_map]; exact o.vk.nd
        · obtain ⟨r, hr, rfl⟩ := List.mem_map.mp hp
          obtain ⟨v, hv, rfl⟩ := List.mem_map.mp hw
          exact lt2 (o.vk.lt r hr v hv)
        · obtain ⟨r, hr, rfl⟩ := List.mem_map.mp hp
          have := o.l9 r hr
          rw [List.length_map]
          omega
        · rw [List.length_map]; exact o.vk.kl
        · show c + 1 ≤ M.n
          omega
end
end K94
namespace K94
open PySem L2 Vc
/-! Q94: the law's own defs. -/
def plV (ns : List Int) (i c k s : Int) : List Val := [.lst (ns.map .int), .int i, .int c, .int k, .int s]
theorem cutL_map {α : Type} (f : α → Val) (l : List α) (lo hi : Option Int) : ∃ m : List α, cutL (l.map f) lo hi = m.map f :=
  ⟨_, by unfold cutL; rw [← List.map_drop, ← List.map_take]⟩
theorem bg {i : Int} (h : -(2 ^ 64) < i ∧ i < 2 ^ 64) : big i := h
theorem ixp {h : CH} {a : Addr} {xs : List Val} {j : Int} {v : Val} {Q : VP} (e : h a = some (.lst xs)) (e2 : atI xs j = some v) (q : Q v h) : ixV (.ref a) (.int j) h Q := .inl ⟨xs, j, v, rdL_ref e, rfl, e2, q⟩
theorem sm_refl {a : Addr} {h : CH} (p : PoolAt a h) : Sm a h h := ⟨p, fun _ _ => rfl⟩
theorem sm_trans {a : Addr} {h1 h2 h3 : CH} (x : Sm a h1 h2) (y : Sm a h2 h3) : Sm a h1 h3 := ⟨y.1, fun b n => (y.2 b n).trans (x.2 b n)⟩
theorem sm_pool {a : Addr} {h : CH} {ns : List Int} {i c k s : Int} (hi : 0 ≤ i) : Sm a h (h.set a (.lst (plV ns i c k s))) := ⟨⟨ns, i, c, k, s, hi, CH.set_same⟩, fun b n => CH.set_ne n⟩
theorem wV_of {x : Int} (h : 0 ≤ x) : Val.int x = wV x.toNat := by unfold wV; rw [Int.toNat_of_nonneg h]
section
variable {Γ : Fns} {i j : Nat}
theorem vc__law_pool (g : Gm Γ j) : ∀ xs h Q Xp, R__law_pool j xs h Q Xp → wpSs Γ m__law_pool (bodyPo Q Xp) (startV N__law_pool xs) h := by
  rintro xs h Q Xp ⟨ns, hl, rfl, q⟩
  obtain ⟨m, em⟩ := cutL_map Val.int ns none (some 63)
  refine w_set (w_for (w_sq ⟨_, rfl, _, rfl, .inl ⟨_, rfl, ?_⟩⟩))
  rw [em]
  refine goL_map (fun d h' ρ' => h' = h ∧ ∃ s u, ρ' = [some (.lst (ns.map .int)), some (.int s), u]) ⟨rfl, _, _, rfl⟩ (fun d x r h' ρ' K el inv k => ?_) fun h' ρ' inv => ?_
  · obtain ⟨rfl, s, u, rfl⟩ := inv
    exact ⟨_, rfl, ⟨.inr (bg (by decide)), _, rfl, by decide, k _ _ ⟨rfl, _, _, rfl⟩⟩⟩
  · obtain ⟨rfl, s, u, rfl⟩ := inv
    exact ⟨_, rfl, _, .inl rfl, _, rfl, sl9 rfl, fun a ha => q a _ ha (sm_pool (Int.le_refl 0))⟩
theorem vc__law_spread (g : Gm Γ j) : ∀ xs h Q Xp, R__law_spread j xs h Q Xp → wpSs Γ m__law_spread (bodyPo Q Xp) (startV N__law_spread xs) h := by
  rintro xs h Q Xp ⟨c, rfl, q⟩
  refine w_set ⟨_, rfl, by decide, w_set (w_for ⟨_, rfl, ⟨by decide, by decide⟩, ?_⟩)⟩
  refine goL_map (f := _) (enc := fun k : Nat => Val.int (0 + (k : Nat))) (l := List.range 4) (fun d h' ρ' => h' = h ∧ ∃ b w u, ρ' = [some (.int c), some (.int b), some (.int w), u]) ⟨rfl, _, _, _, rfl⟩ (fun d x r h' ρ' K el inv k => ?_) fun h' ρ' inv => ?_
  · obtain ⟨rfl, b, w, u, rfl⟩ := inv
    exact ⟨_, rfl, .inr (bg (by decide)), _, rfl, by decide, _, rfl, .inr (bg (by decide)), _, rfl, k _ _ ⟨rfl, _, _, _, rfl⟩⟩
  · obtain ⟨rfl, b, w, u, rfl⟩ := inv
    exact ⟨_, rfl, q w⟩
theorem vc__law_draw (g : Gm Γ j) : ∀ xs h Q Xp, R__law_draw j xs h Q Xp → wpSs Γ m__law_draw (bodyPo Q Xp) (startV N__law_draw xs) h := by
  rintro xs h Q Xp ⟨hj, a, m, m0, m1, pa, rfl, q⟩
  obtain ⟨i, rfl, hi⟩ := lvl hj
  obtain ⟨ns, i0, c, k, s, h0, ea⟩ := pa
  have rest : ∀ (h' : CH) (u v : Option Val), Sm a h h' → wpSs Γ (m__law_draw.drop 1) (bodyPo Q Xp) [some (.ref a), some (wV m), none, u, v] h' := by
    rintro h' u v ⟨⟨ns, i0, c, k, s, h0, ea⟩, ho⟩
    refine w_sub ⟨_, rfl, .inl ⟨_, _, _, rdL_ref ea, rfl, rfl, _, rfl, .inl ⟨a, _, 3, 3, rfl, ea, rfl, rfl, ?_⟩⟩⟩
    have s1 : Sm a h (h'.set a (.lst (plV ns i0 c (k + 1) s))) := ⟨⟨_, _, _, _, _, h0, CH.set_same⟩, fun b n => (CH.set_ne n).trans (ho b n)⟩
    have e1 : (h'.set a (.lst (plV ns i0 c (k + 1) s))) a = some (.lst (plV ns i0 c (k + 1) s)) := CH.set_same
    have m0' : (0 : Int) < (m : Nat) := by omega
    refine w_ite (w_cmp ⟨_, rfl, .inl ⟨_, _, _, rdL_ref e1, rfl, rfl, _, _, rfl, rfl, br (fun cc => ?_) fun cc => ?_⟩⟩)
    · refine w_set ⟨_, rfl, .inl ⟨_, _, _, rdL_ref e1, rfl, rfl, .inr (bg (by decide)), _, rfl, .inl ⟨_, _, _, rdL_ref e1, rfl, rfl, .inr (bg (by decide)), by decide, ?_⟩⟩⟩
      refine w_set ⟨_, rfl, .inr (bg (by decide)), _, rfl, .inl ⟨_, _, _, rdL_ref e1, rfl, rfl, by decide, ?_⟩⟩
      refine w_ret ⟨_, rfl, ⟨by decide, by decide⟩, _, rfl, m0', ?_⟩
      rw [wV_of (Int.emod_nonneg _ (by omega))]
      refine q _ _ ?_ s1
      have := Int.emod_lt_of_pos (b := (m : Int)) ((((s * 48271 + (k + 1) * 69621 + 1) % 2147483647) * 16807 + (k + 1)) % 2147483629 / 5) m0'
      have h2 := Int.emod_nonneg (b := (m : Int)) ((((s * 48271 + (k + 1) * 69621 + 1) % 2147483647) * 16807 + (k + 1)) % 2147483629 / 5) (by omega)
      omega
    · refine w_nil (w_set ⟨_, rfl, .inl ⟨_, _, _, rdL_ref e1, rfl, rfl, _, rfl, m0', ?_⟩⟩)
      refine w_sub ⟨_, rfl, .inl ⟨_, _, _, rdL_ref e1, rfl, rfl, _, rfl, ⟨m0', by omega⟩, _, rfl, .inl ⟨a, _, 2, 2, rfl, e1, rfl, rfl, ?_⟩⟩⟩
      refine w_ret ⟨_, rfl, ?_⟩
      show Q (.int (c % (m : Nat))) _
      rw [wV_of (Int.emod_nonneg _ (by omega))]
      refine q _ _ ?_ ?_
      · have := Int.emod_lt_of_pos c m0'
        have h2 := Int.emod_nonneg c (b := (m : Int)) (by omega)
        omega
      · exact ⟨⟨_, _, _, _, _, h0, CH.set_same⟩, fun b n => (CH.set_ne n).trans (s1.2 b n)⟩
  refine w_ite (w_and (w_cmp ⟨_, rfl, .inl ⟨_, _, _, rdL_ref ea, rfl, rfl, _, _, rfl, rfl, br (fun c1 => ?_) fun c1 => ?_⟩⟩))
  · refine ⟨_, rfl, .inl ⟨_, _, _, rdL_ref ea, rfl, rfl, _, rfl, .inl ⟨_, _, _, rdL_ref ea, rfl, rfl, _, .inl ⟨_, rfl, rfl⟩, _, _, rfl, rfl, br (fun c2 => ?_) fun c2 => ?_⟩⟩⟩
    · have c3 := of_decide_eq_true c2
      rw [List.length_map] at c3
      have ei : ns[i0.toNat]? = some (ns[i0.toNat]'(by omega)) := List.getElem?_eq_getElem _
      have ai : atI (ns.map Val.int) i0 = some (.int (ns[i0.toNat]'(by omega))) := by
        have := atI_w (f := Val.int) ei
        rw [Int.toNat_of_nonneg h0] at this
        exact this
      refine w_set ⟨_, rfl, .inl ⟨_, _, _, rdL_ref ea, rfl, rfl, _, rfl, .inl ⟨_, _, _, rdL_ref ea, rfl, rfl, i0, _, rfl, ai, ?_⟩⟩⟩
      refine w_sub ⟨_, rfl, .inl ⟨_, _, _, rdL_ref ea, rfl, rfl, _, rfl, .inl ⟨a, _, 1, 1, rfl, ea, rfl, rfl, ?_⟩⟩⟩
      have e1 : (h.set a (.lst (plV ns (i0 + 1) c k s))) a = some (.lst (plV ns (i0 + 1) c k s)) := CH.set_same
      refine w_sub ⟨_, rfl, _, rfl, .inl ⟨a, _, 2, 2, rfl, e1, rfl, rfl, ?_⟩⟩
      have e2 : (h.set a (.lst (plV ns (i0 + 1) (ns[i0.toNat]'(by omega)) k s))) a = some (.lst (plV ns (i0 + 1) (ns[i0.toNat]'(by omega)) k s)) := CH.set_same
      rw [CH.set_set]
      refine w_ite (w_cmp ⟨_, rfl, _, _, rfl, rfl, br (fun c4 => ?_) fun c4 => ?_⟩)
      · refine w_sub (w_call g.o__law_spread ⟨_, rfl, callF g.f__law_spread ⟨_, rfl, fun z => ⟨_, rfl, .inl ⟨a, _, 2, 2, rfl, e2, rfl, rfl, ?_⟩⟩⟩⟩)
        refine rest _ _ _ ?_
        rw [CH.set_set]
        exact sm_pool (by omega)
      · exact rest _ _ _ (sm_pool (by omega))
    · exact rest _ _ _ (sm_refl ⟨ns, i0, c, k, s, h0, ea⟩)
  · exact br_f (rest _ _ _ (sm_refl ⟨ns, i0, c, k, s, h0, ea⟩))
end
end K94
namespace K94
open PySem L2 Vc
/-! U94: drawn models and formulas. -/
theorem range_lt {l : List Nat} {n : Nat} (h : l.Sublist (List.range n)) : l.Pairwise (· < ·) ∧ ∀ w ∈ l, w < n := ⟨List.pairwise_lt_range.sublist h, fun w hw => List.mem_range.mp (h.subset hw)⟩
section
variable {Γ : Fns} {i j : Nat}
/-- some of the worlds, drawn -/
theorem wp_some {own : List Nat} {t : Nat} {e1 e : E} {m : Nat} {ρ : Vc.Env} {h : CH} {Q : VP} {X : XP} {a : Addr} (g : Gm Γ (i + 1)) (hi : 1 ≤ i) (n : Nat) (hn : n ≤ 4) (m0 : 0 < m) (m1 : m < 1000) (enc : Nat → Val) (pa : PoolAt a h)
    (he1 : ∀ Q' : VP, Q' (wV n) h → wpE Γ e1 ρ h Q' X) (h0 : ∀ x, ((wipe own ρ).set t (some x))[0]? = some (some (.ref a)))
    (he : ∀ w h' (Q' : VP), Q' (enc w) h' → wpE Γ e ((wipe own ρ).set t (some (wV w))) h' Q' noX)
    (q : ∀ (l : List Nat) h', l.Sublist (List.range n) → Sm a h h' → Q (.lst (l.map enc)) h') :
    wpE Γ (.lc false own (.nm t) (.rg e1) (.cons (.cmp .Eq (.call "_law_draw" (.cons (.var 0) (.cons (.cst (.int m)) .nil))) (.cst (.int 0))) .nil) (.el e)) ρ h Q X := by
  refine he1 _ ⟨_, rfl, ⟨by omega, by omega⟩, fun D hD => ?_⟩
  have Da : D ≠ a := fun e => by
    subst e
    obtain ⟨_, _, _, _, _, _, ea⟩ := pa
    rw [ea] at hD
    cases hD
  have p0 : PoolAt a (h.set D junk) := by
    obtain ⟨ns, i0, c, k, s, h0, ea⟩ := pa
    exact ⟨ns, i0, c, k, s, h0, (CH.set_ne (Ne.symm Da)).trans ea⟩
  rw [rng_w]
  refine goL_map (fun d h' acc => Sm a (h.set D junk) h' ∧ ∃ l : List Nat, l.Sublist d ∧ acc = l.map enc) ⟨sm_refl p0, [], List.Sublist.refl _, rfl⟩ (fun d x r h' acc K el inv k => ?_) fun h' acc inv => ?_
  · obtain ⟨sm, l, sl, rfl⟩ := inv
    have len : l.length < 16777216 := by
      have h1 := sl.length_le
      have h2 := congrArg List.length el
      rw [List.length_append, List.length_cons, List.length_range] at h2
      omega
    refine w_nm (w_if1 (w_cmp ⟨g.o__law_draw, _, h0 _, callF g.f__law_draw ⟨hi, a, m, m0, m1, sm.1, rfl, fun c h2 hc s2 => eqW_i (cs (fun cc => ?_) fun cc => ?_)⟩⟩))
    · refine he x h2 _ ⟨szlt (by rw [List.length_map]; exact len), k _ _ ⟨sm_trans sm s2, l ++ [x], sl.append (List.Sublist.refl _), ?_⟩⟩
      rw [List.map_append]; rfl
    · exact k _ _ ⟨sm_trans sm s2, l, sl.trans (List.sublist_append_left _ _), rfl⟩
  · obtain ⟨sm, l, sl, rfl⟩ := inv
    refine q l _ sl ⟨?_, fun b nb => ?_⟩
    · obtain ⟨ns, i0, c, k, s, h0, ea⟩ := sm.1
      exact ⟨ns, i0, c, k, s, h0, (CH.del_ne (Ne.symm Da)).trans ea⟩
    · by_cases e : b = D
      · subst e
        show CH.del _ b b = _
        rw [CH.del_same, hD]
      · show CH.del _ D b = _
        rw [CH.del_ne e, sm.2 b nb, CH.set_ne e]
theorem vc__law_some_model (g : Gm Γ j) : ∀ xs h Q Xp, R__law_some_model j xs h Q Xp → wpSs Γ m__law_some_model (bodyPo Q Xp) (startV N__law_some_model xs) h := by
  rintro xs h Q Xp ⟨hj, a, pa, rfl, q⟩
  obtain ⟨i, rfl, hi⟩ := lvl hj
  refine w_set ⟨g.o__law_draw, _, rfl, _, rfl, callF g.f__law_draw ⟨hi, a, 4, by decide, by decide, pa, rfl, fun c h1 hc s1 => ?_⟩⟩
  have en : (1 : Int) + (c : Nat) = ((1 + c : Nat) : Int) := by omega
  show wpSs Γ _ _ [some (.ref a), some (.int 4), some (.int (1 + (c : Nat))), none, none, none, none, none] h1
  rw [en]
  refine w_set ⟨Nat.zero_le _, w_for ⟨_, rfl, _, rfl, ⟨by omega, by omega⟩, ?_⟩⟩
  rw [rng_w]
  refine goL_map (fun d h' ρ' => Sm a h h' ∧ ∃ (ps : List (Nat × Nat)) (u : Option Val), ρ' = [some (.ref a), some (.int 4), some (wV (1 + c)), some (.lst (ps.map pV)), u, none, none, none] ∧ (∀ p ∈ ps, p.1 ∈ d ∧ p.2 < 1 + c) ∧ ps.Pairwise ltN ∧ ps.length ≤ d.length * 4)
    ⟨s1, [], _, rfl, (fun p hp => nomatch hp), .nil, by simp⟩ (fun d x r h' ρ' K el inv k => ?_) fun h' ρ' inv => ?_
  · obtain ⟨s2, ps, u, rfl, lt, so, len⟩ := inv
    have el2 := congrArg List.length el
    rw [List.length_append, List.length_cons, List.length_range] at el2
    refine w_nm (w_set ⟨_, rfl, wp_some g hi (1 + c) (by omega) (by decide) (by decide) (fun w => pV (x, w)) s2.1 ?_ ?_ ?_ fun l h3 sl s3 => ?_⟩)
    · exact fun _ q => ⟨_, rfl, q⟩
    · exact fun _ => rfl
    · exact fun w h' Q' q' => ⟨_, rfl, _, rfl, sl9 rfl, q'⟩
    · obtain ⟨l1, l2⟩ := range_lt sl
      have l3 : l.length ≤ 4 := by have := sl.length_le; rw [List.length_range] at this; omega
      have ep : ps.map pV ++ l.map (fun w => pV (x, w)) = (ps ++ l.map fun w => (x, w)).map pV := by rw [List.map_append, List.map_map]; rfl
      refine
            ⟨_, _, rfl, rfl, ?_, ?_⟩
      · refine szl ?_
        rw [List.length_map, List.length_map]
        omega
      · rw [ep]
        refine k _ _ ⟨sm_trans s2 s3, _, _, rfl, fun p hp => ?_, ?_, ?_⟩
        · rcases
              List.mem_append.mp hp with hp | hp
          · exact ⟨List.mem_append_left _ (lt p hp).1, (lt p hp).2⟩
          · obtain ⟨w, hw, rfl⟩ := List.mem_map.mp hp
            exact ⟨List.mem_append_right _ (List.mem_cons_self ..), l2 w hw⟩
        · rw [List.pairwise_append]
          refine ⟨so, l1.map _ fun a b hab => .inr ⟨rfl, hab⟩, fun p hp y hy => ?_⟩
          obtain ⟨w, hw, rfl⟩ := List.mem_map.mp hy
          refine .inl ?_
          have pw : (List.range (1 + c)).Pairwise (· < ·) := List.pairwise_lt_range
          rw [← el, List.pairwise_append] at pw
          exact pw.2.2 p.1 (lt p hp).1 x (List.mem_cons_self ..)
        · rw [List.length_append, List.length_map, List.length_append]
          show _ ≤ (d.length + 1) * 4
          omega
  · obtain ⟨s2, ps, u, rfl, lt, so, len⟩ := inv
    refine w_set fun p hp => ?_
    have pn : p ≠ a := fun e => by
      subst e
      obtain ⟨_, _, _, _, _, _, ea⟩ := s2.1
      rw [ea] at hp
      cases hp
    have p0 : h p = none := by rw [← s2.2 p pn]; exact hp
    have s3 : ∀ {x : Val}, PoolAt a (h'.set p x) := fun {x} => by
      obtain ⟨ns, i0, c, k, s, h0, ea⟩ := s2.1
      exact ⟨ns, i0, c, k, s, h0, (CH.set_ne (Ne.symm pn)).trans ea⟩
    refine w_for (w_sq ⟨sl9 rfl, trivial, w_nm (w_sub ?_)⟩)
    refine wp_some (m := 2) g hi (1 + c) (by omega) (by decide) (by decide) wV s3 ?_ ?_ ?_ fun l h3 sl s4 => ?_
    · exact fun _ q => ⟨_, rfl, q⟩
    · exact fun _ => rfl
    · exact fun w h' Q' q' => ⟨_, rfl, q'⟩
    have e3 : h3 p = some (.dct []) := (s4.2 p pn).trans CH.set_same
    refine ⟨_, rfl, _, rfl, .inr (.inl ⟨p, _, .inr "p", rfl, e3, rfl, szlt (by decide), trivial, w_nm (w_sub ?_)⟩)⟩
    have s5 : ∀ {x : Val}, PoolAt a (h3.set p x) := fun {x} => by
      obtain ⟨ns, i0, c, k, s, h0, ea⟩ := s4.1
      exact ⟨ns, i0, c, k, s, h0, (CH.set_ne (Ne.symm pn)).trans ea⟩
    refine wp_some (m := 2) g hi (1 + c) (by omega) (by decide) (by decide) wV s5 ?_ ?_ ?_ fun l' h4 sl' s6 => ?_
    · exact fun _ q => ⟨_, rfl, q⟩
    · exact fun _ => rfl
    · exact fun w h' Q' q' => ⟨_, rfl, q'⟩
    have e4 : h4 p = some (.dct (vput [] (.inr "p") (lV l))) := (s6.2 p pn).trans CH.set_same
    have ev : vput (vput [] (.inr "p") (lV l)) (.inr "q") (lV l') = dL (kv2 l l') := by
      have h1 : vput ([] : List (Key × Val)) (.inr "p") (lV l) = dL [("p", l)] := rfl
      rw [h1]
      exact vput_dL (show ("q" : Str) ∉ [("p" : Str)] by decide +kernel)
    refine ⟨_, rfl, _, rfl, .inr (.inl ⟨p, _, .inr "q", rfl, e4, rfl, szlt (show (1 : Nat) < 16777216 by decide), trivial, ?_⟩)⟩
    rw [ev]
    refine w_ret ⟨_, rfl, _, rfl, _, rfl, sl9 rfl, fun b => decide (b = p), 1, fun b c => ?_, ?_⟩
    · have e1 := of_decide_eq_true c
      subst e1
      rw [CH.set_same]
      intro x
      cases x
    · have ef : fz 1 (h4.set p (.dct (dL (kv2 l l')))) (fun b => decide (b = p)) (.tup [wV (1 + c), .lst (ps.map pV), .ref p]) = rawV (1 + c) ps l l' := by
        have e1 : fz 1 (h4.set p (.dct (dL (kv2 l l')))) (fun b => decide (b = p)) (.ref p) = .dct (dL (kv2 l l')) := fz_dct (by simp) CH.set_same
        show Val.tup [wV (1 + c), Val.lst (mapRs _ (ps.map pV)), fz 1 (h4.set p (.dct (dL (kv2 l l')))) (fun b => decide (b = p)) (.ref p)] = _
        rw [e1, mapRs_eq, List.map_map]
        exact congrArg (fun z => Val.tup [wV (1 + c), Val.lst z, .dct (dL (kv2 l l'))]) (List.map_congr_left fun p _ => rfl)
      rw [ef]
      obtain ⟨l1, l2⟩ := range_lt sl
      obtain ⟨l1', l2'⟩ := range_lt sl'
      refine q _ _ ps l l' ⟨by omega, by omega, fun r hr => ?_, so, ⟨l1, l1'⟩, l2, l2'⟩ ⟨?_, fun b nb => ?_⟩
      · have := (lt r hr).1
        rw [List.mem_range] at this
        exact ⟨this, (lt r hr).2⟩
      · obtain ⟨ns, i0, c, k, s, h0, ea⟩ := s6.1
        refine ⟨ns, i0, c, k, s, h0, ?_⟩
        unfold CH.sub
        rw [if_neg (by simpa using Ne.symm pn), CH.set_ne (Ne.symm pn)]
        exact ea
      · unfold CH.sub
        by_cases e : b = p
        · subst e
          rw [if_pos (by simp), p0]
        · rw [if_neg (by simpa using e), CH.set_ne e, s6.2 b nb, CH.set_ne e, s4.2 b nb, CH.set_ne e, s2.2 b nb]
theorem vc__law_pick (g : Gm Γ j) : ∀ xs h Q Xp, R__law_pick j xs h Q Xp → wpSs Γ m__law_pick (bodyPo Q Xp) (startV N__law_pick xs) h := by
  rintro xs h Q Xp ⟨hj, a, ys, y0, y1, pa, rfl, q⟩
  obtain ⟨i, rfl, hi⟩ := lvl hj
  refine w_ret ⟨_, rfl, g.o__law_draw, _, rfl, _, rfl, _, .inl ⟨_, rfl, rfl⟩, callF g.f__law_draw ⟨hi, a, ys.length, y0, y1, pa, by rw [List.length_map]; rfl, fun c h1 hc s1 => ?_⟩⟩
  have ec : ys[c]? = some (ys[c]) := List.getElem?_eq_getElem hc
  exact ⟨(c : Int), _, rfl, atI_w ec, q h1 _ (List.getElem_mem hc) s1⟩
theorem vc__law_not (g : Gm Γ j) : ∀ xs h Q Xp, R__law_not j xs h Q Xp → wpSs Γ m__law_not (bodyPo Q Xp) (startV N__law_not xs) h := by
  rintro xs h Q Xp ⟨a, rfl, q⟩
  exact ⟨_, rfl, sl9 rfl, sl9 rfl, q⟩
theorem vc__law_tiny (g : Gm Γ j) : ∀ xs h Q Xp, R__law_tiny j xs h Q Xp → wpSs Γ m__law_tiny (bodyPo Q Xp) (startV N__law_tiny xs) h := by
  rintro xs h Q Xp ⟨a, deep, hj, pa, rfl, q⟩
  obtain ⟨i, rfl, hi⟩ := lvl (c := 2 + deep) (j := j) (by omega)
  have rest : ∀ (m : Nat), 0 < m → m < 1000 → (deep = 0 → m = 4) → Γ.fn "_law_draw" [.ref a, wV m] h (fun x h' => wpSs Γ (m__law_tiny.drop 1) (bodyPo Q Xp) [some (.ref a), some (.lst [.str "p", .str "q"]), some (wV deep), some (.bl false), some x, none] h') (fun C h' => (bodyPo Q Xp).ex C (startV N__law_tiny [.ref a, .lst [.str "p", .str "q"], wV deep, .bl false]) h') := by
    intro m m0 m1 hm
    refine callF g.f__law_draw ⟨by omega, a, m, m0, m1, pa, rfl, fun c h1 hc s1 => ?_⟩
    have rec_ : ∀ {h2 : CH} {Q2 : VP} {X2 : XP}, 4 ≤ c → Sm a h h2 → (∀ h3 (b : F), b.ht ≤ deep → Sm a h2 h3 → Q2 b.v h3) → Γ.fn "_law_tiny" [.ref a, .lst [.str "p", .str "q"], .int ((deep : Int) - 1), .bl false] h2 Q2 X2 := by
      intro h2 Q2 X2 c4 s2 k
      have d0 : deep ≠ 0 := fun e => by have := hm e; omega
      have e1 : Val.int ((deep : Int) - 1) = wV (deep - 1) := by unfold wV; congr 1; omega
      rw [e1]
      exact callF g.f__law_tiny ⟨a, deep - 1, by omega, s2.1, rfl, fun h3 b hb s3 => k h3 b (by omega) s3⟩
    refine w_ite (w_cmp ⟨_, rfl, _, _, rfl, rfl, br (fun c1 => ?_) fun c1 => ?_⟩)
    · have vq : ∀ h2, Sm a h h2 → wpE Γ (.tup (.cons (.cst (.str "var")) (.cons (.call "_law_pick" (.cons (.var 0) (.cons (.var 1) .nil))) .nil))) [some (.ref a), some (.lst [.str "p", .str "q"]), some (wV deep), some (.bl false), some (wV c), none] h2 Q (fun C h' => Xp C h') := fun h2 s2 =>
        w_tup (w_es (w_cst ⟨g.o__law_pick, _, rfl, _, rfl, callF g.f__law_pick ⟨by omega, a, ["p", "q"], by decide, by decide, s2.1, rfl, fun h3 x hx s3 => ⟨sl9 rfl, q h3 (.var x) (Nat.zero_le _) (sm_trans s2 s3)⟩⟩⟩))
      refine w_ret (w_ife (w_and (w_cmp ⟨_, rfl, eqW_i (br (fun c2 => ?_) fun c2 => ?_)⟩)))
      · refine w_cmp ⟨g.o__law_draw, _, rfl, callF g.f__law_draw ⟨by omega, a, 3, by decide, by decide, s1.1, rfl, fun c' h2 hc' s2 => eqW_i (br (fun c3 => ?_) fun c3 => ?_)⟩⟩
        · exact ⟨sl9 rfl, q h2 .fls (Nat.zero_le _) (sm_trans s1 s2)⟩
        · exact vq h2 (sm_trans s1 s2)
      · exact br_f (vq h1 s1)
    · have c4 : 4 ≤ c := by have := of_decide_eq_false c1; omega
      refine w_nil (w_ite (w_cmp ⟨_, rfl, eqW_i (br (fun c2 => ?_) fun c2 => ?_)⟩))
      · refine w_ret ⟨g.o__law_not, g.o__law_tiny, _, rfl, _, rfl, _, rfl, _, rfl, rec_ c4 s1 fun h3 b hb s3 => callF g.f__law_not ⟨b, rfl, q h3 (nt b) ?_ (sm_trans s1 s3)⟩⟩
        show max b.ht 0 + 1 ≤ _
        omega
      · refine w_nil (w_ite (w_and (w_cmp ⟨_, rfl, eqW_i (br (fun c3 => ?_) fun c3 => ?_)⟩)))
        · refine ⟨_, rfl, false, rfl, br_t ?_⟩
          refine w_ret (w_tup (w_es (w_cst ⟨g.o__law_tiny, _, rfl, _, rfl, _, rfl, _, rfl, rec_ c4 s1 fun h3 b hb s3 => ⟨sl9 rfl, q h3 (.box b) ?_ (sm_trans s1 s3)⟩⟩)))
          show b.ht + 1 ≤ _
          omega
        · refine br_f (w_nil (w_set ⟨g.o__law_tiny, _, rfl, _, rfl, _, rfl, _, rfl, rec_ c4 s1 fun h3 b hb s3 => ?_⟩))
          refine w_ret ⟨g.o__law_pick, _, rfl, sl9 rfl, callF g.f__law_pick ⟨by omega, a, ["and", "or", "implies"], by decide, by decide, s3.1, rfl, fun h4 x hx s4 => ?_⟩⟩
          refine ⟨_, rfl, g.o__law_tiny, _, rfl, _, rfl, _, rfl, _, rfl, rec_ c4 (sm_trans (sm_trans s1 s3) s4) fun h5 b' hb' s5 => ⟨sl9 rfl, ?_⟩⟩
          have s6 := sm_trans (sm_trans (sm_trans s1 s3) s4) s5
          simp
                only [List.mem_cons, List.not_mem_nil, or_false] at hx
          rcases hx with rfl | rfl | rfl
          · exact q h5 (.con b b') (by show max b.ht b'.ht + 1 ≤ _; omega) s6
          · exact q h5 (.dis b b') (by show max b.ht b'.ht + 1 ≤ _; omega) s6
          · exact q h5 (.imp b b') (by show max b.ht b'.ht + 1 ≤ _; omega) s6
  refine w_set (w_call g.o__law_draw ⟨_, rfl, ?_⟩)
  refine w_es (w_ife (w_cmp ⟨_, rfl, _, _, rfl, rfl, br (fun c => ?_) fun c => ?_⟩))
  · exact rest 9 (by decide) (by decide) fun e => by have := of_decide_eq_true c; omega
  · exact rest 4 (by decide) (by decide) fun _ => rfl
end
end K94
namespace K94
open PySem L2 Vc
/-! M94: a model hung under a world, as plain things. -/
theorem sd_id {l : List Nat} (s : l.Pairwise (· < ·)) (h : ∀ w ∈ l, w < 64) : sd l = l := by
  have e : (sd l).map (fun w : Nat => (w : Int)) = l.map fun w : Nat => (w : Int) := by
    refine lt_eq ((sd_lt l).map _ fun a b hab => by omega) (s.map _ fun a b hab => by omega) fun i => ?_
    rw [List.mem_map, List.mem_map]
    exact exists_congr fun w => and_congr_left fun _ => mem_sd h w
  exact List.map_inj_right (fun x y h => Int.ofNat_inj.mp h) |>.mp e
theorem pq_ne : ¬ ("p" : Str) = "q" := by decide +kernel
/-- rows that are in order -/
structure Rw (n : Nat) (P : List Nat) : Prop where
  so : P.Pairwise (· < ·)
  lt : ∀ w ∈ P, w < n
theorem Rw.sd {n : Nat} {P : List Nat} (r : Rw n P) (hn : n ≤ 64) : sd P = P := sd_id r.so fun w hw => by have := r.lt w hw; omega
theorem nzs_kv {P Q : List Nat} (hP : sd P = P) (hQ : sd Q = Q) : nzs (kv2 P Q) = (if P = [] then [] else [(("p" : Str), P)]) ++ (if Q = [] then [] else [(("q" : Str), Q)]) := by
  unfold nzs kv2
  rw [List.filter_cons, List.filter_cons, List.filter_nil]
  by_cases a : P = [] <;> by_cases b : Q = [] <;> simp [a, b, hP, hQ]
theorem look_kv {P Q : List Nat} (x : Str) : (look (kv2 P Q) x).getD [] = if x = "p" then P else if x = "q" then Q else [] := by
  unfold look kv2
  rw [List.find?_cons, List.find?_cons]
  by_cases a : x = "p"
  · subst a; simp
  · have a' : ¬ ("p" : Str) = x := fun e => a e.symm
    rw [if_neg a]
    simp only [decide_eq_false a']
    by_cases b : x = "q"
    · subst b; simp
    · have b' : ¬ ("q" : Str) = x := fun e => b e.symm
      rw [if_neg b]
      simp [decide_eq_false b']
theorem val_kv {n : Nat} {ps : List (Nat × Nat)} {P Q : List Nat} (hP : sd P = P) (hQ : sd Q = Q) (x : Str) : (Mo.mk n ps (nzs (kv2 P Q))).val x = if x = "p" then P else if x = "q" then Q else [] := by
  unfold Mo.val
  show (look (nzs (kv2 P Q)) x).getD [] = _
  rw [nzs_kv hP hQ]
  unfold look
  rw [List.find?_append]
  by_cases a : P = [] <;> by_cases b : Q = []
  · simp [a, b]
  · rw [if_pos a, if_neg b]
    by_cases c : x = "p"
    · subst c; rw [if_pos rfl, a]; simp [pq_ne, List.find?_cons, Ne.symm pq_ne]
    · rw [if_neg c]
      by_cases d : x = "q"
      · subst d; simp
      · have d' : ¬ ("q" : Str) = x := fun e => d e.symm
        rw [if_neg d]; simp [d']
  · rw [if_neg a, if_pos b]
    by_cases c : x = "p"
    · subst c; simp
    · have c' : ¬ ("p" : Str) = x := fun e => c e.symm
      rw [if_neg c]
      by_cases d : x = "q"
      · subst d; rw [if_pos rfl, b]; simp [c']
      · rw [if_neg d]; simp [c']
  · rw [if_neg a, if_neg b]
    by_cases c : x = "p"
    · subst c; simp
    · have c' : ¬ ("p" : Str) = x := fun e => c e.symm
      rw [if_neg c]
      by_cases d : x = "q"
      · subst d; simp [c']
      · have d' : ¬ ("q" : Str) = x := fun e => d e.symm
        rw [if_neg d]; simp [c', d']
theorem na_kv {n : Nat} {ps : List (Nat × Nat)} {P Q : List Nat} (hP : sd P = P) (hQ : sd Q = Q) (v : Nat) : na (Mo.mk n ps (nzs (kv2 P Q))) v = (if v ∈ P then [("p" : Str)] else []) ++ (if v ∈ Q then [("q" : Str)] else []) := by
  unfold na
  simp only [val_kv hP hQ]
  show ((nzs (kv2 P Q)).map (·.1)).filter _ = _
  rw [nzs_kv hP hQ, List.map_append, List.filter_append]
  congr 1
  · by_cases a : P = []
    · rw [if_pos a, a]; simp
    · rw [if_neg a, List.map_cons, List.map_nil, List.filter_cons, List.filter_nil, if_pos rfl]
      by_cases c : v ∈ P <;> simp [c]
  · by_cases a : Q = []
    · rw [if_pos a, a]; simp
    · rw [if_neg a, List.map_cons, List.map_nil, List.filter_cons, List.filter_nil, if_neg (Ne.symm pq_ne), if_pos rfl]
      by_cases c : v ∈ Q <;> simp [c]
theorem cn_kv {n : Nat} {ps : List (Nat × Nat)} {P Q : List Nat} (n0 : 1 ≤ n) (n9 : n ≤ 9) (lt : ∀ p ∈ ps, p.1 < n ∧ p.2 < n) (so : ps.Pairwise ltN) (pl : ps.length ≤ 60) (rp : Rw n P) (rq : Rw n Q) : (Mo.mk n ps (nzs (kv2 P Q))).Cn := by
  have hP := rp.sd (by omega)
  have hQ := rq.sd (by omega)
  have lp : P.length ≤ 9 := Nat.le_trans (nd_lt (rp.so.imp fun h => by omega) rp.lt) n9
  have lq : Q.length ≤ 9 := Nat.le_trans (nd_lt (rq.so.imp fun h => by omega) rq.lt) n9
  have mem : ∀ p ∈ nzs (kv2 P Q), p = (("p" : Str), P) ∨ p = (("q" : Str), Q) := fun p hp => by
    rw [nzs_kv hP hQ] at hp
    by_cases a : P = [] <;> by_cases b : Q = [] <;> simp [a, b] at hp
    · exact .inr hp
    · exact .inl hp
    · exact hp
  have keys : (nzs (kv2 P Q)).map (·.1) = [] ∨ (nzs (kv2 P Q)).map (·.1) = [("p" : Str)] ∨ (nzs (kv2 P Q)).map (·.1) = [("q" : Str)] ∨ (nzs (kv2 P Q)).map (·.1) = [("p" : Str), "q"] := by
    rw [nzs_kv hP hQ]
    by_cases a : P = [] <;> by_cases b : Q = [] <;> simp [a, b]
  refine { n0 := n0, n1 := n9, ps := lt, pl := pl, vl := fun x w hw => ?_, fr := ⟨n0, by show n ≤ 60; omega, lt, so, pl⟩, vk := ⟨?_, fun p hp w hw => ?_, fun p hp => ?_, ?_⟩, l9 := fun p hp => ?_, nm := keys }
  · rw [val_kv hP hQ] at hw
    by_cases a : x = "p"
    · rw [if_pos a] at hw; exact rp.lt w hw
    · rw [if_neg a] at hw
      by_cases b : x = "q"
      · rw [if_pos b] at hw; exact rq.lt w hw
      · rw [if_neg b] at hw; cases hw
  · show ((nzs (kv2 P Q)).map (·.1)).Nodup
    rcases keys with e | e | e | e <;> rw [e] <;> decide +kernel
  · rcases mem p hp with rfl | rfl
    · exact rp.lt w hw
    · exact rq.lt w hw
  · rcases mem p hp with rfl | rfl
    · show P.length ≤ 60; omega
    · show Q.length ≤ 60; omega
  · show (nzs (kv2 P Q)).length ≤ 60
    rw [← List.length_map (f := (·.1))]
    rcases keys with e | e | e | e <;> rw [e] <;> decide
  · rcases mem p hp with rfl | rfl
    · exact lp
    · exact lq
/-- two models with the same arrows and values -/
theorem sat_congr {A B : Mo} (hp : A.ps = B.ps) (hv : ∀ x, A.val x = B.val x) : ∀ (a : F) (v : Nat), sat A a v = sat B a v
  | .var x, v => by simp only [sat, hv]
  | .fls, v => rfl
  | .imp a b, v => by simp only [sat, sat_congr hp hv a, sat_congr hp hv b]
  | .con a b, v => by simp only [sat, sat_congr hp hv a, sat_congr hp hv b]
  | .dis a b, v => by simp only [sat, sat_congr hp hv a, sat_congr hp hv b]
  | .box a, v => by
    have e : A.see v = B.see v := by unfold Mo.see; rw [hp]
    simp only [sat, e, sat_congr hp hv a]
theorem ltN_le {l : List (Nat × Nat)} (s : l.Pairwise ltN) : (l.map cP).Pairwise lexle := s.map _ fun a b h => by unfold ltN at h; unfold lexle; simp only [cP]; omega
theorem sorted_eq {m l : List (Nat × Nat)} (p : m.Perm l) (s : m.Pairwise ltN) (s' : l.Pairwise ltN) : m = l := by
  have e := ple_eq (ltN_le s) (ltN_le s') (p.map cP)
  exact List.map_inj_right (fun x y h => Prod.ext (Int.ofNat_inj.mp (congrArg Prod.fst h)) (Int.ofNat_inj.mp (congrArg Prod.snd h))) |>.mp e
theorem sortedN_eq {m l : List Nat} (p : m.Perm l) (s : m.Pairwise (· ≤ ·)) (s' : l.Pairwise (· ≤ ·)) : m = l := by
  have e := le_eq (s.map (fun w : Nat => (w : Int)) fun a b h => by omega) (s'.map (fun w : Nat => (w : Int)) fun a b h => by omega) (p.map fun w : Nat => (w : Int))
  exact List.map_inj_right (fun x y h => Int.ofNat_inj.mp h) |>.mp e
/-! ### what is reached -/
theorem rch_uniq {M : Mo} {at_ : Nat} {l r r' : List Nat} (a : Rch M at_ l r) (b : Rch M at_ l r') : r = r' := by
  induction a with
  | done h =>
    cases b with
    | done => rfl
    | step e _ => rw [List.getElem?_eq_none h] at e; cases e
  | step e _ ih =>
    cases b with
    | done h => rw [List.getElem?_eq_none h] at e; cases e
    | step e' n' =>
      rw [e] at e'
      cases e'
      exact ih n'
theorem push_map {f : Nat → Nat} (inj : ∀ x y, f x = f y → x = y) (l : List Nat) (w : Nat) : push (l.map f) (f w) = (push l w).map f := by
  unfold push
  by_cases c : w ∈ l
  · rw [if_pos c, if_pos (List.mem_map.mpr ⟨w, c, rfl⟩)]
  · rw [if_neg c, if_neg fun z => ?_, List.map_append]; rfl
    obtain ⟨y, hy, e⟩ := List.mem_map.mp z
    exact c (by rw [← inj y w e]; exact hy)
theorem foldl_push {f : Nat → Nat} (inj : ∀ x y, f x = f y → x = y) : ∀ (s l : List Nat), (s.map f).foldl push (l.map f) = (s.foldl push l).map f
  | [], l => rfl
  | x :: s, l => by rw [List.map_cons, List.foldl_cons, List.foldl_cons, push_map inj, foldl_push inj s]
theorem foldl_lt {n : Nat} : ∀ (s l : List Nat), (∀ x ∈ s, x < n) → (∀ x ∈ l, x < n) → ∀ x ∈ s.foldl push l, x < n
  | [], l, _, h => h
  | y :: s, l, hs, h => foldl_lt s (push l y) (fun x hx => hs x (List.mem_cons_of_mem _ hx)) (push_lt (hs y (List.mem_cons_self ..)) h)
theorem rch_map {A B : Mo} {f : Nat → Nat} (e : Emb A B f) (inj : ∀ x y, f x = f y → x = y) {at_ : Nat} {l r : List Nat} (a : Rch A at_ l r) : (∀ x ∈ l, x < A.n) → Rch B at_ (l.map f) (r.map f) ∧ ∀ x ∈ r, x < A.n := by
  induction a with
  | done h => exact fun lt => ⟨.done (by rw [List.length_map]; exact h), lt⟩
  | step ev _ ih =>
    intro lt
    have vl := lt _ (List.mem_of_getElem? ev)
    obtain ⟨h1, h2⟩ := ih (foldl_lt _ _ (fun x hx => see_lt e.ok hx) lt)
    refine ⟨.step (v := f _) (by rw [List.getElem?_map, ev]; rfl) ?_, h2⟩
    rw [e.see _ vl, foldl_push inj]
    exact h1
theorem numb_map {f : Nat → Nat} (inj : ∀ x y, f x = f y → x = y) : ∀ (ws : List Nat) (v : Nat), numb (ws.map f) (f v) = numb ws v
  | [], v => rfl
  | w :: ws, v => by
    have ih := numb_map inj ws v
    unfold numb at *
    rw [List.map_cons, List.idxOf_cons, List.idxOf_cons, ih]
    by_cases c : w = v
    · subst c; simp
    · have c' : ¬ f w = f v := fun e => c (inj _ _ e)
      rw [show (f w == f v) = false from beq_eq_false_iff_ne.mpr c', show (w == v) = false from beq_eq_false_iff_ne.mpr c]
theorem mem_mapf {f : Nat → Nat} (inj : ∀ x y, f x = f y → x = y) {ws : List Nat} {v : Nat} : f v ∈ ws.map f ↔ v ∈ ws :=
  ⟨fun h => by obtain ⟨y, hy, e⟩ := List.mem_map.mp h; rw [← inj _ _ e]; exact hy, fun h => List.mem_map.mpr ⟨v, h, rfl⟩⟩
/-! ### the law's three models -/
def wPs (n1 : Nat) (ps1 ps2 : List (Nat × Nat)) (v w : Nat) : List (Nat × Nat) := [(0, v + 1), (0, w + (1 + n1))] ++ ps1.map (fun p => (p.1 + 1, p.2 + 1)) ++ ps2.map fun p => (p.1 + (1 + n1), p.2 + (1 + n1))
def wRow (n1 : Nat) (P1 P2 : List Nat) : List Nat := P1.map (· + 1) ++ P2.map (· + (1 + n1))
def moF (n : Nat) (ps : List (Nat × Nat)) (P Q : List Nat) : Mo := ⟨n, ps, nzs (kv2 P Q)⟩
def moW (n1 n2 : Nat) (ps1 ps2 : List (Nat × Nat)) (P1 Q1 P2 Q2 : List Nat) (v w : Nat) : Mo := ⟨1 + n1 + n2, wPs n1 ps1 ps2 v w, nzs (kv2 (wRow n1 P1 P2) (wRow n1 Q1 Q2))⟩
section
variable {n1 n2 : Nat} {ps1 ps2 : List (Nat × Nat)} {P1 Q1 P2 Q2 : List Nat} {v w : Nat}
theorem raw_rp (r : RawOk n1 ps1 P1 Q1) : Rw n1 P1 := ⟨r.pl.1, r.vl.1⟩
theorem raw_rq (r : RawOk n1 ps1 P1 Q1) : Rw n1 Q1 := ⟨r.pl.2, r.vl.2⟩
theorem raw_len (r : RawOk n1 ps1 P1 Q1) : ps1.length ≤ 16 := by
  have nd := so_nodup r.so
  have : ps1.length ≤ (pairs ⟨4, [], []⟩ ⟨4, [], []⟩).length := nd_lenG nd fun p hp => mem_pairs.mpr (by
    have := r.lt p hp
    have := r.n1
    exact ⟨by show p.1 < 4; omega, by show p.2 < 4; omega⟩)
  rw [pairs_len] at this
  exact this
theorem cn_F (r : RawOk n1 ps1 P1 Q1) : (moF n1 ps1 P1 Q1).Cn := cn_kv r.n0 (by have := r.n1; omega) r.lt r.so (by have := raw_len r; omega) (raw_rp r) (raw_rq r)
theorem row_W (r1 : Rw n1 P1) (r2 : Rw n2 P2) : Rw (1 + n1 + n2) (wRow n1 P1 P2) where
  so := by
    unfold wRow
    rw [List.pairwise_append]
    refine ⟨r1.so.map _ fun a b h => by omega, r2.so.map _ fun a b h => by omega, fun a ha b hb => ?_⟩
    obtain ⟨x, hx, rfl⟩ := List.mem_map.mp ha
    obtain ⟨y, hy, rfl⟩ := List.mem_map.mp hb
    have := r1.lt x hx
    omega
  lt := fun x hx => by
    rcases List.mem_append.mp hx with h | h
    · obtain
          ⟨y, hy, rfl⟩ := List.mem_map.mp h
      have := r1.lt y hy
      omega
    · obtain
          ⟨y, hy, rfl⟩ := List.mem_map.mp h
      have := r2.lt y hy
      omega
theorem cn_W (r1 : RawOk n1 ps1 P1 Q1) (r2 : RawOk n2 ps2 P2 Q2) (hv : v < n1) (hw : w < n2) : (moW n1 n2 ps1 ps2 P1 Q1 P2 Q2 v w).Cn := by
  have a1 := r1.n1
  have a2 := r2.n1
  refine cn_kv (by omega) (by omega) (fun p hp => ?_) ?_ ?_ (row_W (raw_rp r1) (raw_rp r2)) (row_W (raw_rq r1) (raw_rq r2))
  · unfold wPs at hp
    rcases
          List.mem_append.mp hp with hp | hp
    · rcases
          List.mem_append.mp hp with hp | hp
      · simp only [List.mem_cons, List.not_mem_nil, or_false] at hp
        rcases hp with rfl | rfl <;> simp only <;> omega
      · obtain ⟨x, hx, rfl⟩ := List.mem_map.mp hp
        have := r1.lt x hx
        simp only
        omega
    · obtain ⟨x, hx, rfl⟩ := List.mem_map.mp hp
      have := r2.lt x hx
      simp only
      omega
  · unfold wPs
    rw [List.pairwise_append, List.pairwise_append]
    refine ⟨⟨?_, r1.so.map _ fun a b h => by unfold ltN at *; simp only; omega, fun a ha b hb => ?_⟩, r2.so.map _ fun a b h => by unfold ltN at *; simp only; omega, fun a ha b hb => ?_⟩
    · refine List.Pairwise.cons (fun b hb => ?_) (List.Pairwise.cons (fun b hb => nomatch hb) .nil)
      rw [List.mem_singleton] at hb
      subst hb
      exact .inr ⟨rfl, by show v + 1 < w + (1 + n1); omega⟩
    · obtain ⟨y, hy, rfl⟩ := List.mem_map.mp hb
      simp only [List.mem_cons, List.not_mem_nil, or_false] at ha
      rcases ha with rfl | rfl <;> unfold ltN <;> simp only <;> omega
    · obtain ⟨y, hy, rfl⟩ := List.mem_map.mp hb
      rcases
            List.mem_append.mp ha with ha | ha
      · simp only [List.mem_cons, List.not_mem_nil, or_false] at ha
        rcases ha with rfl | rfl <;> unfold ltN <;> simp only <;> omega
      · obtain ⟨x, hx, rfl⟩ := List.mem_map.mp ha
        have := r1.lt x hx
        unfold ltN
        simp only
        omega
  · unfold wPs
    rw [List.length_append, List.length_append, List.length_map, List.length_map]
    have := raw_len r1
    have := raw_len r2
    show 2 + _ + _ ≤ 60
    omega
theorem see_map (f : Nat → Nat) (inj : ∀ x y, f x = f y → x = y) (ps : List (Nat × Nat)) (x : Nat) : ((ps.map fun p => (f p.1, f p.2)).filter fun p => decide (p.1 = f x)).map (·.2) = ((ps.filter fun p => decide (p.1 = x)).map (·.2)).map f := by
  rw [List.filter_map, List.map_map, List.map_map]
  have : ps.filter ((fun p : Nat × Nat => decide (p.1 = f x)) ∘ fun p => (f p.1, f p.2)) = ps.filter fun p => decide (p.1 = x) := List.filter_congr fun p _ => decide_eq_decide.mpr ⟨fun e => inj _ _ e, fun e => congrArg f e⟩
  rw [this]
  rfl
theorem see_none {ps : List (Nat × Nat)} {x : Nat} (h : ∀ p ∈ ps, p.1 ≠ x) : ps.filter (fun p => decide (p.1 = x)) = [] := List.filter_eq_nil_iff.mpr fun p hp => by simpa using h p hp
theorem see_W1 (r1 : RawOk n1 ps1 P1 Q1) {x : Nat} (hx : x < n1) : (moW n1 n2 ps1 ps2 P1 Q1 P2 Q2 v w).see (x + 1) = ((moF n1 ps1 P1 Q1).see x).map (· + 1) := by
  unfold Mo.see
  show ((wPs n1 ps1 ps2 v w).filter _).map _ = _
  unfold wPs
  rw [List.filter_append, List.filter_append, List.map_append, List.map_append]
  rw [see_none (ps := [(0, v + 1), (0, w + (1 + n1))]) (fun p hp => by simp only [List.mem_cons, List.not_mem_nil, or_false] at hp; rcases hp with rfl | rfl <;> simp)]
  rw [see_none (ps := ps2.map _) (fun p hp => by obtain ⟨y, _, rfl⟩ := List.mem_map.mp hp; simp only; omega)]
  rw [see_map (· + 1) (fun x y h => by omega) ps1 x]
  simp [moF]
theorem see_W2 (r1 : RawOk n1 ps1 P1 Q1) {x : Nat} : (moW n1 n2 ps1 ps2 P1 Q1 P2 Q2 v w).see (x + (1 + n1)) = ((moF n2 ps2 P2 Q2).see x).map (· + (1 + n1)) := by
  unfold Mo.see
  show ((wPs n1 ps1 ps2 v w).filter _).map _ = _
  unfold wPs
  rw [List.filter_append, List.filter_append, List.map_append, List.map_append]
  rw [see_none (ps := [(0, v + 1), (0, w + (1 + n1))]) (fun p hp => by simp only [List.mem_cons, List.not_mem_nil, or_false] at hp; rcases hp with rfl | rfl <;> simp only <;> omega)]
  rw [see_none (ps := ps1.map _) (fun p hp => by obtain ⟨y, hy, rfl⟩ := List.mem_map.mp hp; have := r1.lt y hy; simp only; omega)]
  rw [see_map (· + (1 + n1)) (fun x y h => by omega) ps2 x]
  simp [moF]
theorem see_W0 : (moW n1 n2 ps1 ps2 P1 Q1 P2 Q2 v w).see 0 = [v + 1, w + (1 + n1)] := by
  unfold Mo.see
  show ((wPs n1 ps1 ps2 v w).filter _).map _ = _
  unfold wPs
  rw [List.filter_append, List.filter_append, List.map_append, List.map_append]
  rw [see_none (ps := ps1.map _) (fun p hp => by obtain ⟨y, _, rfl⟩ := List.mem_map.mp hp; simp)]
  rw [see_none (ps := ps2.map _) (fun p hp => by obtain ⟨y, _, rfl⟩ := List.mem_map.mp hp; simp only; omega)]
  simp
theorem row1 (r1 : Rw n1 P1) {x : Nat} (hx : x < n1) : x + 1 ∈ wRow n1 P1 P2 ↔ x ∈ P1 := by
  unfold wRow
  rw [List.mem_append, List.mem_map, List.mem_map]
  constructor
  · rintro (⟨y, hy, e⟩ | ⟨y, hy, e⟩)
    · have : y = x := by omega
      subst this; exact hy
    · omega
  · exact fun h => .inl ⟨x, h, rfl⟩
theorem row2 (r1 : Rw n1 P1) {x : Nat} : x + (1 + n1) ∈ wRow n1 P1 P2 ↔ x ∈ P2 := by
  unfold wRow
  rw [List.mem_append, List.mem_map, List.mem_map]
  constructor
  · rintro (⟨y, hy, e⟩ | ⟨y, hy, e⟩)
    · have := r1.lt y hy
      omega
    · have : y = x := by omega
      subst this; exact hy
  · exact fun h => .inr ⟨x, h, rfl⟩
theorem emb1 (r1 : RawOk n1 ps1 P1 Q1) (r2 : RawOk n2 ps2 P2 Q2) : Emb (moF n1 ps1 P1 Q1) (moW n1 n2 ps1 ps2 P1 Q1 P2 Q2 v w) (· + 1) := by
  have a1 := r1.n1
  have a2 := r2.n1
  have s1 := (raw_rp r1).sd (by omega)
  have s2 := (raw_rq r1).sd (by omega)
  have s3 := (row_W (raw_rp r1) (raw_rp r2)).sd (by omega)
  have s4 := (row_W (raw_rq r1) (raw_rq r2)).sd (by omega)
  refine ⟨fun x hx => see_W1 r1 hx, fun x y hx => ?_, fun x hx => ?_, (cn_F r1).toOk⟩
  · unfold moW moF
    rw [val_kv s3 s4, val_kv s1 s2]
    by_cases a : y = "p"
    · rw [if_pos a, if_pos a]; exact row1 (raw_rp r1) hx
    · rw [if_neg a, if_neg a]
      by_cases b : y = "q"
      · rw [if_pos b, if_pos b]; exact row1 (raw_rq r1) hx
      · rw [if_neg b, if_neg b]; simp
  · unfold moW moF
    rw [na_kv s3 s4, na_kv s1 s2]
    simp only [row1 (P2 := P2) (raw_rp r1) hx, row1 (P2 := Q2) (raw_rq r1) hx]
theorem emb2 (r1 : RawOk n1 ps1 P1 Q1) (r2 : RawOk n2 ps2 P2 Q2) : Emb (moF n2 ps2 P2 Q2) (moW n1 n2 ps1 ps2 P1 Q1 P2 Q2 v w) (· + (1 + n1)) := by
  have a1 := r1.n1
  have a2 := r2.n1
  have s1 := (raw_rp r2).sd (by omega)
  have s2 := (raw_rq r2).sd (by omega)
  have s3 := (row_W (raw_rp r1) (raw_rp r2)).sd (by omega)
  have s4 := (row_W (raw_rq r1) (raw_rq r2)).sd (by omega)
  refine ⟨fun x hx => see_W2 r1, fun x y hx => ?_, fun x hx => ?_, (cn_F r2).toOk⟩
  · unfold moW moF
    rw [val_kv s3 s4, val_kv s1 s2]
    by_cases a : y = "p"
    · rw [if_pos a, if_pos a]; exact row2 (raw_rp r1)
    · rw [if_neg a, if_neg a]
      by_cases b : y = "q"
      · rw [if_pos b, if_pos b]; exact row2 (raw_rq r1)
      · rw [if_neg b, if_neg b]; simp
  · unfold moW moF
    rw [na_kv s3 s4, na_kv s1 s2]
    simp only [row2 (P2 := P2) (raw_rp r1), row2 (P2 := Q2) (raw_rq r1)]
theorem raw_sat (r : RawOk n1 ps1 P1 Q1) (a : F) (x : Nat) : sat (Mo.mk n1 ps1 (kv2 P1 Q1)) a x = sat (moF n1 ps1 P1 Q1) a x := by
  have a1 := r.n1
  refine sat_congr (A := Mo.mk n1 ps1 (kv2 P1 Q1)) (B := moF n1 ps1 P1 Q1) rfl (fun y => ?_) a x
  unfold moF
  rw [val_kv ((raw_rp r).sd (by omega)) ((raw_rq r).sd (by omega))]
  exact look_kv y
theorem box_W (r1 : RawOk n1 ps1 P1 Q1) (r2 : RawOk n2 ps2 P2 Q2) (hv : v < n1) (hw : w < n2) (a : F) : sat (moW n1 n2 ps1 ps2 P1 Q1 P2 Q2 v w) (.box a) 0 = (sat (moF n1 ps1 P1 Q1) a v && sat (moF n2 ps2 P2 Q2) a w) := by
  simp only [sat, see_W0, List.all_cons, List.all_nil, Bool.and_true]
  rw [sat_emb (emb1 r1 r2) a v hv, sat_emb (emb2 r1 r2) a w hw]
theorem dia_W (r1 : RawOk n1 ps1 P1 Q1) (r2 : RawOk n2 ps2 P2 Q2) (hv : v < n1) (hw : w < n2) (a : F) : sat (moW n1 n2 ps1 ps2 P1 Q1 P2 Q2 v w) (di a) 0 = (sat (moF n1 ps1 P1 Q1) a v || sat (moF n2 ps2 P2 Q2) a w) := by
  rw [sat_di, see_W0]
  simp only [List.any_cons, List.any_nil, Bool.or_false]
  rw [sat_emb (emb1 r1 r2) a v hv, sat_emb (emb2 r1 r2) a w hw]
/-! ### the parts that are reached -/
theorem part_row (r1 : Rw n1 P1) {ws : List Nat} (wl : ∀ x ∈ ws, x < n1) : ((wRow n1 P1 P2).filter fun x => decide (x ∈ ws.map (· + 1))).map (numb (ws.map (· + 1))) = (P1.filter fun x => decide (x ∈ ws)).map (numb ws) := by
  have inj : ∀ x y : Nat, x + 1 = y + 1 → x = y := fun x y h => by omega
  unfold wRow
  rw [List.filter_append, List.map_append]
  have e2 : (P2.map (· + (1 + n1))).filter (fun x => decide (x ∈ ws.map (· + 1))) = [] := List.filter_eq_nil_iff.mpr fun x hx => by
    obtain ⟨y, hy, rfl⟩ :=
          List.mem_map.mp hx
    rw [decide_eq_true_eq]
    intro c
    obtain ⟨z, hz, e⟩ := List.mem_map.mp c
    have := wl z hz
    omega
  rw [e2, List.filter_map, List.map_map, List.map_nil, List.append_nil]
  have e1 : P1.filter ((fun x => decide (x ∈ ws.map (· + 1))) ∘ (· + 1)) = P1.filter fun x => decide (x ∈ ws) := List.filter_congr fun x _ => decide_eq_decide.mpr (mem_mapf (f := (· + 1)) inj)
  rw [e1]
  exact List.map_congr_left fun x _ => numb_map (f := (· + 1)) inj ws x
theorem part_ps {ws : List Nat} (wl : ∀ x ∈ ws, x < n1) : partP (moW n1 n2 ps1 ps2 P1 Q1 P2 Q2 v w) (ws.map (· + 1)) = partP (moF n1 ps1 P1 Q1) ws := by
  have inj : ∀ x y : Nat, x + 1 = y + 1 → x = y := fun x y h => by omega
  have z0 : ∀ z ∈ ws.map (· + 1), 0 < z ∧ z < 1 + n1 := fun z hz => by
    obtain ⟨y, hy, rfl⟩ := List.mem_map.mp hz
    have := wl y hy
    omega
  unfold partP
  show ((wPs n1 ps1 ps2 v w).filter _).map _ = (ps1.filter _).map _
  unfold wPs
  rw [List.filter_append, List.filter_append, List.map_append, List.map_append]
  have e0 : [(0, v + 1), (0, w + (1 + n1))].filter (fun p : Nat × Nat => decide (p.1 ∈ ws.map (· + 1)) && decide (p.2 ∈ ws.map (· + 1))) = [] := List.filter_eq_nil_iff.mpr fun p hp => by
    rw
          [Bool.and_eq_true, decide_eq_true_eq, decide_eq_true_eq]
    intro c
    have := z0 _ c.1
    simp only [List.mem_cons, List.not_mem_nil, or_false] at hp
    rcases hp with rfl | rfl <;> simp at this
  have e2 : (ps2.map fun p => (p.1 + (1 + n1), p.2 + (1 + n1))).filter (fun p : Nat × Nat => decide (p.1 ∈ ws.map (· + 1)) && decide (p.2 ∈ ws.map (· + 1))) = [] := List.filter_eq_nil_iff.mpr fun p hp => by
    rw
          [Bool.and_eq_true, decide_eq_true_eq, decide_eq_true_eq]
    intro c
    obtain ⟨y, hy, rfl⟩ := List.mem_map.mp hp
    have := z0 _ c.1
    simp only at this
    omega
  rw [e0, e2, List.filter_map, List.map_map]
  have e1 : ps1.filter ((fun p : Nat × Nat => decide (p.1 ∈ ws.map (· + 1)) && decide (p.2 ∈ ws.map (· + 1))) ∘ fun p => (p.1 + 1, p.2 + 1)) = ps1.filter fun p => decide (p.1 ∈ ws) && decide (p.2 ∈ ws) := List.filter_congr fun p _ => by
    show (decide (p.1 + 1 ∈ ws.map (· + 1)) && decide (p.2 + 1 ∈ ws.map (· + 1))) = _
    rw [decide_eq_decide.mpr (mem_mapf (f := (· + 1)) inj (v := p.1)), decide_eq_decide.mpr (mem_mapf (f := (· + 1)) inj (v := p.2))]
  rw [e1]
  simp only [List.map_nil, List.nil_append, List.append_nil]
  exact List.map_congr_left fun p _ => Prod.ext (numb_map (f := (· + 1)) inj ws p.1) (numb_map (f := (· + 1)) inj ws p.2)
theorem nzs_part {P Q : List Nat} (f : List Nat → List Nat) (f0 : f [] = []) (hP : sd P = P) (hQ : sd Q = Q) : nzs ((nzs (kv2 P Q)).map fun p => (p.1, f p.2)) = nzs (kv2 (f P) (f Q)) := by
  rw [nzs_kv hP hQ]
  unfold nzs kv2
  by_cases a : P = [] <;> by_cases b : Q = [] <;> simp [a, b, f0, List.filter_cons]
theorem part_vs (r1 : RawOk n1 ps1 P1 Q1) (r2 : RawOk n2 ps2 P2 Q2) {ws : List Nat} (wl : ∀ x ∈ ws, x < n1) : nzs (partV (moW n1 n2 ps1 ps2 P1 Q1 P2 Q2 v w) (ws.map (· + 1))) = nzs (partV (moF n1 ps1 P1 Q1) ws) := by
  have a1 := r1.n1
  have a2 := r2.n1
  unfold partV
  show nzs ((nzs (kv2 (wRow n1 P1 P2) (wRow n1 Q1 Q2))).map _) = nzs ((nzs (kv2 P1 Q1)).map _)
  rw [nzs_part (fun l => (l.filter fun v => decide (v ∈ ws.map (· + 1))).map (numb (ws.map (· + 1)))) rfl ((row_W (raw_rp r1) (raw_rp r2)).sd (by omega)) ((row_W (raw_rq r1) (raw_rq r2)).sd (by omega))]
  rw [nzs_part (fun l => (l.filter fun v => decide (v ∈ ws)).map (numb ws)) rfl ((raw_rp r1).sd (by omega)) ((raw_rq r1).sd (by omega))]
  rw [part_row (raw_rp r1) wl, part_row (raw_rq r1) wl]
/-- the two generated models are one -/
theorem gen_eq (r1 : RawOk n1 ps1 P1 Q1) (r2 : RawOk n2 ps2 P2 Q2) (hv : v < n1) {r r' ws ws' : List Nat} {qs qs' : List (Nat × Nat)}
    (a : Rch (moW n1 n2 ps1 ps2 P1 Q1 P2 Q2 v w) 0 [v + 1] ((v + 1) :: r)) (pa : ws.Perm r) (sa : ws.Pairwise (· ≤ ·)) (qa : qs.Perm (partP (moW n1 n2 ps1 ps2 P1 Q1 P2 Q2 v w) ((v + 1) :: ws))) (ta : qs.Pairwise ltN)
    (b : Rch (moF n1 ps1 P1 Q1) 0 [v] (v :: r')) (pb : ws'.Perm r') (sb : ws'.Pairwise (· ≤ ·)) (qb : qs'.Perm (partP (moF n1 ps1 P1 Q1) (v :: ws'))) (tb : qs'.Pairwise ltN) :
    Mo.mk (ws.length + 1) qs (nzs (partV (moW n1 n2 ps1 ps2 P1 Q1 P2 Q2 v w) ((v + 1) :: ws))) = Mo.mk (ws'.length + 1) qs' (nzs (partV (moF n1 ps1 P1 Q1) (v :: ws'))) := by
  have inj : ∀ x y : Nat, x + 1 = y + 1 → x = y := fun x y h => by omega
  obtain ⟨c, lt⟩ := rch_map (emb1 (v := v) (w := w) r1 r2) inj b (fun x hx => by rw [List.mem_singleton] at hx; rw [hx]; exact hv)
  have e := rch_uniq a c
  rw [List.map_cons] at e
  injection e with _ er
  subst er
  have ew : ws = ws'.map (· + 1) := sortedN_eq (pa.trans (pb.map _).symm) sa (sb.map _ fun a b h => by omega)
  subst ew
  have wl : ∀ x ∈ v :: ws', x < n1 := fun x hx => by
    rcases List.mem_cons.mp hx with e | e
    · rw [e]; exact hv
    · exact lt x (List.mem_cons_of_mem _ (pb.mem_iff.mp e))
  have ec : (v + 1) :: ws'.map (· + 1) = (v :: ws').map (· + 1) := rfl
  rw [ec] at qa ⊢
  rw [part_ps wl] at qa
  rw [part_vs r1 r2 wl, sorted_eq (qa.trans qb.symm) ta tb, List.length_map]
end
end K94
namespace K94
open PySem L2 Vc
/-! X94: truth at a world; the law. -/
theorem inP_d {vs : List (Str × List Nat)} {x : Str} {h : CH} {Q : Bool → Prop} (q : Q (look vs x).isSome) : inP (.str x) (dV vs) h Q := ⟨.inr (.inl ⟨.inr x, dL vs, rfl, rfl, by rw [vget_dL, Option.isSome_map]; exact q⟩)⟩
theorem w_par {Γ : Fns} {ρ : Vc.Env} {h : CH} {D : Po} {r : List S} {i k : Nat} {a b : E} (q : wpE Γ a ρ h (fun x h1 => wpE Γ b ρ h1 (fun y h2 => wpSs Γ r D ((ρ.set i (some x)).set k (some y)) h2) fun C h' => D.ex C ρ h') fun C h' => D.ex C ρ h') : wpSs Γ (.par i k a b :: r) D ρ h := q
theorem box_len (M : Mo) (a : F) (v : Nat) : decide ((((M.ps.filter fun p => decide (p.1 = v) && !sat M a p.2).map fun p => wV p.2).length : Int) = 0) = (M.see v).all fun w => sat M a w := by
  rw [Bool.eq_iff_iff, decide_eq_true_eq, List.length_map, List.all_eq_true]
  constructor
  · intro h w hw
    have e : M.ps.filter (fun p => decide (p.1 = v) && !sat M a p.2) = [] := List.length_eq_zero_iff.mp (Int.ofNat_inj.mp h)
    have := List.filter_eq_nil_iff.mp e (v, w) (mem_see.mp hw)
    simpa using this
  · intro h
    have e : M.ps.filter (fun p => decide (p.1 = v) && !sat M a p.2) = [] := List.filter_eq_nil_iff.mpr fun p hp => by
      rw [Bool.and_eq_true, decide_eq_true_eq]
      rintro ⟨c, d⟩
      have := h p.2 (mem_see.mpr (by rw [← c]; exact hp))
      rw [this] at d
      cases d
    rw [e]
    rfl
section
variable {Γ : Fns} {i j : Nat}
theorem vc__law_so_at (g : Gm Γ j) : ∀ xs h Q Xp, R__law_so_at j xs h Q Xp → wpSs Γ m__law_so_at (bodyPo Q Xp) (startV N__law_so_at xs) h := by
  rintro xs h Q Xp ⟨n, ps, P, P', a, v, pl, hj, rfl, q⟩
  refine ⟨_, rfl, _, rfl, rfl, ?_⟩
  cases a with
  | var x =>
    refine ⟨_, rfl, 0, _, rfl, rfl, str_eq (b := true) (by decide +kernel) (br_t ?_)⟩
    refine w_ret (w_and (w_cmp ⟨_, rfl, 1, _, rfl, rfl, _, rfl, inP_d ?_⟩))
    have e : sat (Mo.mk n ps (kv2 P P')) (.var x) v = decide (v ∈ (look (kv2 P P') x).getD []) := rfl
    rw [e] at q
    cases c : look (kv2 P P') x with
    | none =>
      rw [c] at q
      exact br_f q
    | some l =>
      rw [c] at q
      exact br_t ⟨_, rfl, _, rfl, _, rfl, 1, _, rfl, rfl, .inr (.inl ⟨_, .inr x, _, rfl, rfl, by rw [vget_dL, c]; rfl, inP_w q⟩)⟩
  | fls =>
    exact ⟨_, rfl, 0, _, rfl, rfl, str_eq (b := false) (by decide +kernel) (br_f ⟨_, rfl, 0, _, rfl, rfl, str_eq (b := true) (by decide +kernel) (br_t q)⟩)⟩
  | box a =>
    obtain ⟨i, rfl, hi⟩ := lvl (c := a.ht) (j := j) hj
    refine ⟨_, rfl, 0, _, rfl, rfl, str_eq (b := false) (by decide +kernel) (br_f ⟨_, rfl, 0, _, rfl, rfl, str_eq (b := false) (by decide +kernel) (br_f ?_)⟩)⟩
    refine ⟨_, rfl, 0, _, rfl, rfl, str_eq (b := true) (by decide +kernel) (br_t ?_)⟩
    refine w_ret (w_cmp (w_blt (w_es (wp_lc ps pV (fun p => decide (p.1 = v) && !sat (Mo.mk n ps (kv2 P P')) a p.2) (fun p => wV p.2) (by omega) ?_ (fun p hp D hD A K hA k1 k2 => ?_) ?_))))
    · exact fun K k => ⟨_, rfl, k⟩
    · have e : decide (((p.1 : Nat) : Int) = (v : Nat)) = decide (p.1 = v) := decide_eq_decide.mpr Int.ofNat_inj
      refine ⟨_, rfl, rfl, w_if1 (w_and (w_cmp ⟨_, rfl, _, rfl, eqW_i (br' e (br (fun c => ?_) fun c => ?_))⟩))⟩
      · refine w_not ⟨g.o__law_so_at, _, rfl, _, rfl, 1, _, rfl, rfl, _, rfl, callF g.f__law_so_at ⟨n, ps, P, P', a, p.2, pl, hi, rfl, _, rfl, cs (fun c' => ?_) fun c' => ?_⟩⟩
        · exact ⟨_, rfl, hA, k1 (by rw [c, c']; rfl)⟩
        · exact k2 (by rw [c, c']; rfl)
      · exact br_f ⟨fun e => (nomatch e), fun _ => k2 (by rw [c]; rfl)⟩
    · refine ⟨_, .inl ⟨_, rfl, rfl⟩, eqW_i ?_⟩
      have e := box_len (Mo.mk n ps (kv2 P P')) a v
      show Q (.bl (decide ((((ps.filter fun p => decide (p.1 = v) && !sat (Mo.mk n ps (kv2 P P')) a p.2).map fun p => wV p.2).length : Int) = 0))) h
      rw [show decide ((((ps.filter fun p => decide (p.1 = v) && !sat (Mo.mk n ps (kv2 P P')) a p.2).map fun p => wV p.2).length : Int) = 0) = _ from e]
      exact q
  | con a b =>
    obtain ⟨i, rfl, hi⟩ := lvl (c := max a.ht b.ht) (j := j) hj
    refine ⟨_, rfl, 0, _, rfl, rfl, str_eq (b := false) (by decide +kernel) (br_f ⟨_, rfl, 0, _, rfl, rfl, str_eq (b := false) (by decide +kernel) (br_f ?_)⟩)⟩
    refine ⟨_, rfl, 0, _, rfl, rfl, str_eq (b := false) (by decide +kernel) (br_f ?_)⟩
    refine w_nil (w_par ⟨g.o__law_so_at, _, rfl, _, rfl, 1, _, rfl, rfl, _, rfl, callF g.f__law_so_at ⟨n, ps, P, P', a, v, pl, by omega, rfl, g.o__law_so_at, _, rfl, _, rfl, 2, _, rfl, rfl, _, rfl, callF g.f__law_so_at ⟨n, ps, P, P', b, v, pl, by omega, rfl, ?_⟩⟩⟩)
    refine w_ret (w_ife (w_cmp ⟨_, rfl, 0, _, rfl, rfl, str_eq (b := true) (by decide +kernel) (br_t ?_)⟩))
    have e : sat (Mo.mk n ps (kv2 P P')) (.con a b) v = (sat (Mo.mk n ps (kv2 P P')) a v && sat (Mo.mk n ps (kv2 P P')) b v) := rfl
    rw [e] at q
    refine ⟨_, rfl, br (fun c => ?_) fun c => ?_⟩
    · rw [c, Bool.true_and] at q; exact ⟨_, rfl, q⟩
    · rw [c, Bool.false_and] at q; exact q
  | dis a b =>
    obtain ⟨i, rfl, hi⟩ := lvl (c := max a.ht b.ht) (j := j) hj
    refine ⟨_, rfl, 0, _, rfl, rfl, str_eq (b := false) (by decide +kernel) (br_f ⟨_, rfl, 0, _, rfl, rfl, str_eq (b := false) (by decide +kernel) (br_f ?_)⟩)⟩
    refine ⟨_, rfl, 0, _, rfl, rfl, str_eq (b := false) (by decide +kernel) (br_f ?_)⟩
    refine w_nil (w_par ⟨g.o__law_so_at, _, rfl, _, rfl, 1, _, rfl, rfl, _, rfl, callF g.f__law_so_at ⟨n, ps, P, P', a, v, pl, by omega, rfl, g.o__law_so_at, _, rfl, _, rfl, 2, _, rfl, rfl, _, rfl, callF g.f__law_so_at ⟨n, ps, P, P', b, v, pl, by omega, rfl, ?_⟩⟩⟩)
    refine w_ret (w_ife (w_cmp ⟨_, rfl, 0, _, rfl, rfl, str_eq (b := false) (by decide +kernel) (br_f (w_ife (w_cmp ⟨_, rfl, 0, _, rfl, rfl, str_eq (b := true) (by decide +kernel) (br_t ?_)⟩)))⟩))
    have e : sat (Mo.mk n ps (kv2 P P')) (.dis a b) v = (sat (Mo.mk n ps (kv2 P P')) a v || sat (Mo.mk n ps (kv2 P P')) b v) := rfl
    rw [e] at q
    refine ⟨_, rfl, br (fun c => ?_) fun c => ?_⟩
    · rw [c, Bool.true_or] at q; exact q
    · rw [c, Bool.false_or] at q; exact ⟨_, rfl, q⟩
  | imp a b =>
    obtain ⟨i, rfl, hi⟩ := lvl (c := max a.ht b.ht) (j := j) hj
    refine ⟨_, rfl, 0, _, rfl, rfl, str_eq (b := false) (by decide +kernel) (br_f ⟨_, rfl, 0, _, rfl, rfl, str_eq (b := false) (by decide +kernel) (br_f ?_)⟩)⟩
    refine ⟨_, rfl, 0, _, rfl, rfl, str_eq (b := false) (by decide +kernel) (br_f ?_)⟩
    refine w_nil (w_par ⟨g.o__law_so_at, _, rfl, _, rfl, 1, _, rfl, rfl, _, rfl, callF g.f__law_so_at ⟨n, ps, P, P', a, v, pl, by omega, rfl, g.o__law_so_at, _, rfl, _, rfl, 2, _, rfl, rfl, _, rfl, callF g.f__law_so_at ⟨n, ps, P, P', b, v, pl, by omega, rfl, ?_⟩⟩⟩)
    refine w_ret (w_ife (w_cmp ⟨_, rfl, 0, _, rfl, rfl, str_eq (b := false) (by decide +kernel) (br_f (w_ife (w_cmp ⟨_, rfl, 0, _, rfl, rfl, str_eq (b := false) (by decide +kernel) (br_f ?_)⟩)))⟩))
    have e : sat (Mo.mk n ps (kv2 P P')) (.imp a b) v = (!sat (Mo.mk n ps (kv2 P P')) a v || sat (Mo.mk n ps (kv2 P P')) b v) := rfl
    rw [e] at q
    refine ⟨_, rfl, br (fun c => ?_) fun c => ?_⟩
    · rw [c, Bool.or_true] at q; exact q
    · rw [c, Bool.or_false] at q; exact ⟨_, rfl, _, rfl, q⟩
end
end K94
namespace K94
open PySem L2 Vc
/-! Y94: the law. -/
theorem eqW_bb {x y x' y' : Bool} {h : CH} {Q : Bool → Prop} (e1 : x = x') (e2 : y = y') (q : Q true) : eqW (.lst [.bl x, .bl y]) (.lst [.bl x', .bl y']) h Q := by
  subst e1 e2
  have : eqW (.lst ([x, y].map fun b : Bool => .bl b)) (.lst ([x, y].map fun b : Bool => .bl b)) h Q := eqW_en (a := [x, y]) (b := [x, y]) en_b.lst (by decide) (by rw [decide_eq_true rfl]; exact q)
  exact this
theorem eqW_b {x y : Bool} {h : CH} {Q : Bool → Prop} (e : x = y) (q : Q true) : eqW (.bl x) (.bl y) h Q := by
  subst e
  exact eqW_en (a := x) (b := x) en_b (by decide) (by rw [decide_eq_true rfl]; exact q)
theorem eqW_ie {x y : Int} {h : CH} {Q : Bool → Prop} (e : x = y) (q : Q true) : eqW (.int x) (.int y) h Q := by
  subst e
  exact eqW_i (by rw [decide_eq_true rfl]; exact q)
theorem eqW_fr {n : Nat} {ps : List (Nat × Nat)} {h : CH} {Q : Bool → Prop} (q : Q true) : eqW (frV n ps) (frV n ps) h Q :=
  eqW_en (a := (n, ps)) (b := (n, ps)) (en_w.pair en_p.tups) (by decide) (by rw [decide_eq_true rfl]; exact q)
theorem eqW_d {vs : List (Str × List Nat)} (nd : (vs.map (·.1)).Nodup) {h : CH} {Q : Bool → Prop} (q : Q true) : eqW (dV vs) (dV vs) h Q := by
  refine ⟨⟨rfl, fun p hp => ?_⟩, q⟩
  obtain ⟨x, hx, rfl⟩ := List.mem_map.mp hp
  exact ⟨lV x.2, _, _, by rw [vget_dL, look_of nd hx]; rfl, en_w.lst.dat x.2, en_w.lst.dat x.2, en_w.lst.sh (by decide) x.2, en_w.lst.sh (by decide) x.2, by rw [en_w.lst.eqv]; exact decide_eq_true rfl⟩
theorem vs_nzs {n : Nat} {kvs : List (Str × List Nat)} (hn : n ≤ 60) (o : VsOk n kvs) : VsOk n (nzs kvs) where
  nd := by
    have e : (nzs kvs).map (·.1) = (kvs.filter fun p => !decide (p.2 = [])).map (·.1) := by unfold nzs; rw [List.map_map]; rfl
    rw [e]
    exact o.nd.sublist (List.filter_sublist.map _)
  lt := fun p hp w hw => by
    obtain ⟨r, hr, rfl⟩ :=
          List.mem_map.mp hp
    exact o.lt r (List.mem_filter.mp hr).1 w (of_decide_eq_true (List.mem_filter.mp hw).2)
  ll := fun p hp => by
    obtain ⟨r, hr, rfl⟩ :=
          List.mem_map.mp hp
    exact Nat.le_trans (sd_len (o.lt r (List.mem_filter.mp hr).1)) hn
  kl := by
    unfold nzs
    rw [List.length_map]
    exact Nat.le_trans (List.length_filter_le ..) o.kl
theorem vs_part {M : Mo} (o : M.Cn) (ws : List Nat) : VsOk ws.length (partV M ws) := by
  refine ⟨?_, fun p hp w hw => ?_, fun p hp => ?_, ?_⟩
  · unfold partV; rw [List.map_map]; exact o.vk.nd
  · obtain ⟨r, hr, rfl⟩ := List.mem_map.mp hp
    obtain ⟨v, hv, rfl⟩ := List.mem_map.mp hw
    exact numb_lt (of_decide_eq_true (List.mem_filter.mp hv).2)
  · obtain ⟨r, hr, rfl⟩ := List.mem_map.mp hp
    have := o.l9 r hr
    rw [List.length_map]
    have := List.length_filter_le (fun v => decide (v ∈ ws)) r.2
    omega
  · unfold partV; rw [List.length_map]; exact o.vk.kl
theorem vs_kv {n : Nat} {P Q : List Nat} (hn : n ≤ 60) (rp : Rw n P) (rq : Rw n Q) : VsOk n (kv2 P Q) where
  nd := show [("p" : Str), "q"].Nodup by decide +kernel
  lt := fun p hp w hw => by
    unfold kv2 at hp
    simp only [List.mem_cons, List.not_mem_nil, or_false] at hp
    rcases hp with rfl | rfl
    · exact rp.lt w hw
    · exact rq.lt w hw
  ll := fun p hp => by
    unfold kv2 at hp
    simp only [List.mem_cons, List.not_mem_nil, or_false] at hp
    rcases hp with rfl | rfl
    · exact Nat.le_trans (nd_lt (rp.so.imp fun h => by omega) rp.lt) hn
    · exact Nat.le_trans (nd_lt (rq.so.imp fun h => by omega) rq.lt) hn
  kl := by show 2 ≤ 60; decide
theorem look_p {P Q : List Nat} : look (kv2 P Q) "p" = some P := by unfold look kv2; simp
theorem look_q {P Q : List Nat} : look (kv2 P Q) "q" = some Q := by unfold look kv2; rw [List.find?_cons, decide_eq_false pq_ne]; simp
theorem round_never {A B : Mo} {v w : Nat} {r : Int} (n : Never A B v w) (h : RoundIs A B v w r) : r = -1 := by
  rcases h with ⟨e, _⟩ | ⟨k, _, _, i⟩
  · exact e
  · have := n k; rw [i.1] at this; cases this
theorem round_uniq {A B A' B' : Mo} {v w v' w' : Nat} (e : ∀ k, D A' B' k v' w' = D A B k v w) {r r' : Int} (h : RoundIs A B v w r) (h' : RoundIs A' B' v' w' r') : r = r' := by
  rcases h with ⟨e1, n⟩ | ⟨k, e1, _, i⟩
  · rcases h' with ⟨e2, _⟩ | ⟨k, _, _, i⟩
    · rw [e1, e2]
    · have := n k; rw [← e k, i.1] at this; cases this
  · rcases h' with ⟨_, n⟩ | ⟨k', e2, _, i'⟩
    · have := n k; rw [e k, i.1] at this; cases this
    · have i2 : IsR A B v w k' := ⟨by rw [← e]; exact i'.1, fun j hj => by rw [← e]; exact i'.2 j hj⟩
      rw [e1, e2, isR_uniq i i2]
theorem pool_set {a p : Addr} {h : CH} {x : Val} (n : p ≠ a) (pa : PoolAt a h) : PoolAt a (h.set p x) := by
  obtain ⟨ns, i0, c, k, s, h0, ea⟩ := pa
  exact ⟨ns, i0, c, k, s, h0, (CH.set_ne (Ne.symm n)).trans ea⟩
theorem pool_sub {a p : Addr} {h : CH} (n : p ≠ a) (pa : PoolAt a h) : PoolAt a (h.sub fun b => decide (b = p)) := by
  obtain ⟨ns, i0, c, k, s, h0, ea⟩ := pa
  refine ⟨ns, i0, c, k, s, h0, ?_⟩
  unfold CH.sub
  rw [if_neg (by simpa using Ne.symm n)]
  exact ea
theorem pool_ext {a : Addr} {h h' : CH} (e : Ext h h') (pa : PoolAt a h) : PoolAt a h' := by
  obtain ⟨ns, i0, c, k, s, h0, ea⟩ := pa
  exact ⟨ns, i0, c, k, s, h0, (e a (by rw [ea]; intro z; cases z)).trans ea⟩
section
variable {Γ : Fns} {i j : Nat}
/-- a drawn model made -/
theorem wp_first_made {ρ : Vc.Env} {h : CH} {Q : VP} {X : XP} {k n : Nat} {ps : List (Nat × Nat)} {P P' : List Nat} (g : Gm Γ (i + 2)) (hi : 2 ≤ i) (r : RawOk n ps P P') (hk : ρ[k]? = some (some (rawV n ps P P'))) (q : Q (moF n ps P P').v h) :
    wpE Γ (.mk "Model" (.cons (.tup (.cons (.ix (.var k) (.cst (.int 0))) (.cons (.blt .tuple (.cons (.blt .sorted (.cons (.ix (.var k) (.cst (.int 1))) .nil)) .nil)) .nil))) (.cons (.ix (.var k) (.cst (.int 2))) .nil))) ρ h Q X := by
  refine ⟨g.oc_Model (by omega), _, hk, 0, _, rfl, rfl, _, hk, 1, _, rfl, rfl, _, rfl, .inr (.inl ⟨_, pairsOf_p _, fun qs p s => ?_⟩)⟩
  obtain ⟨m, pm, rfl⟩ := perm_castP p
  have e : m = ps := sorted_eq pm (ltN_of s ((pm.nodup_iff).mpr (so_nodup r.so))) r.so
  subst e
  rw [map_pV]
  have a1 := r.n1
  exact ⟨_, rfl, sl9 rfl, _, hk, 2, _, rfl, rfl, mkM g hi (cn_F r).fr (vs_kv (by omega) (raw_rp r) (raw_rq r)) q⟩
theorem law_B (g : Gm Γ (i + 2)) (hi : 448 ≤ i) {Q : VP} {Xp : XP} {S : Val} {a : Addr} {n1 n2 v w : Nat} {ps1 ps2 : List (Nat × Nat)} {P1 Q1 P2 Q2 : List Nat} {hb : CH} (p4 : PoolAt a hb) (r1 : RawOk n1 ps1 P1 Q1) (r2 : RawOk n2 ps2 P2 Q2) (hv : v < n1) (hw : w < n2)
    (K : ∀ u4 u5 h', PoolAt a h' → wpSs Γ (m_law.drop 9) (bodyPo Q Xp) [some S, some (.ref a), some (wV (1 + n1)), some (.lst ((wPs n1 ps1 ps2 v w).map pV)), u4, u5, some (moW n1 n2 ps1 ps2 P1 Q1 P2 Q2 v w).v, none, none, some (rawV n1 ps1 P1 Q1), some (rawV n2 ps2 P2 Q2), some (wV v), some (wV w), some (moF n1 ps1 P1 Q1).v, some (moF n2 ps2 P2 Q2).v, none, none, none, none, none, none, none] h') :
    wpSs Γ (m_law.drop 5) (bodyPo Q Xp) [some S, some (.ref a), some (wV (1 + n1)), some (.lst ((wPs n1 ps1 ps2 v w).map pV)), none, none, none, none, none, some (rawV n1 ps1 P1 Q1), some (rawV n2 ps2 P2 Q2), some (wV v), some (wV w), none, none, none, none, none, none, none, none, none] hb := by
  have a1 := r1.n1
  have a2 := r2.n1
  have b1 := r1.n0
  have b2 := r2.n0
  have l1 := raw_len r1
  have l2 := raw_len r2
  refine w_set fun p hp => ?_
  have pn : p ≠ a := fun e => by
    subst e
    obtain ⟨_, _, _, _, _, _, ea⟩ := p4
    rw [ea] at hp
    cases hp
  have ix2 : ∀ {n : Nat} {ps : List (Nat × Nat)} {P P' l : List Nat} {x : Str} {k : Nat} {ρ : Vc.Env} {h : CH} {K : VP} {X : XP}, ρ[k]? = some (some (rawV n ps P P')) → ρ[5]? = some (some (.str x)) → look (kv2 P P') x = some l → K (lV l) h → wpE Γ (.ix (.ix (.var k) (.cst (.int 2))) (.var 5)) ρ h K X := fun {n ps P P' l x k ρ h K X} hk h5 lk kk =>
    ⟨_, hk, 2, _, rfl, rfl, _, h5, .inr (.inl ⟨_, .inr x, _, rfl, rfl, by rw [vget_dL, lk]; rfl, kk⟩)⟩
  have row : ∀ {x : Str} {R1 R2 : List Nat} {ρ : Vc.Env} {h : CH} {K : VP} {X : XP}, (∀ w ∈ R1, w < n1) → R1.Nodup → R2.Nodup → (∀ w ∈ R2, w < n2) → ρ[9]? = some (some (rawV n1 ps1 P1 Q1)) → ρ[10]? = some (some (rawV n2 ps2 P2 Q2)) → ρ[5]? = some (some (.str x)) → look (kv2 P1 Q1) x = some R1 → look (kv2 P2 Q2) x = some R2 →
      (∀ y, ((wipe [20] ρ).set 20 (some y))[20]? = some (some y)) → (∀ y, ((wipe [20] ρ).set 20 (some y))[2]? = some (some (wV (1 + n1)))) → K (lV (wRow n1 R1 R2)) h →
      wpE Γ (.bin .Add (.lc false [20] (.nm 20) (.sq (.ix (.ix (.var 9) (.cst (.int 2))) (.var 5))) .nil (.el (.bin .Add (.var 20) (.cst (.int 1))))) (.lc false [20] (.nm 20) (.sq (.ix (.ix (.var 10) (.cst (.int 2))) (.var 5))) .nil (.el (.bin .Add (.var 20) (.var 2))))) ρ h K X := by
    intro x R1 R2 ρ h K X lt1 nd1 nd2 lt2 e9 e10 e5 k1 k2 r20 r2' kk
    have m1 := nd_lt nd1 lt1
    have m2 := nd_lt nd2 lt2
    refine w_bin (wp_lc R1 wV (fun _ => true) (fun w => wV (w + 1)) (by omega) ?_ (fun p hp D hD A' K hA q1 q2 => ?_) ?_)
    · exact fun K k => ix2 e9 e5 k1 k
    · exact ⟨fun _ => ⟨_, r20 _, hA, q1 rfl⟩, fun e => nomatch e⟩
    refine wp_lc R2 wV (fun _ => true) (fun w => wV (w + (1 + n1))) (by omega) ?_ (fun p hp D hD A' K hA q1 q2 => ?_) ⟨_, _, rfl, rfl, ?_, ?_⟩
    · exact fun K k => ix2 e10 e5 k2 k
    · exact ⟨fun _ => ⟨_, r20 _, _, r2' _, hA, q1 rfl⟩, fun e => nomatch e⟩
    · refine szl ?_
      rw [List.length_map, List.length_map]
      have := List.length_filter_le (fun _ : Nat => true) R1
      have := List.length_filter_le (fun _ : Nat => true) R2
      omega
    · have e : (R1.filter fun _ => true).map (fun w => wV (w + 1)) ++ (R2.filter fun _ => true).map (fun w => wV (w + (1 + n1))) = (wRow n1 R1 R2).map wV := by
        unfold wRow
        rw [List.map_append, List.map_map, List.map_map, List.filter_eq_self.mpr (fun _ _ => rfl), List.filter_eq_self.mpr (fun _ _ => rfl)]
        rfl
      rw [e]
      exact kk
  have rp1 := raw_rp r1
  have rq1 := raw_rq r1
  have rp2 := raw_rp r2
  have rq2 := raw_rq r2
  have nd_ : ∀ {l : List Nat}, l.Pairwise (· < ·) → l.Nodup := fun s => s.imp fun h => by omega
  refine w_for (w_sq ⟨sl9 rfl, trivial, w_nm (w_sub (row (x := "p") rp1.lt (nd_ rp1.so) (nd_ rp2.so) rp2.lt rfl rfl rfl look_p look_p (fun _ => rfl) (fun _ => rfl) ?_))⟩)
  refine ⟨_, rfl, _, rfl, .inr (.inl ⟨p, _, .inr "p", rfl, CH.set_same, rfl, szlt (by decide), trivial, w_nm (w_sub (row (x := "q") rq1.lt (nd_ rq1.so) (nd_ rq2.so) rq2.lt rfl rfl rfl look_q look_q (fun _ => rfl) (fun _ => rfl) ?_))⟩)⟩
  refine ⟨_, rfl, _, rfl, .inr (.inl ⟨p, _, .inr "q", rfl, CH.set_same, rfl, szlt (show (1 : Nat) < 16777216 by decide), trivial, ?_⟩)⟩
  have ev : vput (vput [] (.inr "p") (lV (wRow n1 P1 P2))) (.inr "q") (lV (wRow n1 Q1 Q2)) = dL (kv2 (wRow n1 P1 P2) (wRow n1 Q1 Q2)) := by
    have h1 : vput ([] : List (Key × Val)) (.inr "p") (lV (wRow n1 P1 P2)) = dL [("p", wRow n1 P1 P2)] := rfl
    rw [h1]
    exact vput_dL (show ("q" : Str) ∉ [("p" : Str)] by decide +kernel)
  rw [ev, CH.set_set, CH.set_set]
  have cw := cn_W r1 r2 hv hw
  have cf1 := cn_F r1
  have cf2 := cn_F r2
  refine w_set ⟨g.oc_Model (by omega), _, rfl, _, rfl, 0, _, rfl, rfl, _, rfl, _, rfl, .inr (.inl ⟨_, pairsOf_p _, fun qs pq sq => ?_⟩)⟩
  obtain ⟨m, pm, rfl⟩ := perm_castP pq
  have em : m = wPs n1 ps1 ps2 v w := sorted_eq pm (ltN_of sq ((pm.nodup_iff).mpr (so_nodup cw.fr.so))) cw.fr.so
  subst em
  rw [map_pV]
  refine ⟨_, rfl, sl9 rfl, _, rfl, fun b => decide (b = p), 1, fun b c => ?_, ?_⟩
  · have e1 := of_decide_eq_true c
    subst e1
    rw [CH.set_same]
    intro x
    cases x
  have ef : fz 1 (hb.set p (.dct (dL (kv2 (wRow n1 P1 P2) (wRow n1 Q1 Q2))))) (fun b => decide (b = p)) (.ref p) = dV (kv2 (wRow n1 P1 P2) (wRow n1 Q1 Q2)) := fz_dct (by simp) CH.set_same
  rw [ef]
  have p5 : PoolAt a ((hb.set p (.dct (dL (kv2 (wRow n1 P1 P2) (wRow n1 Q1 Q2))))).sub fun b => decide (b = p)) := pool_sub pn (pool_set pn p4)
  revert p5
  generalize (hb.set p (.dct (dL (kv2 (wRow n1 P1 P2) (wRow n1 Q1 Q2))))).sub (fun b => decide (b = p)) = h5
  intro p5
  refine mkM g (by omega) (n := 1 + n1 + n2) cw.fr (vs_kv (by omega) (row_W rp1 rp2) (row_W rq1 rq2)) ?_
  exact w_par (wp_first_made g (by omega) r1 rfl (wp_first_made g (by omega) r2 rfl (K _ _ _ p5)))
/-- yields -/
def Yd (Γ : Fns) (e : E) (ρ : Vc.Env) (h : CH) (X : XP) (v : Val) : Prop := ∀ Q' : VP, Q' v h → wpE Γ e ρ h Q' X
section
variable {ρ : Vc.Env} {h : CH} {X : XP} {M : Mo} {b : F}
theorem yd_var {k : Nat} {v : Val} (e : ρ[k]? = some (some v)) : Yd Γ (.var k) ρ h X v := fun _ q => ⟨_, e, q⟩
theorem yd_cst {v : Val} : Yd Γ (.cst v) ρ h X v := fun _ q => q
theorem yd_and {a c : E} {x y : Bool} (ha : Yd Γ a ρ h X (.bl x)) (hc : Yd Γ c ρ h X (.bl y)) : Yd Γ (.and a c) ρ h X (.bl (x && y)) := fun _ q => w_and (ha _ (br (fun e => hc _ (by rw [e, Bool.true_and] at q; exact q)) fun e => (by rw [e, Bool.false_and] at q; exact q)))
theorem yd_or {a c : E} {x y : Bool} (ha : Yd Γ a ρ h X (.bl x)) (hc : Yd Γ c ρ h X (.bl y)) : Yd Γ (.or a c) ρ h X (.bl (x || y)) := fun _ q => w_or (ha _ (br (fun e => (by rw [e, Bool.true_or] at q; exact q)) fun e => hc _ (by rw [e, Bool.false_or] at q; exact q)))
theorem yd_neb {a c : E} {x y : Bool} (ha : Yd Γ a ρ h X (.bl x)) (hc : Yd Γ c ρ h X (.bl y)) (e : x = y) : Yd Γ (.cmp .NotEq a c) ρ h X (.bl false) := fun _ q => w_cmp (ha _ (hc _ (eqW_b e q)))
theorem yd_nei {a c : E} {x y : Int} (ha : Yd Γ a ρ h X (.int x)) (hc : Yd Γ c ρ h X (.int y)) (e : x = y) : Yd Γ (.cmp .NotEq a c) ρ h X (.bl false) := fun _ q => w_cmp (ha _ (hc _ (eqW_ie e q)))
theorem yd_ix {a : E} {n : Int} {xs : List Val} {v : Val} (ha : Yd Γ a ρ h X (.lst xs)) (e : atI xs n = some v) : Yd Γ (.ix a (.cst (.int n))) ρ h X v := fun _ q => w_ix (ha _ ⟨n, _, rfl, e, q⟩)
theorem yd_ixt {a : E} {n : Int} {xs : List Val} {v : Val} (ha : Yd Γ a ρ h X (.tup xs)) (e : atI xs n = some v) : Yd Γ (.ix a (.cst (.int n))) ρ h X v := fun _ q => w_ix (ha _ ⟨n, _, rfl, e, q⟩)
theorem yd_add {a c : E} {x y : Nat} (ha : Yd Γ a ρ h X (wV x)) (hc : Yd Γ c ρ h X (wV y)) : Yd Γ (.bin .Add a c) ρ h X (wV (x + y)) := fun _ q => w_bin (ha _ (hc _ q))
theorem yd_tup2 {a c : E} {x y : Val} (ha : Yd Γ a ρ h X x) (hc : Yd Γ c ρ h X y) : Yd Γ (.tup (.cons a (.cons c .nil))) ρ h X (.tup [x, y]) := fun _ q => w_tup (w_es (ha _ (w_es (hc _ (w_es0 ⟨sl9 rfl, q⟩)))))
theorem yd_truth {e e' : E} (g : Gm Γ (i + 2)) (o : M.Cn) (hb : b.ht + 3 ≤ i + 1) (he : Yd Γ e ρ h X M.v) (he' : Yd Γ e' ρ h X b.v) : Yd Γ (.call "truth" (.cons e (.cons e' .nil))) ρ h X (lV (ev M b)) := fun _ q => w_call g.o_truth (w_es (he _ (w_es (he' _ (w_es0 (callF g.f_truth ⟨M, b, o, hb, rfl, q⟩))))))
theorem yd_in {e0 e e' : E} {x : Nat} (g : Gm Γ (i + 2)) (o : M.Cn) (hx : x < M.n) (hb : b.ht + 3 ≤ i + 1) (h0 : Yd Γ e0 ρ h X (wV x)) (he : Yd Γ e ρ h X M.v) (he' : Yd Γ e' ρ h X b.v) : Yd Γ (.cmp .In e0 (.call "truth" (.cons e (.cons e' .nil)))) ρ h X (.bl (sat M b x)) := fun Q' q => by
  refine w_cmp (h0 _ (yd_truth g o hb he he' _ (inP_w ?_)))
  have e : decide (x ∈ ev M b) = sat M b x := by
    rw [Bool.eq_iff_iff, decide_eq_true_eq, mem_ev o.toOk]
    exact ⟨fun h => h.2, fun h => ⟨hx, h⟩⟩
  show Q' (.bl (decide (x ∈ ev M b))) h
  rw [e]
  exact q
theorem yd_so {e1 e2 e3 : E} {n x : Nat} {ps : List (Nat × Nat)} {P P' : List Nat} (g : Gm Γ (i + 2)) (r : RawOk n ps P P') (hb : b.ht ≤ i + 1) (h1 : Yd Γ e1 ρ h X (rawV n ps P P')) (h2 : Yd Γ e2 ρ h X b.v) (h3 : Yd Γ e3 ρ h X (wV x)) : Yd Γ (.call "_law_so_at" (.cons e1 (.cons e2 (.cons e3 .nil)))) ρ h X (.bl (sat (moF n ps P P') b x)) := fun Q' q => by
  refine w_call g.o__law_so_at (w_es (h1 _ (w_es (h2 _ (w_es (h3 _ (w_es0 (callF g.f__law_so_at ⟨n, ps, P, P', b, x, by have := raw_len r; omega, hb, rfl, ?_⟩))))))))
  rw [raw_sat r]
  exact q
theorem yd_dia {e : E} (g : Gm Γ (i + 2)) (hi : 1 ≤ i) (he : Yd Γ e ρ h X b.v) : Yd Γ (.call "dia" (.cons e .nil)) ρ h X (di b).v := fun _ q => w_call g.o_dia (w_es (he _ (w_es0 (callF g.f_dia ⟨by omega, b, rfl, q⟩))))
theorem yd_box {e : E} (he : Yd Γ e ρ h X b.v) : Yd Γ (.tup (.cons (.cst (.str "box")) (.cons e .nil))) ρ h X (F.box b).v := yd_tup2 yd_cst he
theorem yd_round {e1 e2 e3 e4 : E} {A B : Mo} {x y : Nat} (g : Gm Γ (i + 2)) (hi : 5 ≤ i) (oa : A.Cn) (ob : B.Cn) (hx : x < A.n) (hy : y < B.n) (h1 : Yd Γ e1 ρ h X A.v) (h2 : Yd Γ e2 ρ h X (wV x)) (h3 : Yd Γ e3 ρ h X B.v) (h4 : Yd Γ e4 ρ h X (wV y)) {Q : VP} (q : ∀ r, RoundIs A B x y r → Q (.int r) h) :
    wpE Γ (.call "round_of" (.cons e1 (.cons e2 (.cons e3 (.cons e4 .nil))))) ρ h Q X := w_call g.o_round_of (w_es (h1 _ (w_es (h2 _ (w_es (h3 _ (w_es (h4 _ (w_es0 (callF g.f_round_of ⟨by omega, A, B, x, y, oa, ob, hx, hy, rfl, q⟩))))))))))
theorem yd_roundE {e1 e2 e3 e4 : E} {A B : Mo} {x y : Nat} {r0 : Int} (g : Gm Γ (i + 2)) (hi : 5 ≤ i) (oa : A.Cn) (ob : B.Cn) (hx : x < A.n) (hy : y < B.n) (h1 : Yd Γ e1 ρ h X A.v) (h2 : Yd Γ e2 ρ h X (wV x)) (h3 : Yd Γ e3 ρ h X B.v) (h4 : Yd Γ e4 ρ h X (wV y)) (q : ∀ r, RoundIs A B x y r → r = r0) :
    Yd Γ (.call "round_of" (.cons e1 (.cons e2 (.cons e3 (.cons e4 .nil))))) ρ h X (.int r0) := fun Q' q' => yd_round g hi oa ob hx hy h1 h2 h3 h4 fun r hr => by rw [q r hr]; exact q'
end
theorem w_itf {Q : VP} {Xp : XP} {D : Po} {ρ : Vc.Env} {h : CH} {c : E} {a r : List S} (hc : Yd Γ c ρ h (fun C h' => D.ex C ρ h') (.bl false)) (q : wpSs Γ r D ρ h) : wpSs Γ (.ite c a [] :: r) D ρ h := w_ite (hc _ (br_f (w_nil q)))
theorem law_loop (g : Gm Γ (i + 2)) (hi : 448 ≤ i) {S : Val} {a : Addr} {n1 n2 v w : Nat} {ps1 ps2 : List (Nat × Nat)} {P1 Q1 P2 Q2 : List Nat} (r1 : RawOk n1 ps1 P1 Q1) (r2 : RawOk n2 ps2 P2 Q2) (hv : v < n1) (hw : w < n2) {D : Po} {u4 u5 u7 u15 u16 : Option Val} {h : CH} (pa : PoolAt a h)
    (K : ∀ u15 u16 h', PoolAt a h' → D.nx [some S, some (.ref a), some (wV (1 + n1)), some (.lst ((wPs n1 ps1 ps2 v w).map pV)), u4, u5, some (moW n1 n2 ps1 ps2 P1 Q1 P2 Q2 v w).v, u7, none, some (rawV n1 ps1 P1 Q1), some (rawV n2 ps2 P2 Q2), some (wV v), some (wV w), some (moF n1 ps1 P1 Q1).v, some (moF n2 ps2 P2 Q2).v, u15, u16, none, none, none, none, none] h') :
    wpSs Γ [(.set 15 (.call "_law_tiny" (.cons (.var 1) (.cons (.dsp (.cons (.cst (.str "p")) (.cons (.cst (.str "q")) .nil))) (.cons (.cst (.int 2)) (.cons (.cst (.bl false)) .nil)))))), (.set 16 (.dsp (.cons (.call "_law_so_at" (.cons (.var 9) (.cons (.var 15) (.cons (.var 11) .nil)))) (.cons (.call "_law_so_at" (.cons (.var 10) (.cons (.var 15) (.cons (.var 12) .nil)))) .nil)))), (.ite (.cmp .NotEq (.dsp (.cons (.cmp .In (.var 11) (.call "truth" (.cons (.var 13) (.cons (.var 15) .nil)))) (.cons (.cmp .In (.var 12) (.call "truth" (.cons (.var 14) (.cons (.var 15) .nil)))) .nil))) (.var 16)) [(.ret (.cst (.bl false)))] []), (.ite (.or (.cmp .NotEq (.cmp .In (.cst (.int 0)) (.call "truth" (.cons (.var 6) (.cons (.tup (.cons (.cst (.str "box")) (.cons (.var 15) .nil))) .nil)))) (.and (.ix (.var 16) (.cst (.int 0))) (.ix (.var 16) (.cst (.int 1))))) (.cmp .NotEq (.cmp .In (.cst (.int 0)) (.call "truth" (.cons (.var 6) (.cons (.call "dia" (.cons (.var 15) .nil)) .nil)))) (.or (.ix (.var 16) (.cst (.int 0))) (.ix (.var 16) (.cst (.int 1)))))) [(.ret (.cst (.bl false)))] []), (.ite (.or (.cmp .NotEq (.cmp .In (.bin .Add (.var 11) (.cst (.int 1))) (.call "truth" (.cons (.var 6) (.cons (.var 15) .nil)))) (.ix (.var 16) (.cst (.int 0)))) (.cmp .NotEq (.cmp .In (.bin .Add (.var 12) (.var 2)) (.call "truth" (.cons (.var 6) (.cons (.var 15) .nil)))) (.ix (.var 16) (.cst (.int 1))))) [(.ret (.cst (.bl false)))] [])] D [some S, some (.ref a), some (wV (1 + n1)), some (.lst ((wPs n1 ps1 ps2 v w).map pV)), u4, u5, some (moW n1 n2 ps1 ps2 P1 Q1 P2 Q2 v w).v, u7, none, some (rawV n1 ps1 P1 Q1), some (rawV n2 ps2 P2 Q2), some (wV v), some (wV w), some (moF n1 ps1 P1 Q1).v, some (moF n2 ps2 P2 Q2).v, u15, u16, none, none, none, none, none] h := by
  have a1 := r1.n1
  have a2 := r2.n1
  have cw := cn_W r1 r2 hv hw
  have cf1 := cn_F r1
  have cf2 := cn_F r2
  refine w_set ⟨g.o__law_tiny, _, rfl, sl9 rfl, callF g.f__law_tiny ⟨a, 2, by omega, pa, rfl, fun h2 b hb s => ?_⟩⟩
  refine w_set (w_dsp (w_es (yd_so (b := b) (x := v) g r1 (by omega) (yd_var rfl) (yd_var rfl) (yd_var rfl) _ (w_es (yd_so (b := b) (x := w) g r2 (by omega) (yd_var rfl) (yd_var rfl) (yd_var rfl) _ (w_es0 ⟨sl9 rfl, ?_⟩))))))
  refine w_itf (Q := fun _ _ => True) (Xp := noX) (fun Q' q' => w_cmp (w_dsp (w_es (yd_in (b := b) (x := v) g cf1 hv (by omega) (yd_var rfl) (yd_var rfl) (yd_var rfl) _ (w_es (yd_in (b := b) (x := w) g cf2 hw (by omega) (yd_var rfl) (yd_var rfl) (yd_var rfl) _ (w_es0 ⟨sl9 rfl, _, rfl, eqW_bb rfl rfl q'⟩))))))) ?_
  have d0 : (0 : Nat) < (moW n1 n2 ps1 ps2 P1 Q1 P2 Q2 v w).n := by show 0 < 1 + n1 + n2; omega
  have dv : v + 1 < (moW n1 n2 ps1 ps2 P1 Q1 P2 Q2 v w).n := by show v + 1 < 1 + n1 + n2; omega
  have dw : w + (1 + n1) < (moW n1 n2 ps1 ps2 P1 Q1 P2 Q2 v w).n := by show w + (1 + n1) < 1 + n1 + n2; omega
  refine w_itf (Q := fun _ _ => True) (Xp := noX) (yd_or (x := false) (y := false) (yd_neb (yd_in (b := .box b) (x := 0) g cw d0 (by show b.ht + 1 + 3 ≤ _; omega) yd_cst (yd_var rfl) (yd_box (yd_var rfl))) (yd_and (yd_ix (yd_var rfl) rfl) (yd_ix (yd_var rfl) rfl)) (box_W r1 r2 hv hw b))
    (yd_neb (yd_in (b := di b) (x := 0) g cw d0 (by show max (max b.ht 0 + 1 + 1) 0 + 1 + 3 ≤ _; omega) yd_cst (yd_var rfl) (yd_dia g (by omega) (yd_var rfl))) (yd_or (yd_ix (yd_var rfl) rfl) (yd_ix (yd_var rfl) rfl)) (dia_W r1 r2 hv hw b))) ?_
  refine w_itf (Q := fun _ _ => True) (Xp := noX) (yd_or (x := false) (y := false) (yd_neb (yd_in (b := b) (x := v + 1) g cw dv (by omega) (yd_add (y := 1) (yd_var rfl) yd_cst) (yd_var rfl) (yd_var rfl)) (yd_ix (yd_var rfl) rfl) (sat_emb (emb1 r1 r2) b v hv))
    (yd_neb (yd_in (b := b) (x := w + (1 + n1)) g cw dw (by omega) (yd_add (yd_var rfl) (yd_var rfl)) (yd_var rfl) (yd_var rfl)) (yd_ix (yd_var rfl) rfl) (sat_emb (emb2 r1 r2) b w hw))) ?_
  exact w_nil (K _ _ _ s.1)
theorem yd_neg {ρ : Vc.Env} {h : CH} {X : XP} {n : Int} : Yd Γ (.neg (.cst (.int n))) ρ h X (.int (-n)) := fun _ q => ⟨n, rfl, q⟩
theorem yd_frame {ρ : Vc.Env} {h : CH} {X : XP} {M : Mo} {e : E} (g : Gm Γ (i + 2)) (he : Yd Γ e ρ h X M.v) : Yd Γ (.met e "frame" .nil) ρ h X (frV M.n M.ps) := fun _ q => wp_frame (M := M) g he q
theorem yd_tw {ρ : Vc.Env} {h : CH} {X : XP} {M : Mo} {e : E} (g : Gm Γ (i + 2)) (o : VsOk M.n M.vs) (he : Yd Γ e ρ h X M.v) : Yd Γ (.frz (.met e "true_worlds" .nil)) ρ h X (dV M.vs) := fun _ q => wp_tw (M := M) g o he q
theorem law_G (g : Gm Γ (i + 2)) (hi : 448 ≤ i) {Q : VP} {Xp : XP} {S : Val} {a : Addr} {n1 n2 v w : Nat} {ps1 ps2 : List (Nat × Nat)} {P1 Q1 P2 Q2 : List Nat} (q : ∀ h', Q (.bl true) h') (r1 : RawOk n1 ps1 P1 Q1) (r2 : RawOk n2 ps2 P2 Q2) (hv : v < n1) (hw : w < n2) {G : Mo} {r0 : Int}
    (u4 u5 u7 u15 u16 u19 : Option Val) (h : CH) : wpSs Γ (m_law.drop 16) (bodyPo Q Xp) [some S, some (.ref a), some (wV (1 + n1)), some (.lst ((wPs n1 ps1 ps2 v w).map pV)), u4, u5, some (moW n1 n2 ps1 ps2 P1 Q1 P2 Q2 v w).v, u7, some (.int r0), some (rawV n1 ps1 P1 Q1), some (rawV n2 ps2 P2 Q2), some (wV v), some (wV w), some (moF n1 ps1 P1 Q1).v, some (moF n2 ps2 P2 Q2).v, u15, u16, some G.v, some G.v, u19, none, none] h := by
  have a1 := r1.n1
  have a2 := r2.n1
  have l1 := raw_len r1
  have l2 := raw_len r2
  have cw := cn_W r1 r2 hv hw
  have cf1 := cn_F r1
  have cf2 := cn_F r2
  have d0 : (0 : Nat) < (moW n1 n2 ps1 ps2 P1 Q1 P2 Q2 v w).n := by show 0 < 1 + n1 + n2; omega
  have dv : v + 1 < (moW n1 n2 ps1 ps2 P1 Q1 P2 Q2 v w).n := by show v + 1 < 1 + n1 + n2; omega
  have dw : w + (1 + n1) < (moW n1 n2 ps1 ps2 P1 Q1 P2 Q2 v w).n := by show w + (1 + n1) < 1 + n1 + n2; omega
  refine w_ret (w_and (w_cmp (w_ix ?_)))
  refine ⟨g.o_disjoint, _, rfl, _, rfl, callF g.f_disjoint ⟨by omega, moF n1 ps1 P1 Q1, moF n2 ps2 P2 Q2, cf1, cf2, by show ps1.length + ps2.length ≤ 60; omega, rfl, fun M hM => ⟨_, _, rfl, ln_frame M, g.ot_Model_frame, callM g.t_Model_frame ⟨M, rfl, 0, _, rfl, rfl, yd_add (yd_ixt (yd_var rfl) rfl) (yd_ixt (yd_var rfl) rfl) _ (eqW_ie ?_ (br_t (w_cmp (w_ix ?_))))⟩⟩⟩⟩
  · rw [hM]; rfl
  · refine ⟨g.o_smallest, _, rfl, callF g.f_smallest ⟨by omega, moW n1 n2 ps1 ps2 P1 Q1 P2 Q2 v w, cw, rfl, fun N h' _ hN => ⟨_, _, rfl, ln_frame N, g.ot_Model_frame, callM g.t_Model_frame ⟨N, rfl, 0, _, rfl, rfl, yd_add (yd_var rfl) (yd_ixt (yd_var rfl) rfl) _ ⟨_, _, rfl, rfl, ?_⟩⟩⟩⟩⟩
    have e : decide ((N.n : Int) ≤ ((1 + n1 + n2 : Nat) : Int)) = true := decide_eq_true (by have : N.n ≤ 1 + n1 + n2 := hN; omega)
    show Q (.bl (decide ((N.n : Int) ≤ ((1 + n1 + n2 : Nat) : Int)))) h'
    rw [e]
    exact q h'
theorem law_F (g : Gm Γ (i + 2)) (hi : 448 ≤ i) {Q : VP} {Xp : XP} {S : Val} {a : Addr} {n1 n2 v w : Nat} {ps1 ps2 : List (Nat × Nat)} {P1 Q1 P2 Q2 : List Nat} (q : ∀ h', Q (.bl true) h') (r1 : RawOk n1 ps1 P1 Q1) (r2 : RawOk n2 ps2 P2 Q2) (hv : v < n1) (hw : w < n2) {G : Mo} {r0 : Int} (hr : RoundIs (moF n1 ps1 P1 Q1) (moF n2 ps2 P2 Q2) v w r0)
    (u4 u5 u7 u15 u16 : Option Val) (h : CH) : wpSs Γ (m_law.drop 14) (bodyPo Q Xp) [some S, some (.ref a), some (wV (1 + n1)), some (.lst ((wPs n1 ps1 ps2 v w).map pV)), u4, u5, some (moW n1 n2 ps1 ps2 P1 Q1 P2 Q2 v w).v, u7, some (.int r0), some (rawV n1 ps1 P1 Q1), some (rawV n2 ps2 P2 Q2), some (wV v), some (wV w), some (moF n1 ps1 P1 Q1).v, some (moF n2 ps2 P2 Q2).v, u15, u16, some G.v, some G.v, none, none, none] h := by
  have a1 := r1.n1
  have a2 := r2.n1
  have l1 := raw_len r1
  have l2 := raw_len r2
  have cw := cn_W r1 r2 hv hw
  have cf1 := cn_F r1
  have cf2 := cn_F r2
  have d0 : (0 : Nat) < (moW n1 n2 ps1 ps2 P1 Q1 P2 Q2 v w).n := by show 0 < 1 + n1 + n2; omega
  have dv : v + 1 < (moW n1 n2 ps1 ps2 P1 Q1 P2 Q2 v w).n := by show v + 1 < 1 + n1 + n2; omega
  have dw : w + (1 + n1) < (moW n1 n2 ps1 ps2 P1 Q1 P2 Q2 v w).n := by show w + (1 + n1) < 1 + n1 + n2; omega
  refine w_itf (Q := fun _ _ => True) (Xp := noX) (yd_or (x := false) (y := false) (yd_nei (yd_var rfl) (yd_roundE (r0 := r0) g (by omega) cw cw dv dw (yd_var rfl) (yd_add (y := 1) (yd_var rfl) yd_cst) (yd_var rfl) (yd_add (yd_var rfl) (yd_var rfl)) fun r hr' => (round_uniq (fun k => D_emb (emb1 r1 r2) (emb2 r1 r2) k v w hv hw) hr hr').symm) rfl)
    (yd_nei (yd_var rfl) (yd_roundE (r0 := r0) g (by omega) cf2 cf1 hw hv (yd_var rfl) (yd_var rfl) (yd_var rfl) (yd_var rfl) fun r hr' => (round_uniq (fun k => D_symm k w v) hr hr').symm) rfl)) ?_
  refine w_ite (w_cmp ⟨_, rfl, _, _, rfl, rfl, br (fun c => ?_) fun c => w_nil (law_G g hi q r1 r2 hv hw u4 u5 u7 u15 u16 none h)⟩)
  rcases hr with ⟨e, _⟩ | ⟨k, e, hk, ir⟩
  · have := of_decide_eq_true c; omega
  · have k16 : k ≤ 16 := Nat.le_trans hk (Nat.mul_le_mul a1 a2)
    refine w_set (w_call g.o_telling ⟨_, rfl, _, rfl, _, rfl, _, rfl, callF g.f_telling ⟨moF n1 ps1 P1 Q1, moF n2 ps2 P2 Q2, v, w, k, cf1, cf2, hv, hw, ir, by omega, rfl, fun b h' _ s1 s2 hb => ?_⟩⟩)
    refine w_itf (Q := fun _ _ => True) (Xp := noX) (yd_or (x := false) (y := false) (fun Q' q' => yd_so (b := b) (x := v) g r1 (by omega) (yd_var rfl) (yd_var rfl) (yd_var rfl) _ ⟨_, _, rfl, rfl, ?_⟩) (yd_or (x := false) (y := false) (fun Q' q' => yd_so (b := b) (x := w) g r2 (by omega) (yd_var rfl) (yd_var rfl) (yd_var rfl) _ ⟨_, _, rfl, rfl, ?_⟩) ?_)) (w_nil (law_G g hi q r1 r2 hv hw u4 u5 u7 u15 u16 _ h'))
    · rw [s1]; exact q'
    · rw [s2]; exact q'
    · intro Q' q'
      refine yd_in (b := .box b) (x := 0) g cw d0 (by show b.ht + 1 + 3 ≤ _; omega) yd_cst (yd_var rfl) (yd_box (yd_var rfl)) Q' ?_
      rw [box_W r1 r2 hv hw b, s2, Bool.and_false]
      exact q'
theorem law_D (g : Gm Γ (i + 2)) (hi : 448 ≤ i) {Q : VP} {Xp : XP} {S : Val} {a : Addr} {n1 n2 v w : Nat} {ps1 ps2 : List (Nat × Nat)} {P1 Q1 P2 Q2 : List Nat} (q : ∀ h', Q (.bl true) h') (r1 : RawOk n1 ps1 P1 Q1) (r2 : RawOk n2 ps2 P2 Q2) (hv : v < n1) (hw : w < n2)
    (u4 u5 u7 u15 u16 : Option Val) (h : CH) : wpSs Γ (m_law.drop 10) (bodyPo Q Xp) [some S, some (.ref a), some (wV (1 + n1)), some (.lst ((wPs n1 ps1 ps2 v w).map pV)), u4, u5, some (moW n1 n2 ps1 ps2 P1 Q1 P2 Q2 v w).v, u7, none, some (rawV n1 ps1 P1 Q1), some (rawV n2 ps2 P2 Q2), some (wV v), some (wV w), some (moF n1 ps1 P1 Q1).v, some (moF n2 ps2 P2 Q2).v, u15, u16, none, none, none, none, none] h := by
  have a1 := r1.n1
  have a2 := r2.n1
  have l1 := raw_len r1
  have l2 := raw_len r2
  have cw := cn_W r1 r2 hv hw
  have cf1 := cn_F r1
  have cf2 := cn_F r2
  have d0 : (0 : Nat) < (moW n1 n2 ps1 ps2 P1 Q1 P2 Q2 v w).n := by show 0 < 1 + n1 + n2; omega
  have dv : v + 1 < (moW n1 n2 ps1 ps2 P1 Q1 P2 Q2 v w).n := by show v + 1 < 1 + n1 + n2; omega
  have dw : w + (1 + n1) < (moW n1 n2 ps1 ps2 P1 Q1 P2 Q2 v w).n := by show w + (1 + n1) < 1 + n1 + n2; omega
  refine w_itf (Q := fun _ _ => True) (Xp := noX) (yd_or (x := false) (y := false) (yd_nei (yd_roundE (r0 := -1) g (by omega) cf1 cw hv dv (yd_var rfl) (yd_var rfl) (yd_var rfl) (yd_add (y := 1) (yd_var rfl) yd_cst) fun r hr => round_never (never_emb (emb1 r1 r2) hv) hr) yd_neg rfl)
    (yd_nei (yd_roundE (r0 := -1) g (by omega) cw cf2 dw hw (yd_var rfl) (yd_add (yd_var rfl) (yd_var rfl)) (yd_var rfl) (yd_var rfl) fun r hr => round_never (never_symm (never_emb (emb2 r1 r2) hw)) hr) yd_neg rfl)) ?_
  refine w_par (w_call g.o_generated ⟨_, rfl, _, rfl, callF g.f_generated ⟨by omega, moW n1 n2 ps1 ps2 P1 Q1 P2 Q2 v w, v + 1, cw, dv, rfl, fun h' r ws qs _ x1 x2 x3 x4 x5 x6 => w_call g.o_generated ⟨_, rfl, _, rfl, callF g.f_generated ⟨by omega, moF n1 ps1 P1 Q1, v, cf1, hv, rfl, fun h2 r' ws' qs' _ y1 y2 y3 y4 y5 y6 => ?_⟩⟩⟩⟩)
  rw [gen_eq r1 r2 hv x1 x2 x3 x4 x5 y1 y2 y3 y4 y5]
  have vo : VsOk (ws'.length + 1) (nzs (partV (moF n1 ps1 P1 Q1) (v :: ws'))) := vs_nzs y6 (vs_part cf1 (v :: ws'))
  generalize eG : Mo.mk (ws'.length + 1) qs' (nzs (partV (moF n1 ps1 P1 Q1) (v :: ws'))) = G
  have vG : VsOk G.n G.vs := by rw [← eG]; exact vo
  refine w_itf (Q := fun _ _ => True) (Xp := noX) (yd_or (x := false) (y := false) (yd_nei (yd_ixt (yd_frame (M := G) g (yd_var rfl)) rfl) (yd_ixt (yd_frame (M := G) g (yd_var rfl)) rfl) rfl)
    (yd_or (x := false) (y := false) (fun Q' q' => w_cmp (yd_frame (M := G) g (yd_var rfl) _ (yd_frame (M := G) g (yd_var rfl) _ (eqW_fr q')))) (fun Q' q' => w_cmp (yd_tw (M := G) g vG (yd_var rfl) _ (yd_tw (M := G) g vG (yd_var rfl) _ (eqW_d vG.nd q')))))) ?_
  exact w_set (yd_round g (by omega) cf1 cf2 hv hw (yd_var rfl) (yd_var rfl) (yd_var rfl) (yd_var rfl) fun r0 hr => law_F g hi q r1 r2 hv hw hr u4 u5 u7 u15 u16 h2)
theorem law_C (g : Gm Γ (i + 2)) (hi : 448 ≤ i) {Q : VP} {Xp : XP} {S : Val} {a : Addr} {n1 n2 v w : Nat} {ps1 ps2 : List (Nat × Nat)} {P1 Q1 P2 Q2 : List Nat} (q : ∀ h', Q (.bl true) h') (r1 : RawOk n1 ps1 P1 Q1) (r2 : RawOk n2 ps2 P2 Q2) (hv : v < n1) (hw : w < n2)
    (u4 u5 : Option Val) (h : CH) (pa : PoolAt a h) : wpSs Γ (m_law.drop 9) (bodyPo Q Xp) [some S, some (.ref a), some (wV (1 + n1)), some (.lst ((wPs n1 ps1 ps2 v w).map pV)), u4, u5, some (moW n1 n2 ps1 ps2 P1 Q1 P2 Q2 v w).v, none, none, some (rawV n1 ps1 P1 Q1), some (rawV n2 ps2 P2 Q2), some (wV v), some (wV w), some (moF n1 ps1 P1 Q1).v, some (moF n2 ps2 P2 Q2).v, none, none, none, none, none, none, none] h := by
  refine w_for ⟨_, rfl, ⟨by decide, by decide⟩, ?_⟩
  refine goL_map (f := _) (enc := fun k : Nat => Val.int (0 + (k : Nat))) (l := List.range 4) (fun d h' ρ' => PoolAt a h' ∧ ∃ u7 u15 u16, ρ' = [some S, some (.ref a), some (wV (1 + n1)), some (.lst ((wPs n1 ps1 ps2 v w).map pV)), u4, u5, some (moW n1 n2 ps1 ps2 P1 Q1 P2 Q2 v w).v, u7, none, some (rawV n1 ps1 P1 Q1), some (rawV n2 ps2 P2 Q2), some (wV v), some (wV w), some (moF n1 ps1 P1 Q1).v, some (moF n2 ps2 P2 Q2).v, u15, u16, none, none, none, none, none]) ⟨pa, _, _, _, rfl⟩ (fun d x r h' ρ' K el inv k => ?_) fun h' ρ' inv => ?_
  · obtain ⟨p', u7, u15, u16, rfl⟩ := inv
    exact w_nm (law_loop (u7 := some (.int (0 + (x : Nat)))) g hi r1 r2 hv hw p' fun _ _ _ p2 => k _ _ ⟨p2, _, _, _, rfl⟩)
  · obtain ⟨p', u7, u15, u16, rfl⟩ := inv
    exact law_D g hi q r1 r2 hv hw u4 u5 u7 u15 u16 h'
theorem vc_law (g : Gm Γ j) : ∀ xs h Q Xp, R_law j xs h Q Xp → wpSs Γ m_law (bodyPo Q Xp) (startV N_law xs) h := by
  rintro xs h Q Xp ⟨hj, ns, rfl, nl, rfl, q⟩
  obtain ⟨i, rfl, hi⟩ : ∃ i, j = i + 2 ∧ 448 ≤ i := ⟨j - 2, by omega, by omega⟩
  refine w_set (w_call g.o__law_pool ⟨_, rfl, callF g.f__law_pool ⟨ns, nl, rfl, fun a h0 _ s0 => ?_⟩⟩)
  have p0 : PoolAt a h0 := s0.1
  refine w_par ⟨g.o__law_some_model, _, rfl, callF g.f__law_some_model ⟨by omega, a, p0, rfl, fun h1 n1 ps1 P1 Q1 r1 s1 => ⟨g.o__law_some_model, _, rfl, callF g.f__law_some_model ⟨by omega, a, s1.1, rfl, fun h2 n2 ps2 P2 Q2 r2 s2 => ?_⟩⟩⟩⟩
  have a1 := r1.n1
  have a2 := r2.n1
  have b1 := r1.n0
  have b2 := r2.n0
  have l1 := raw_len r1
  have l2 := raw_len r2
  refine w_par ⟨g.o__law_draw, _, rfl, _, rfl, 0, _, rfl, rfl, callF g.f__law_draw ⟨by omega, a, n1, by omega, by omega, s2.1, rfl, fun v h3 hv s3 => ⟨g.o__law_draw, _, rfl, _, rfl, 0, _, rfl, rfl, callF g.f__law_draw ⟨by omega, a, n2, by omega, by omega, s3.1, rfl, fun w h4 hw s4 => ?_⟩⟩⟩⟩
  refine w_set ⟨_, rfl, 0, _, rfl, rfl, ?_⟩
  refine w_set (w_bin (w_bin ⟨_, rfl, sl9 rfl, _, rfl, _, rfl, sl9 rfl, sl9 rfl, ?_⟩))
  refine wp_lc ps1 pV (fun _ => true) (fun p => pV (p.1 + 1, p.2 + 1)) (by omega) ?_ (fun p hp D hD A' K hA k1 k2 => ?_) ⟨_, _, rfl, rfl, ?_, ?_⟩
  · exact fun K k => ⟨_, rfl, 1, _, rfl, rfl, k⟩
  · exact ⟨_, rfl, rfl, fun _ => ⟨_, rfl, _, rfl, sl9 rfl, hA, k1 rfl⟩, fun e => nomatch e⟩
  · refine szl ?_
    rw [List.length_map]
    have := List.length_filter_le (fun _ : Nat × Nat => true) ps1
    show 2 + _ ≤ _
    omega
  refine wp_lc ps2 pV (fun _ => true) (fun p => pV (p.1 + (1 + n1), p.2 + (1 + n1))) (by omega) ?_ (fun p hp D hD A' K hA k1 k2 => ?_) ⟨_, _, rfl, rfl, ?_, ?_⟩
  · exact fun K k => ⟨_, rfl, 1, _, rfl, rfl, k⟩
  · exact ⟨_, rfl, rfl, fun _ => ⟨_, rfl, _, rfl, _, rfl, _, rfl, sl9 rfl, hA, k1 rfl⟩, fun e => nomatch e⟩
  · refine szl ?_
    rw [List.length_append, List.length_map, List.length_map]
    have := List.length_filter_le (fun _ : Nat × Nat => true) ps1
    have := List.length_filter_le (fun _ : Nat × Nat => true) ps2
    show 2 + _ + _ ≤ _
    omega
  have ew : ([pV (0, v + 1), pV (0, w + (1 + n1))] ++ (ps1.filter fun _ => true).map (fun p => pV (p.1 + 1, p.2 + 1))) ++ (ps2.filter fun _ => true).map (fun p => pV (p.1 + (1 + n1), p.2 + (1 + n1))) = (wPs n1 ps1 ps2 v w).map pV := by
    unfold wPs
    rw [List.map_append, List.map_append, List.map_map, List.map_map, List.filter_eq_self.mpr (fun _ _ => rfl), List.filter_eq_self.mpr (fun _ _ => rfl)]
    rfl
  have fin := law_B (Q := Q) (Xp := Xp) (S := .lst (ns.map .int)) g hi s4.1 r1 r2 hv hw (law_C g hi q r1 r2 hv hw)
  rw [← ew] at fin
  exact fin
end
end K94
set_option maxHeartbeats 0
namespace K94
open
      PySem PySem.W PySem.Calls PyProof.Rows
def fa : List He.Fa := ([.glo "neg", .glo "verum", .glo "dia", .glo "joined_by", .glo "conjunction", .glo "is_world", .glo "is_frame", .glo "worlds_of", .glo "evaluated", .glo "truth", .glo "part_of", .glo "generated", .glo "disjoint", .glo "names_at", .glo "greatest_bisimulation", .glo "class_of", .glo "smallest", .glo "round_of", .glo "telling", .glo "_law_pool", .glo "_law_spread", .glo "_law_draw", .glo "_law_some_model", .glo "_law_pick", .glo "_law_not"] : List He.Fa) ++ ([.glo "_law_tiny", .glo "_law_so_at", .glo "law", .glo "Model", .cls "Model", .mkr "Model", .glo "Rounds", .cls "Rounds", .mkr "Rounds", .meth "Model" "frame", .meth "Model" "true_worlds", .meth "Model" "seen", .meth "Rounds" "is_told", .meth "Rounds" "left_witness", .meth "Rounds" "right_witness", .meth "Rounds" "early", .meth "Rounds" "formula", .noat "Model" "_frame", .noat "Model" "_seen", .noat "Model" "_values", .noat "Rounds" "first", .noat "Rounds" "found", .noat "Rounds" "second", .free "len", .free "abs"] : List He.Fa) ++ ([.free "int", .free "tuple", .free "sum", .free "max", .free "min", .free "list", .free "range", .free "enumerate", .free "zip", .free "reversed", .free "sorted", .free "set", .free "isinstance", .free "dict", .free "str", .free "bool", .glo "FALSUM"] : List He.Fa)
def dn : List He.DefD := ([d_neg, d_verum, d_dia, d_joined_by, d_conjunction, d_is_world, d_is_frame, d_Model___init__, d_Model_frame, d_Model_true_worlds, d_Model_seen, d_worlds_of, d_evaluated, d_truth, d_part_of, d_generated, d_disjoint, d_names_at, d_Rounds___init__, d_Rounds_is_told, d_Rounds_left_witness, d_Rounds_right_witness, d_Rounds_early, d_Rounds_formula, d_greatest_bisimulation] : List He.DefD) ++ ([d_class_of, d_smallest, d_round_of, d_telling, d__law_pool, d__law_spread, d__law_draw, d__law_some_model, d__law_pick, d__law_not, d__law_tiny, d__law_so_at, d_law] : List He.DefD)
def ex (K : PySem.W.Frag) : Bool := He.tupB K "FALSUM" [.str "falsum"]
abbrev R : OpenRow := OpenLaw.row PySem.Challenge.rw_elsewhere_k94_whole_models_hung_under_a
abbrev qv : Program := view R.prog [39]
def names : List PySem.Str := (["ElsewhereError", "InvalidModel", "NotTold", "FALSUM", "neg", "verum", "dia", "joined_by", "conjunction", "is_world", "is_frame", "Model", "worlds_of", "evaluated", "truth", "part_of", "generated", "disjoint", "names_at", "Rounds", "greatest_bisimulation", "class_of", "smallest", "round_of", "telling", "_law_pool", "_law_spread", "_law_draw", "_law_some_model", "_law_pick"] : List PySem.Str) ++ (["_law_not", "_law_tiny", "_law_so_at"] : List PySem.Str)
abbrev hk : PySem.W.Hook := He.hookX 5 fa dn [] [] ex
def ob (s : PySem.W.SharedT) : He.AlX := He.obsX 5 fa dn [] [] ex (HandSHeadRun.getT s)
theorem ob_eq (s : PySem.W.SharedT) : ob s = hk.obs s.abs := He.obsX_eq (HandSHeadRun.getT_eq s)
theorem run (w : World) : HandSHeadRun.RunEq R qv hk ob 4000 names w := by
  intro os
  kernel_rfl
end K94
set_option maxHeartbeats 0
namespace K94
open PySem L2 Vc PyProof.Rows
def gl (x : Str) : Option Val := if x = "FALSUM" then some (.tup [.str "falsum"]) else none
def e_neg : Fe := ⟨N_neg, ["a"], m_neg, d_neg, R_neg⟩
def e_verum : Fe := ⟨N_verum, [], m_verum, d_verum, R_verum⟩
def e_dia : Fe := ⟨N_dia, ["a"], m_dia, d_dia, R_dia⟩
def e_joined_by : Fe := ⟨N_joined_by, ["tag", "formulas", "empty"], m_joined_by, d_joined_by, R_joined_by⟩
def e_conjunction : Fe := ⟨N_conjunction, ["formulas"], m_conjunction, d_conjunction, R_conjunction⟩
def e_is_world : Fe := ⟨N_is_world, ["value", "worlds"], m_is_world, d_is_world, R_is_world⟩
def e_is_frame : Fe := ⟨N_is_frame, ["frame"], m_is_frame, d_is_frame, R_is_frame⟩
def e_Model___init__ : Fe := ⟨N_Model___init__, ["self", "frame", "values"], m_Model___init__, d_Model___init__, R_Model___init__⟩
def e_Model_frame : Fe := ⟨N_Model_frame, ["self"], m_Model_frame, d_Model_frame, R_Model_frame⟩
def e_Model_true_worlds : Fe := ⟨N_Model_true_worlds, ["self"], m_Model_true_worlds, d_Model_true_worlds, R_Model_true_worlds⟩
def e_Model_seen : Fe := ⟨N_Model_seen, ["self", "v"], m_Model_seen, d_Model_seen, R_Model_seen⟩
def e_worlds_of : Fe := ⟨N_worlds_of, ["model"], m_worlds_of, d_worlds_of, R_worlds_of⟩
def e_evaluated : Fe := ⟨N_evaluated, ["model", "a", "forced"], m_evaluated, d_evaluated, R_evaluated⟩
def e_truth : Fe := ⟨N_truth, ["model", "a"], m_truth, d_truth, R_truth⟩
def e_part_of : Fe := ⟨N_part_of, ["model", "worlds"], m_part_of, d_part_of, R_part_of⟩
def e_generated : Fe := ⟨N_generated, ["model", "v"], m_generated, d_generated, R_generated⟩
def e_disjoint : Fe := ⟨N_disjoint, ["first", "second"], m_disjoint, d_disjoint, R_disjoint⟩
def e_names_at : Fe := ⟨N_names_at, ["model", "v"], m_names_at, d_names_at, R_names_at⟩
def e_Rounds___init__ : Fe := ⟨N_Rounds___init__, ["self", "first", "second"], m_Rounds___init__, d_Rounds___init__, R_Rounds___init__⟩
def e_Rounds_is_told : Fe := ⟨N_Rounds_is_told, ["self", "pair"], m_Rounds_is_told, d_Rounds_is_told, R_Rounds_is_told⟩
def e_Rounds_left_witness : Fe := ⟨N_Rounds_left_witness, ["self", "pair"], m_Rounds_left_witness, d_Rounds_left_witness, R_Rounds_left_witness⟩
def e_Rounds_right_witness : Fe := ⟨N_Rounds_right_witness, ["self", "pair"], m_Rounds_right_witness, d_Rounds_right_witness, R_Rounds_right_witness⟩
def e_Rounds_early : Fe := ⟨N_Rounds_early, ["self", "limit"], m_Rounds_early, d_Rounds_early, R_Rounds_early⟩
def e_Rounds_formula : Fe := ⟨N_Rounds_formula, ["self", "pair"], m_Rounds_formula, d_Rounds_formula, R_Rounds_formula⟩
def e_greatest_bisimulation : Fe := ⟨N_greatest_bisimulation, ["first", "second"], m_greatest_bisimulation, d_greatest_bisimulation, R_greatest_bisimulation⟩
def e_class_of : Fe := ⟨N_class_of, ["model"], m_class_of, d_class_of, R_class_of⟩
def e_smallest : Fe := ⟨N_smallest, ["model"], m_smallest, d_smallest, R_smallest⟩
def e_round_of : Fe := ⟨N_round_of, ["first", "v", "second", "w"], m_round_of, d_round_of, R_round_of⟩
def e_telling : Fe := ⟨N_telling, ["first", "v", "second", "w"], m_telling, d_telling, R_telling⟩
def e__law_pool : Fe := ⟨N__law_pool, ["script"], m__law_pool, d__law_pool, R__law_pool⟩
def e__law_spread : Fe := ⟨N__law_spread, ["cell"], m__law_spread, d__law_spread, R__law_spread⟩
def e__law_draw : Fe := ⟨N__law_draw, ["pool", "many"], m__law_draw, d__law_draw, R__law_draw⟩
def e__law_some_model : Fe := ⟨N__law_some_model, ["pool", "most"], m__law_some_model, d__law_some_model, R__law_some_model⟩
def e__law_pick : Fe := ⟨N__law_pick, ["pool", "items"], m__law_pick, d__law_pick, R__law_pick⟩
def e__law_not : Fe := ⟨N__law_not, ["a"], m__law_not, d__law_not, R__law_not⟩
def e__law_tiny : Fe := ⟨N__law_tiny, ["pool", "names", "deep", "plain"], m__law_tiny, d__law_tiny, R__law_tiny⟩
def e__law_so_at : Fe := ⟨N__law_so_at, ["model", "a", "v"], m__law_so_at, d__law_so_at, R__law_so_at⟩
def e_law : Fe := ⟨N_law, ["script"], m_law, d_law, R_law⟩
def es : List Fe := [e_neg, e_verum, e_dia, e_joined_by, e_conjunction, e_is_world, e_is_frame, e_Model___init__, e_Model_frame, e_Model_true_worlds, e_Model_seen, e_worlds_of, e_evaluated, e_truth, e_part_of, e_generated, e_disjoint, e_names_at, e_Rounds___init__, e_Rounds_is_told, e_Rounds_left_witness, e_Rounds_right_witness, e_Rounds_early, e_Rounds_formula, e_greatest_bisimulation, e_class_of, e_smallest, e_round_of, e_telling, e__law_pool, e__law_spread, e__law_draw, e__law_some_model, e__law_pick, e__law_not, e__law_tiny, e__law_so_at, e_law]
def pg : Pg := ⟨es, gl, [("Model", "_frame"), ("Model", "_seen"), ("Model", "_values"), ("Rounds", "first"), ("Rounds", "second"), ("Rounds", "found")]⟩
theorem gm (j : Nat) : Gm (pg.fns j) j where
  gl := by rfl
  f_neg := congrArg (fun z => lv z j) (show pg.sp (("neg" : Str), none) = R_neg by kernel_rfl)
  o_neg := show (pg.es.find? fun e => decide (e.key = (("neg" : Str), none))).isSome = true by kernel_rfl
  f_verum := congrArg (fun z => lv z j) (show pg.sp (("verum" : Str), none) = R_verum by kernel_rfl)
  o_verum := show (pg.es.find? fun e => decide (e.key = (("verum" : Str), none))).isSome = true by kernel_rfl
  f_dia := congrArg (fun z => lv z j) (show pg.sp (("dia" : Str), none) = R_dia by kernel_rfl)
  o_dia := show (pg.es.find? fun e => decide (e.key = (("dia" : Str), none))).isSome = true by kernel_rfl
  f_joined_by := congrArg (fun z => lv z j) (show pg.sp (("joined_by" : Str), none) = R_joined_by by kernel_rfl)
  o_joined_by := show (pg.es.find? fun e => decide (e.key = (("joined_by" : Str), none))).isSome = true by kernel_rfl
  f_conjunction := congrArg (fun z => lv z j) (show pg.sp (("conjunction" : Str), none) = R_conjunction by kernel_rfl)
  o_conjunction := show (pg.es.find? fun e => decide (e.key = (("conjunction" : Str), none))).isSome = true by kernel_rfl
  f_is_world := congrArg (fun z => lv z j) (show pg.sp (("is_world" : Str), none) = R_is_world by kernel_rfl)
  o_is_world := show (pg.es.find? fun e => decide (e.key = (("is_world" : Str), none))).isSome = true by kernel_rfl
  f_is_frame := congrArg (fun z => lv z j) (show pg.sp (("is_frame" : Str), none) = R_is_frame by kernel_rfl)
  o_is_frame := show (pg.es.find? fun e => decide (e.key = (("is_frame" : Str), none))).isSome = true by kernel_rfl
  c_Model := by
    have e1 : pg.sp (("Model" : Str), some ("__init__" : Str)) = R_Model___init__ := by kernel_rfl
    have e2 : pg.n (("Model" : Str), some ("__init__" : Str)) = 3 := by kernel_rfl
    show mkSp (pg.sp (("Model" : Str), some ("__init__" : Str))) (pg.n (("Model" : Str), some ("__init__" : Str))) "Model" j = _
    rw [e1, e2]
  oc_Model := fun h => ⟨h, show (pg.es.find? fun e => decide (e.key = (("Model" : Str), some ("__init__" : Str)))).isSome = true by kernel_rfl⟩
  t_Model_frame := congrArg (fun z => lv z j) (show pg.sp (("Model" : Str), some ("frame" : Str)) = R_Model_frame by kernel_rfl)
  ot_Model_frame := ⟨by decide +kernel, show (pg.es.find? fun e => decide (e.key = (("Model" : Str), some ("frame" : Str)))).isSome = true by kernel_rfl⟩
  t_Model_true_worlds := congrArg (fun z => lv z j) (show pg.sp (("Model" : Str), some ("true_worlds" : Str)) = R_Model_true_worlds by kernel_rfl)
  ot_Model_true_worlds := ⟨by decide +kernel, show (pg.es.find? fun e => decide (e.key = (("Model" : Str), some ("true_worlds" : Str)))).isSome = true by kernel_rfl⟩
  t_Model_seen := congrArg (fun z => lv z j) (show pg.sp (("Model" : Str), some ("seen" : Str)) = R_Model_seen by kernel_rfl)
  ot_Model_seen := ⟨by decide +kernel, show (pg.es.find? fun e => decide (e.key = (("Model" : Str), some ("seen" : Str)))).isSome = true by kernel_rfl⟩
  f_worlds_of := congrArg (fun z => lv z j) (show pg.sp (("worlds_of" : Str), none) = R_worlds_of by kernel_rfl)
  o_worlds_of := show (pg.es.find? fun e => decide (e.key = (("worlds_of" : Str), none))).isSome = true by kernel_rfl
  f_evaluated := congrArg (fun z => lv z j) (show pg.sp (("evaluated" : Str), none) = R_evaluated by kernel_rfl)
  o_evaluated := show (pg.es.find? fun e => decide (e.key = (("evaluated" : Str), none))).isSome = true by kernel_rfl
  f_truth := congrArg (fun z => lv z j) (show pg.sp (("truth" : Str), none) = R_truth by kernel_rfl)
  o_truth := show (pg.es.find? fun e => decide (e.key = (("truth" : Str), none))).isSome = true by kernel_rfl
  f_part_of := congrArg (fun z => lv z j) (show pg.sp (("part_of" : Str), none) = R_part_of by kernel_rfl)
  o_part_of := show (pg.es.find? fun e => decide (e.key = (("part_of" : Str), none))).isSome = true by kernel_rfl
  f_generated := congrArg (fun z => lv z j) (show pg.sp (("generated" : Str), none) = R_generated by kernel_rfl)
  o_generated := show (pg.es.find? fun e => decide (e.key = (("generated" : Str), none))).isSome = true by kernel_rfl
  f_disjoint := congrArg (fun z => lv z j) (show pg.sp (("disjoint" : Str), none) = R_disjoint by kernel_rfl)
  o_disjoint := show (pg.es.find? fun e => decide (e.key = (("disjoint" : Str), none))).isSome = true by kernel_rfl
  f_names_at := congrArg (fun z => lv z j) (show pg.sp (("names_at" : Str), none) = R_names_at by kernel_rfl)
  o_names_at := show (pg.es.find? fun e => decide (e.key = (("names_at" : Str), none))).isSome = true by kernel_rfl
  c_Rounds := by
    have e1 : pg.sp (("Rounds" : Str), some ("__init__" : Str)) = R_Rounds___init__ := by kernel_rfl
    have e2 : pg.n (("Rounds" : Str), some ("__init__" : Str)) = 3 := by kernel_rfl
    show mkSp (pg.sp (("Rounds" : Str), some ("__init__" : Str))) (pg.n (("Rounds" : Str), some ("__init__" : Str))) "Rounds" j = _
    rw [e1, e2]
  oc_Rounds := fun h => ⟨h, show (pg.es.find? fun e => decide (e.key = (("Rounds" : Str), some ("__init__" : Str)))).isSome = true by kernel_rfl⟩
  t_Rounds_is_told := congrArg (fun z => lv z j) (show pg.sp (("Rounds" : Str), some ("is_told" : Str)) = R_Rounds_is_told by kernel_rfl)
  ot_Rounds_is_told := ⟨by decide +kernel, show (pg.es.find? fun e => decide (e.key = (("Rounds" : Str), some ("is_told" : Str)))).isSome = true by kernel_rfl⟩
  t_Rounds_left_witness := congrArg (fun z => lv z j) (show pg.sp (("Rounds" : Str), some ("left_witness" : Str)) = R_Rounds_left_witness by kernel_rfl)
  ot_Rounds_left_witness := ⟨by decide +kernel, show (pg.es.find? fun e => decide (e.key = (("Rounds" : Str), some ("left_witness" : Str)))).isSome = true by kernel_rfl⟩
  t_Rounds_right_witness := congrArg (fun z => lv z j) (show pg.sp (("Rounds" : Str), some ("right_witness" : Str)) = R_Rounds_right_witness by kernel_rfl)
  ot_Rounds_right_witness := ⟨by decide +kernel, show (pg.es.find? fun e => decide (e.key = (("Rounds" : Str), some ("right_witness" : Str)))).isSome = true by kernel_rfl⟩
  t_Rounds_early := congrArg (fun z => lv z j) (show pg.sp (("Rounds" : Str), some ("early" : Str)) = R_Rounds_early by kernel_rfl)
  ot_Rounds_early := ⟨by decide +kernel, show (pg.es.find? fun e => decide (e.key = (("Rounds" : Str), some ("early" : Str)))).isSome = true by kernel_rfl⟩
  t_Rounds_formula := congrArg (fun z => lv z j) (show pg.sp (("Rounds" : Str), some ("formula" : Str)) = R_Rounds_formula by kernel_rfl)
  ot_Rounds_formula := ⟨by decide +kernel, show (pg.es.find? fun e => decide (e.key = (("Rounds" : Str), some ("formula" : Str)))).isSome = true by kernel_rfl⟩
  f_greatest_bisimulation := congrArg (fun z => lv z j) (show pg.sp (("greatest_bisimulation" : Str), none) = R_greatest_bisimulation by kernel_rfl)
  o_greatest_bisimulation := show (pg.es.find? fun e => decide (e.key = (("greatest_bisimulation" : Str), none))).isSome = true by kernel_rfl
  f_class_of := congrArg (fun z => lv z j) (show pg.sp (("class_of" : Str), none) = R_class_of by kernel_rfl)
  o_class_of := show (pg.es.find? fun e => decide (e.key = (("class_of" : Str), none))).isSome = true by kernel_rfl
  f_smallest := congrArg (fun z => lv z j) (show pg.sp (("smallest" : Str), none) = R_smallest by kernel_rfl)
  o_smallest := show (pg.es.find? fun e => decide (e.key = (("smallest" : Str), none))).isSome = true by kernel_rfl
  f_round_of := congrArg (fun z => lv z j) (show pg.sp (("round_of" : Str), none) = R_round_of by kernel_rfl)
  o_round_of := show (pg.es.find? fun e => decide (e.key = (("round_of" : Str), none))).isSome = true by kernel_rfl
  f_telling := congrArg (fun z => lv z j) (show pg.sp (("telling" : Str), none) = R_telling by kernel_rfl)
  o_telling := show (pg.es.find? fun e => decide (e.key = (("telling" : Str), none))).isSome = true by kernel_rfl
  f__law_pool := congrArg (fun z => lv z j) (show pg.sp (("_law_pool" : Str), none) = R__law_pool by kernel_rfl)
  o__law_pool := show (pg.es.find? fun e => decide (e.key = (("_law_pool" : Str), none))).isSome = true by kernel_rfl
  f__law_spread := congrArg (fun z => lv z j) (show pg.sp (("_law_spread" : Str), none) = R__law_spread by kernel_rfl)
  o__law_spread := show (pg.es.find? fun e => decide (e.key = (("_law_spread" : Str), none))).isSome = true by kernel_rfl
  f__law_draw := congrArg (fun z => lv z j) (show pg.sp (("_law_draw" : Str), none) = R__law_draw by kernel_rfl)
  o__law_draw := show (pg.es.find? fun e => decide (e.key = (("_law_draw" : Str), none))).isSome = true by kernel_rfl
  f__law_some_model := congrArg (fun z => lv z j) (show pg.sp (("_law_some_model" : Str), none) = R__law_some_model by kernel_rfl)
  o__law_some_model := show (pg.es.find? fun e => decide (e.key = (("_law_some_model" : Str), none))).isSome = true by kernel_rfl
  f__law_pick := congrArg (fun z => lv z j) (show pg.sp (("_law_pick" : Str), none) = R__law_pick by kernel_rfl)
  o__law_pick := show (pg.es.find? fun e => decide (e.key = (("_law_pick" : Str), none))).isSome = true by kernel_rfl
  f__law_not := congrArg (fun z => lv z j) (show pg.sp (("_law_not" : Str), none) = R__law_not by kernel_rfl)
  o__law_not := show (pg.es.find? fun e => decide (e.key = (("_law_not" : Str), none))).isSome = true by kernel_rfl
  f__law_tiny := congrArg (fun z => lv z j) (show pg.sp (("_law_tiny" : Str), none) = R__law_tiny by kernel_rfl)
  o__law_tiny := show (pg.es.find? fun e => decide (e.key = (("_law_tiny" : Str), none))).isSome = true by kernel_rfl
  f__law_so_at := congrArg (fun z => lv z j) (show pg.sp (("_law_so_at" : Str), none) = R__law_so_at by kernel_rfl)
  o__law_so_at := show (pg.es.find? fun e => decide (e.key = (("_law_so_at" : Str), none))).isSome = true by kernel_rfl
  fl__frame := show (("Model" : Str), ("_frame" : Str)) ∈ pg.fld by decide +kernel
  fl__seen := show (("Model" : Str), ("_seen" : Str)) ∈ pg.fld by decide +kernel
  fl__values := show (("Model" : Str), ("_values" : Str)) ∈ pg.fld by decide +kernel
  fl_first := show (("Rounds" : Str), ("first" : Str)) ∈ pg.fld by decide +kernel
  fl_second := show (("Rounds" : Str), ("second" : Str)) ∈ pg.fld by decide +kernel
  fl_found := show (("Rounds" : Str), ("found" : Str)) ∈ pg.fld by decide +kernel
theorem ok_neg : FeOk pg e_neg where
  bd := fun K f fd F => F.bindsN fun _ _ _ _ _ _ us hl => match us, hl with | [_], _ => rfl
  sc := (Bool.and_eq_true_iff.mp ck_neg).1
  ck := (Bool.and_eq_true_iff.mp ck_neg).2
  ar := fun j vs h Q X r => by
    simp only [e_neg, R_neg] at r
    repeat (rcases r with ⟨_, r⟩)
    subst_vars
    rfl
  vc := fun j xs h Q Xp r => vc_neg (gm j) xs h Q Xp r
theorem ok_verum : FeOk pg e_verum where
  bd := fun K f fd F => F.bindsN fun _ _ _ _ _ _ us hl => match us, hl with | [], _ => rfl
  sc := (Bool.and_eq_true_iff.mp ck_verum).1
  ck := (Bool.and_eq_true_iff.mp ck_verum).2
  ar := fun j vs h Q X r => by
    simp only [e_verum, R_verum] at r
    repeat (rcases r with ⟨_, r⟩)
    subst_vars
    rfl
  vc := fun j xs h Q Xp r => vc_verum (gm j) xs h Q Xp r
theorem ok_dia : FeOk pg e_dia where
  bd := fun K f fd F => F.bindsN fun _ _ _ _ _ _ us hl => match us, hl with | [_], _ => rfl
  sc := (Bool.and_eq_true_iff.mp ck_dia).1
  ck := (Bool.and_eq_true_iff.mp ck_dia).2
  ar := fun j vs h Q X r => by
    simp only [e_dia, R_dia] at r
    repeat (rcases r with ⟨_, r⟩)
    subst_vars
    rfl
  vc := fun j xs h Q Xp r => vc_dia (gm j) xs h Q Xp r
theorem ok_joined_by : FeOk pg e_joined_by where
  bd := fun K f fd F => F.bindsN fun _ _ _ _ _ _ us hl => match us, hl with | [_, _, _], _ => rfl
  sc := (Bool.and_eq_true_iff.mp ck_joined_by).1
  ck := (Bool.and_eq_true_iff.mp ck_joined_by).2
  ar := fun j vs h Q X r => by
    simp only [e_joined_by, R_joined_by] at r
    repeat (rcases r with ⟨_, r⟩)
    subst_vars
    rfl
  vc := fun j xs h Q Xp r => vc_joined_by (gm j) xs h Q Xp r
theorem ok_conjunction : FeOk pg e_conjunction where
  bd := fun K f fd F => F.bindsN fun _ _ _ _ _ _ us hl => match us, hl with | [_], _ => rfl
  sc := (Bool.and_eq_true_iff.mp ck_conjunction).1
  ck := (Bool.and_eq_true_iff.mp ck_conjunction).2
  ar := fun j vs h Q X r => by
    simp only [e_conjunction, R_conjunction] at r
    repeat (rcases r with ⟨_, r⟩)
    subst_vars
    rfl
  vc := fun j xs h Q Xp r => vc_conjunction (gm j) xs h Q Xp r
theorem ok_is_world : FeOk pg e_is_world where
  bd := fun K f fd F => F.bindsN fun _ _ _ _ _ _ us hl => match us, hl with | [_, _], _ => rfl
  sc := (Bool.and_eq_true_iff.mp ck_is_world).1
  ck := (Bool.and_eq_true_iff.mp ck_is_world).2
  ar := fun j vs h Q X r => by
    simp only [e_is_world, R_is_world] at r
    repeat (rcases r with ⟨_, r⟩)
    subst_vars
    rfl
  vc := fun j xs h Q Xp r => vc_is_world (gm j) xs h Q Xp r
theorem ok_is_frame : FeOk pg e_is_frame where
  bd := fun K f fd F => F.bindsN fun _ _ _ _ _ _ us hl => match us, hl with | [_], _ => rfl
  sc := (Bool.and_eq_true_iff.mp ck_is_frame).1
  ck := (Bool.and_eq_true_iff.mp ck_is_frame).2
  ar := fun j vs h Q X r => by
    simp only [e_is_frame, R_is_frame] at r
    repeat (rcases r with ⟨_, r⟩)
    subst_vars
    rfl
  vc := fun j xs h Q Xp r => vc_is_frame (gm j) xs h Q Xp r
theorem ok_Model___init__ : FeOk pg e_Model___init__ where
  bd := fun K f fd F => F.bindsN fun _ _ _ _ _ _ us hl => match us, hl with | [_, _, _], _ => rfl
  sc := (Bool.and_eq_true_iff.mp ck_Model___init__).1
  ck := (Bool.and_eq_true_iff.mp ck_Model___init__).2
  ar := fun j vs h Q X r => by
    simp only [e_Model___init__, R_Model___init__] at r
    repeat (rcases r with ⟨_, r⟩)
    subst_vars
    rfl
  vc := fun j xs h Q Xp r => vc_Model___init__ (gm j) xs h Q Xp r
theorem ok_Model_frame : FeOk pg e_Model_frame where
  bd := fun K f fd F => F.bindsN fun _ _ _ _ _ _ us hl => match us, hl with | [_], _ => rfl
  sc := (Bool.and_eq_true_iff.mp ck_Model_frame).1
  ck := (Bool.and_eq_true_iff.mp ck_Model_frame).2
  ar := fun j vs h Q X r => by
    simp only [e_Model_frame, R_Model_frame] at r
    repeat (rcases r with ⟨_, r⟩)
    subst_vars
    rfl
  vc := fun j xs h Q Xp r => vc_Model_frame (gm j) xs h Q Xp r
theorem ok_Model_true_worlds : FeOk pg e_Model_true_worlds where
  bd := fun K f fd F => F.bindsN fun _ _ _ _ _ _ us hl => match us, hl with | [_], _ => rfl
  sc := (Bool.and_eq_true_iff.mp ck_Model_true_worlds).1
  ck := (Bool.and_eq_true_iff.mp ck_Model_true_worlds).2
  ar := fun j vs h Q X r => by
    simp only [e_Model_true_worlds, R_Model_true_worlds] at r
    repeat (rcases r with ⟨_, r⟩)
    subst_vars
    rfl
  vc := fun j xs h Q Xp r => vc_Model_true_worlds (gm j) xs h Q Xp r
theorem ok_Model_seen : FeOk pg e_Model_seen where
  bd := fun K f fd F => F.bindsN fun _ _ _ _ _ _ us hl => match us, hl with | [_, _], _ => rfl
  sc := (Bool.and_eq_true_iff.mp ck_Model_seen).1
  ck := (Bool.and_eq_true_iff.mp ck_Model_seen).2
  ar := fun j vs h Q X r => by
    simp only [e_Model_seen, R_Model_seen] at r
    repeat (rcases r with ⟨_, r⟩)
    subst_vars
    rfl
  vc := fun j xs h Q Xp r => vc_Model_seen (gm j) xs h Q Xp r
theorem ok_worlds_of : FeOk pg e_worlds_of where
  bd := fun K f fd F => F.bindsN fun _ _ _ _ _ _ us hl => match us, hl with | [_], _ => rfl
  sc := (Bool.and_eq_true_iff.mp ck_worlds_of).1
  ck := (Bool.and_eq_true_iff.mp ck_worlds_of).2
  ar := fun j vs h Q X r => by
    simp only [e_worlds_of, R_worlds_of] at r
    repeat (rcases r with ⟨_, r⟩)
    subst_vars
    rfl
  vc := fun j xs h Q Xp r => vc_worlds_of (gm j) xs h Q Xp r
theorem ok_evaluated : FeOk pg e_evaluated where
  bd := fun K f fd F => F.bindsN fun _ _ _ _ _ _ us hl => match us, hl with | [_, _, _], _ => rfl
  sc := (Bool.and_eq_true_iff.mp ck_evaluated).1
  ck := (Bool.and_eq_true_iff.mp ck_evaluated).2
  ar := fun j vs h Q X r => by
    simp only [e_evaluated, R_evaluated] at r
    repeat (rcases r with ⟨_, r⟩)
    subst_vars
    rfl
  vc := fun j xs h Q Xp r => vc_evaluated (gm j) xs h Q Xp r
theorem ok_truth : FeOk pg e_truth where
  bd := fun K f fd F => F.bindsN fun _ _ _ _ _ _ us hl => match us, hl with | [_, _], _ => rfl
  sc := (Bool.and_eq_true_iff.mp ck_truth).1
  ck := (Bool.and_eq_true_iff.mp ck_truth).2
  ar := fun j vs h Q X r => by
    simp only [e_truth, R_truth] at r
    repeat (rcases r with ⟨_, r⟩)
    subst_vars
    rfl
  vc := fun j xs h Q Xp r => vc_truth (gm j) xs h Q Xp r
theorem ok_part_of : FeOk pg e_part_of where
  bd := fun K f fd F => F.bindsN fun _ _ _ _ _ _ us hl => match us, hl with | [_, _], _ => rfl
  sc := (Bool.and_eq_true_iff.mp ck_part_of).1
  ck := (Bool.and_eq_true_iff.mp ck_part_of).2
  ar := fun j vs h Q X r => by
    simp only [e_part_of, R_part_of] at r
    repeat (rcases r with ⟨_, r⟩)
    subst_vars
    rfl
  vc := fun j xs h Q Xp r => vc_part_of (gm j) xs h Q Xp r
theorem ok_generated : FeOk pg e_generated where
  bd := fun K f fd F => F.bindsN fun _ _ _ _ _ _ us hl => match us, hl with | [_, _], _ => rfl
  sc := (Bool.and_eq_true_iff.mp ck_generated).1
  ck := (Bool.and_eq_true_iff.mp ck_generated).2
  ar := fun j vs h Q X r => by
    simp only [e_generated, R_generated] at r
    repeat (rcases r with ⟨_, r⟩)
    subst_vars
    rfl
  vc := fun j xs h Q Xp r => vc_generated (gm j) xs h Q Xp r
theorem ok_disjoint : FeOk pg e_disjoint where
  bd := fun K f fd F => F.bindsN fun _ _ _ _ _ _ us hl => match us, hl with | [_, _], _ => rfl
  sc := (Bool.and_eq_true_iff.mp ck_disjoint).1
  ck := (Bool.and_eq_true_iff.mp ck_disjoint).2
  ar := fun j vs h Q X r => by
    simp only [e_disjoint, R_disjoint] at r
    repeat (rcases r with ⟨_, r⟩)
    subst_vars
    rfl
  vc := fun j xs h Q Xp r => vc_disjoint (gm j) xs h Q Xp r
theorem ok_names_at : FeOk pg e_names_at where
  bd := fun K f fd F => F.bindsN fun _ _ _ _ _ _ us hl => match us, hl with | [_, _], _ => rfl
  sc := (Bool.and_eq_true_iff.mp ck_names_at).1
  ck := (Bool.and_eq_true_iff.mp ck_names_at).2
  ar := fun j vs h Q X r => by
    simp only [e_names_at, R_names_at] at r
    repeat (rcases r with ⟨_, r⟩)
    subst_vars
    rfl
  vc := fun j xs h Q Xp r => vc_names_at (gm j) xs h Q Xp r
theorem ok_Rounds___init__ : FeOk pg e_Rounds___init__ where
  bd := fun K f fd F => F.bindsN fun _ _ _ _ _ _ us hl => match us, hl with | [_, _, _], _ => rfl
  sc := (Bool.and_eq_true_iff.mp ck_Rounds___init__).1
  ck := (Bool.and_eq_true_iff.mp ck_Rounds___init__).2
  ar := fun j vs h Q X r => by
    simp only [e_Rounds___init__, R_Rounds___init__] at r
    repeat (rcases r with ⟨_, r⟩)
    subst_vars
    rfl
  vc := fun j xs h Q Xp r => vc_Rounds___init__ (gm j) xs h Q Xp r
theorem ok_Rounds_is_told : FeOk pg e_Rounds_is_told where
  bd := fun K f fd F => F.bindsN fun _ _ _ _ _ _ us hl => match us, hl with | [_, _], _ => rfl
  sc := (Bool.and_eq_true_iff.mp ck_Rounds_is_told).1
  ck := (Bool.and_eq_true_iff.mp ck_Rounds_is_told).2
  ar := fun j vs h Q X r => by
    simp only [e_Rounds_is_told, R_Rounds_is_told] at r
    repeat (rcases r with ⟨_, r⟩)
    subst_vars
    rfl
  vc := fun j xs h Q Xp r => vc_Rounds_is_told (gm j) xs h Q Xp r
theorem ok_Rounds_left_witness : FeOk pg e_Rounds_left_witness where
  bd := fun K f fd F => F.bindsN fun _ _ _ _ _ _ us hl => match us, hl with | [_, _], _ => rfl
  sc := (Bool.and_eq_true_iff.mp ck_Rounds_left_witness).1
  ck := (Bool.and_eq_true_iff.mp ck_Rounds_left_witness).2
  ar := fun j vs h Q X r => by
    simp only [e_Rounds_left_witness, R_Rounds_left_witness] at r
    repeat (rcases r with ⟨_, r⟩)
    subst_vars
    rfl
  vc := fun j xs h Q Xp r => vc_Rounds_left_witness (gm j) xs h Q Xp r
theorem ok_Rounds_right_witness : FeOk pg e_Rounds_right_witness where
  bd := fun K f fd F => F.bindsN fun _ _ _ _ _ _ us hl => match us, hl with | [_, _], _ => rfl
  sc := (Bool.and_eq_true_iff.mp ck_Rounds_right_witness).1
  ck := (Bool.and_eq_true_iff.mp ck_Rounds_right_witness).2
  ar := fun j vs h Q X r => by
    simp only [e_Rounds_right_witness, R_Rounds_right_witness] at r
    repeat (rcases r with ⟨_, r⟩)
    subst_vars
    rfl
  vc := fun j xs h Q Xp r => vc_Rounds_right_witness (gm j) xs h Q Xp r
theorem ok_Rounds_early : FeOk pg e_Rounds_early where
  bd := fun K f fd F => F.bindsN fun _ _ _ _ _ _ us hl => match us, hl with | [_, _], _ => rfl
  sc := (Bool.and_eq_true_iff.mp ck_Rounds_early).1
  ck := (Bool.and_eq_true_iff.mp ck_Rounds_early).2
  ar := fun j vs h Q X r => by
    simp only [e_Rounds_early, R_Rounds_early] at r
    repeat (rcases r with ⟨_, r⟩)
    subst_vars
    rfl
  vc := fun j xs h Q Xp r => vc_Rounds_early (gm j) xs h Q Xp r
theorem ok_Rounds_formula : FeOk pg e_Rounds_formula where
  bd := fun K f fd F => F.bindsN fun _ _ _ _ _ _ us hl => match us, hl with | [_, _], _ => rfl
  sc := (Bool.and_eq_true_iff.mp ck_Rounds_formula).1
  ck := (Bool.and_eq_true_iff.mp ck_Rounds_formula).2
  ar := fun j vs h Q X r => by
    simp only [e_Rounds_formula, R_Rounds_formula] at r
    repeat (rcases r with ⟨_, r⟩)
    subst_vars
    rfl
  vc := fun j xs h Q Xp r => vc_Rounds_formula (gm j) xs h Q Xp r
theorem ok_greatest_bisimulation : FeOk pg e_greatest_bisimulation where
  bd := fun K f fd F => F.bindsN fun _ _ _ _ _ _ us hl => match us, hl with | [_, _], _ => rfl
  sc := (Bool.and_eq_true_iff.mp ck_greatest_bisimulation).1
  ck := (Bool.and_eq_true_iff.mp ck_greatest_bisimulation).2
  ar := fun j vs h Q X r => by
    simp only [e_greatest_bisimulation, R_greatest_bisimulation] at r
    repeat (rcases r with ⟨_, r⟩)
    subst_vars
    rfl
  vc := fun j xs h Q Xp r => vc_greatest_bisimulation (gm j) xs h Q Xp r
theorem ok_class_of : FeOk pg e_class_of where
  bd := fun K f fd F => F.bindsN fun _ _ _ _ _ _ us hl => match us, hl with | [_], _ => rfl
  sc := (Bool.and_eq_true_iff.mp ck_class_of).1
  ck := (Bool.and_eq_true_iff.mp ck_class_of).2
  ar := fun j vs h Q X r => by
    simp only [e_class_of, R_class_of] at r
    repeat (rcases r with ⟨_, r⟩)
    subst_vars
    rfl
  vc := fun j xs h Q Xp r => vc_class_of (gm j) xs h Q Xp r
theorem ok_smallest : FeOk pg e_smallest where
  bd := fun K f fd F => F.bindsN fun _ _ _ _ _ _ us hl => match us, hl with | [_], _ => rfl
  sc := (Bool.and_eq_true_iff.mp ck_smallest).1
  ck := (Bool.and_eq_true_iff.mp ck_smallest).2
  ar := fun j vs h Q X r => by
    simp only [e_smallest, R_smallest] at r
    repeat (rcases r with ⟨_, r⟩)
    subst_vars
    rfl
  vc := fun j xs h Q Xp r => vc_smallest (gm j) xs h Q Xp r
theorem ok_round_of : FeOk pg e_round_of where
  bd := fun K f fd F => F.bindsN fun _ _ _ _ _ _ us hl => match us, hl with | [_, _, _, _], _ => rfl
  sc := (Bool.and_eq_true_iff.mp ck_round_of).1
  ck := (Bool.and_eq_true_iff.mp ck_round_of).2
  ar := fun j vs h Q X r => by
    simp only [e_round_of, R_round_of] at r
    repeat (rcases r with ⟨_, r⟩)
    subst_vars
    rfl
  vc := fun j xs h Q Xp r => vc_round_of (gm j) xs h Q Xp r
theorem ok_telling : FeOk pg e_telling where
  bd := fun K f fd F => F.bindsN fun _ _ _ _ _ _ us hl => match us, hl with | [_, _, _, _], _ => rfl
  sc := (Bool.and_eq_true_iff.mp ck_telling).1
  ck := (Bool.and_eq_true_iff.mp ck_telling).2
  ar := fun j vs h Q X r => by
    simp only [e_telling, R_telling] at r
    repeat (rcases r with ⟨_, r⟩)
    subst_vars
    rfl
  vc := fun j xs h Q Xp r => vc_telling (gm j) xs h Q Xp r
theorem ok__law_pool : FeOk pg e__law_pool where
  bd := fun K f fd F => F.bindsN fun _ _ _ _ _ _ us hl => match us, hl with | [_], _ => rfl
  sc := (Bool.and_eq_true_iff.mp ck__law_pool).1
  ck := (Bool.and_eq_true_iff.mp ck__law_pool).2
  ar := fun j vs h Q X r => by
    simp only [e__law_pool, R__law_pool] at r
    repeat (rcases r with ⟨_, r⟩)
    subst_vars
    rfl
  vc := fun j xs h Q Xp r => vc__law_pool (gm j) xs h Q Xp r
theorem ok__law_spread : FeOk pg e__law_spread where
  bd := fun K f fd F => F.bindsN fun _ _ _ _ _ _ us hl => match us, hl with | [_], _ => rfl
  sc := (Bool.and_eq_true_iff.mp ck__law_spread).1
  ck := (Bool.and_eq_true_iff.mp ck__law_spread).2
  ar := fun j vs h Q X r => by
    simp only [e__law_spread, R__law_spread] at r
    repeat (rcases r with ⟨_, r⟩)
    subst_vars
    rfl
  vc := fun j xs h Q Xp r => vc__law_spread (gm j) xs h Q Xp r
theorem ok__law_draw : FeOk pg e__law_draw where
  bd := fun K f fd F => F.bindsN fun _ _ _ _ _ _ us hl => match us, hl with | [_, _], _ => rfl
  sc := (Bool.and_eq_true_iff.mp ck__law_draw).1
  ck := (Bool.and_eq_true_iff.mp ck__law_draw).2
  ar := fun j vs h Q X r => by
    simp only [e__law_draw, R__law_draw] at r
    repeat (rcases r with ⟨_, r⟩)
    subst_vars
    rfl
  vc := fun j xs h Q Xp r => vc__law_draw (gm j) xs h Q Xp r
theorem ok__law_some_model : FeOk pg e__law_some_model where
  bd := fun K f fd F => F.bindsN fun _ _ _ _ _ _ us hl => match us, hl with | [_, _], _ => rfl
  sc := (Bool.and_eq_true_iff.mp ck__law_some_model).1
  ck := (Bool.and_eq_true_iff.mp ck__law_some_model).2
  ar := fun j vs h Q X r => by
    simp only [e__law_some_model, R__law_some_model] at r
    repeat (rcases r with ⟨_, r⟩)
    subst_vars
    rfl
  vc := fun j xs h Q Xp r => vc__law_some_model (gm j) xs h Q Xp r
theorem ok__law_pick : FeOk pg e__law_pick where
  bd := fun K f fd F => F.bindsN fun _ _ _ _ _ _ us hl => match us, hl with | [_, _], _ => rfl
  sc := (Bool.and_eq_true_iff.mp ck__law_pick).1
  ck := (Bool.and_eq_true_iff.mp ck__law_pick).2
  ar := fun j vs h Q X r => by
    simp only [e__law_pick, R__law_pick] at r
    repeat (rcases r with ⟨_, r⟩)
    subst_vars
    rfl
  vc := fun j xs h Q Xp r => vc__law_pick (gm j) xs h Q Xp r
theorem ok__law_not : FeOk pg e__law_not where
  bd := fun K f fd F => F.bindsN fun _ _ _ _ _ _ us hl => match us, hl with | [_], _ => rfl
  sc := (Bool.and_eq_true_iff.mp ck__law_not).1
  ck := (Bool.and_eq_true_iff.mp ck__law_not).2
  ar := fun j vs h Q X r => by
    simp only [e__law_not, R__law_not] at r
    repeat (rcases r with ⟨_, r⟩)
    subst_vars
    rfl
  vc := fun j xs h Q Xp r => vc__law_not (gm j) xs h Q Xp r
theorem ok__law_tiny : FeOk pg e__law_tiny where
  bd := fun K f fd F => F.bindsN fun _ _ _ _ _ _ us hl => match us, hl with | [_, _, _, _], _ => rfl
  sc := (Bool.and_eq_true_iff.mp ck__law_tiny).1
  ck := (Bool.and_eq_true_iff.mp ck__law_tiny).2
  ar := fun j vs h Q X r => by
    simp only [e__law_tiny, R__law_tiny] at r
    repeat (rcases r with ⟨_, r⟩)
    subst_vars
    rfl
  vc := fun j xs h Q Xp r => vc__law_tiny (gm j) xs h Q Xp r
theorem ok__law_so_at : FeOk pg e__law_so_at where
  bd := fun K f fd F => F.bindsN fun _ _ _ _ _ _ us hl => match us, hl with | [_, _, _], _ => rfl
  sc := (Bool.and_eq_true_iff.mp ck__law_so_at).1
  ck := (Bool.and_eq_true_iff.mp ck__law_so_at).2
  ar := fun j vs h Q X r => by
    simp only [e__law_so_at, R__law_so_at] at r
    repeat (rcases r with ⟨_, r⟩)
    subst_vars
    rfl
  vc := fun j xs h Q Xp r => vc__law_so_at (gm j) xs h Q Xp r
theorem ok_law : FeOk pg e_law where
  bd := fun K f fd F => F.bindsN fun _ _ _ _ _ _ us hl => match us, hl with | [_], _ => rfl
  sc := (Bool.and_eq_true_iff.mp ck_law).1
  ck := (Bool.and_eq_true_iff.mp ck_law).2
  ar := fun j vs h Q X r => by
    simp only [e_law, R_law, lawR] at r
    repeat (rcases r with ⟨_, r⟩)
    subst_vars
    rfl
  vc := fun j xs h Q Xp r => vc_law (gm j) xs h Q Xp r
theorem ok_all : ∀ e ∈ pg.es, FeOk pg e := by
  show ∀ e ∈ es, FeOk pg e
  unfold es
  simp only [List.forall_mem_cons]
  exact ⟨ok_neg, ok_verum, ok_dia, ok_joined_by, ok_conjunction, ok_is_world, ok_is_frame, ok_Model___init__, ok_Model_frame, ok_Model_true_worlds, ok_Model_seen, ok_worlds_of, ok_evaluated, ok_truth, ok_part_of, ok_generated, ok_disjoint, ok_names_at, ok_Rounds___init__, ok_Rounds_is_told, ok_Rounds_left_witness, ok_Rounds_right_witness, ok_Rounds_early, ok_Rounds_formula, ok_greatest_bisimulation, ok_class_of, ok_smallest, ok_round_of, ok_telling, ok__law_pool, ok__law_spread, ok__law_draw, ok__law_some_model, ok__law_pick, ok__law_not, ok__law_tiny, ok__law_so_at, ok_law, fun e he => nomatch he⟩
theorem facts_ok : factsB fa (pg.es.map Fe.key) pg.fld = true := by decide +kernel
theorem dn_ok : pg.es.map (·.d) = dn := by rfl
theorem dn_nil : ∀ d ∈ dn, d.dfl = [] ∧ d.kwd = [] := by
  intro d hd
  have t : (dn.all fun d => d.dfl.isEmpty && d.kwd.isEmpty) = true := by kernel_rfl
  have := List.all_eq_true.mp t d hd
  rw [Bool.and_eq_true, List.isEmpty_iff, List.isEmpty_iff] at this
  exact this
theorem falsum_rep {K : PySem.W.Frag} {h : Heap} {mg : Str → Option Value} (X : K.In h) (N : h.Ns mainGlobals mg) (c : He.SaysD fa dn K) (t : ex K = true) :
    ∀ x v, pg.gl x = some v → ∃ u vv, mg x = some u ∧ RelV vv u ∧ RepV ⟨K, He.ga K, He.ga K⟩ noH noC v vv := by
  intro x v e
  have e : (if x = "FALSUM" then some (Val.tup [.str "falsum"]) else none) = some v := e
  by_cases hx : x = "FALSUM"
  · rw [if_pos hx] at e
    cases e
    subst hx
    have hg : He.Fa.glo "FALSUM" ∈ fa := glo_in (by decide +kernel)
    have st := He.tupB_ok (K := K) (x := "FALSUM") (vs := [.str "falsum"]) t noH
    exact ⟨_, .ref (He.ga K "FALSUM"), He.glo_ok X N (He.SaysD.facts c hg), rfl, He.ga K "FALSUM", _, rfl, .inr ⟨st, rfl⟩, RepL.cons rfl RepL.nil⟩
  · rw [if_neg hx] at e
    cases e
end K94
open
      PySem PySem.W PySem.Calls PyProof.Rows
theorem PySem.Challenge.cw_elsewhere_k94_whole_models_hung_under_a_holds : PySem.Challenge.rw_elsewhere_k94_whole_models_hung_under_a.Holds := by
  w_on; o_law
  refine HandSHeadRun.head_any (r := OpenLaw.row PySem.Challenge.rw_elsewhere_k94_whole_models_hung_under_a) (q := view (OpenLaw.row PySem.Challenge.rw_elsewhere_k94_whole_models_hung_under_a).prog [39]) (H := K94.hk) (ob := K94.ob) (M := 4000) (loose := K94.names) (d := HandSHeadRun.topDef (OpenLaw.row PySem.Challenge.rw_elsewhere_k94_whole_models_hung_under_a).prog 39) (kwd := []) K94.ob_eq
    (by kernel_rfl) (fun s => by kernel_rfl) K94.run (by kernel_rfl) (by kernel_rfl) (by kernel_rfl) (by rfl) (by first | assumption | decide +kernel) (by decide +kernel) ⟨rfl, rfl, rfl, rfl, rfl, by decide +kernel⟩ ?hw ?hc
  case hw => w_witness2
  case hc =>
    refine L2.walk_ofE (l := PySem.Challenge.rw_elsewhere_k94_whole_models_hung_under_a) (n := 63) (k := 231) (x := "script") (CX := L2.CX0) rfl (by decide) (by kernel_rfl) ⟨rfl, by decide, by decide⟩ ?F (fun _ _ _ _ z => z)
    intro w mg fa h Y G hmg0
    obtain ⟨K, KX, c⟩ := Y
    have hmg : mg ("law" : PySem.Str) = some (.ref fa) :=
          by
      have e : (HandSHeadRun.topDef (OpenLaw.row PySem.Challenge.rw_elsewhere_k94_whole_models_hung_under_a).prog 39).name = ("law" : PySem.Str) := by kernel_rfl
      rw [← e]
      exact hmg0
    have cd := He.SaysT.d c.t
    have T := Vc.tells_ok (p := K94.pg) KX G cd K94.dn_ok K94.dn_nil K94.facts_ok (K94.falsum_rep KX G cd c.more)
    obtain ⟨fd, hb, hF⟩ := Vc.law_end (P := (PySem.Challenge.rw_elsewhere_k94_whole_models_hung_under_a).prog) (w := w) (k := 450) (e := K94.e_law) T K94.ok_all (by show K94.e_law ∈ K94.es; unfold K94.es; simp only [List.mem_cons, true_or, or_true]) rfl rfl (by decide) rfl hmg (fun fd F s u => by
      have b := L2.FunD.bindsA (ps := ["script"]) F fun _ _ _ _ _ _ us hl => match us, hl with | [_], _ => rfl
      exact b s [u] rfl)
    exact ⟨K, fd, fun vs H Q _ => Vc.lift ⟨K, He.ga K, He.ga K⟩ 1 (Vc.lv (Vc.lawR 450) 660) vs H Q fun _ _ _ => False, KX, hb, fun H a ns hl _ hS => Vc.law_sp (by decide) hl hS, fun base _ _ => hF base⟩
