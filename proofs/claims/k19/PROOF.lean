import PyProof.Rows.All
import Wide.All
import OpenK.AllK
import Wide.FinOn
import HandS.ForMost
import HandS.ForExc
import HandS.Wide
import HandS.SortInts
import HandS.DeepEq
import HandS.Style
import HandS.StrMore
import HandS.TupMul
import HandS.TupAny
import HandS.Deep
import HandS.TupLe
import HandS.RaiseMore
import HandS.Conv
import HandS.IsInst
import HandS.Iter
import HandS.Defaults
import KE.GoesEnum
import HandS.Small
import HandS.TryOnly
import HandS.Head0
import HandS.Head1
import HandS.Head2
import HandS.HeadEnd
import HandS.HeadHook1
import HandS.HeadHook2
import HandS.SortOrd
import HandS.SortRule
import KE.KRevSl
import PyProof.Rows.SumAny
import PyProof.WalksMore
import KE.DataMinMax
import KE.SortData
import HandS.Strs
import HandS.ExcCtx
import HandS.HotCalls
import HandS.ExcIs
import PySem.Challenge.RW_codebounds_k19_whole_hidden_codes
set_option Elab.async false
set_option linter.all false
set_option maxRecDepth 100000
namespace G7
open PySem

/-- a plain value; text: its codes -/
inductive PV where
  | non
  | bl (b : Bool)
  | int (i : Int)
  | str (l : List Nat)
  | lst (xs : List PV)
  | tup (xs : List PV)
  | dct (kvs : List (PV × PV))
  | ref (a : Nat)
  | scr (ns : List Int)
  deriving Inhabited

def b2i (b : Bool) : Int := if b then 1 else 0
def eqvI : List PV → List Int → Bool
  | [], [] => true
  | .int i :: xs, n :: ns => i == n && eqvI xs ns
  | .bl b :: xs, n :: ns => b2i b == n && eqvI xs ns
  | _, _ => false
mutual
def eqv : PV → PV → Bool
  | .non, .non => true
  | .bl a, .bl b => a == b
  | .bl a, .int j => b2i a == j
  | .int i, .bl b => i == b2i b
  | .int i, .int j => i == j
  | .str x, .str y => x == y
  | .lst xs, .lst ys => eqvs xs ys
  | .tup xs, .tup ys => eqvs xs ys
  | .scr ns, .lst ys => eqvI ys ns
  | .lst xs, .scr ns => eqvI xs ns
  | .scr ns, .scr ms => ns == ms
  | _, _ => false
def eqvs : List PV → List PV → Bool
  | [], [] => true
  | x :: xs, y :: ys => eqv x y && eqvs xs ys
  | _, _ => false
end
/-- nested at most n deep, no dict -/
def dp : Nat → PV → Bool
  | _, .non => true
  | _, .bl _ => true
  | _, .int _ => true
  | _, .str _ => true
  | n + 1, .lst xs => xs.all (dp n)
  | n + 1, .tup xs => xs.all (dp n)
  | _ + 1, .scr _ => true
  | _, _ => false

/-- a slot's content: a value that never changes, or a list or dict that this slot alone reaches -/
inductive Sl where
  | val (v : PV)
  | own (v : PV)
abbrev Env := List (Option Sl)
inductive Res (α : Type) where
  | ok (a : α) (r : Env)
  | exc (c : Nat) (r : Env)
  | bad
abbrev M (α : Type) := Env → Res α
def ret {α : Type} (a : α) : M α := fun r => .ok a r
def bnd {α β : Type} (m : M α) (k : α → M β) : M β := fun r =>
  match m r with
  | .ok a r' => k a r'
  | .exc c r' => .exc c r'
  | .bad => .bad
def lft {α : Type} (o : Option α) : M α := fun r => match o with | some a => .ok a r | none => .bad
def raz {α : Type} (c : Nat) : M α := fun r => .exc c r
/-- a name: its value, from here on unchanging -/
def rd (i : Nat) : M PV := fun r =>
  match r[i]? with
  | some (some (.val v)) => .ok v r
  | some (some (.own v)) => .ok v (r.set i (some (.val v)))
  | _ => .bad
/-- a name: what it holds now -/
def pk (i : Nat) : M PV := fun r =>
  match r[i]? with
  | some (some (.val v)) => .ok v r
  | some (some (.own v)) => .ok v r
  | _ => .bad
def wr (i : Nat) (s : Option Sl) : M Unit := fun r => .ok () (r.set i s)

abbrev LINE : Nat := 16777216
/-- not far from zero (in a form that stands still at an unknown number) -/
def near (m : Nat) (j : Int) : Bool := Nat.ble j.natAbs m
theorem near_of {m : Nat} {j : Int} (h : near m j = true) : -(m : Int) ≤ j ∧ j ≤ m := by
  have := Nat.le_of_ble_eq_true h
  omega
theorem near_mk {m : Nat} {j : Int} (h1 : -(m : Int) ≤ j) (h2 : j ≤ m) : near m j = true := Nat.ble_eq_true_of_le (by omega)
def mulOk (i j : Int) : Bool := near 9223372036854775807 i || near 9223372036854775807 j
theorem mulOk_of {i j : Int} (h : mulOk i j = true) : (-(2 ^ 64) < i ∧ i < 2 ^ 64) ∨ (-(2 ^ 64) < j ∧ j < 2 ^ 64) := by
  rcases Bool.or_eq_true _ _ |>.mp h with h | h
  · have := near_of h; left; omega
  · have := near_of h; right; omega
theorem near62 {j : Int} (h : near 1000000000 j = true) : -(2 ^ 62) ≤ j ∧ j < 2 ^ 62 := by have := near_of h; omega
def rep {α : Type} : Nat → List α → List α
  | 0, _ => []
  | n + 1, xs => xs ++ rep n xs
def addV : PV → PV → Option PV
  | .int i, .int j => some (.int (i + j))
  | .str x, .str y => if x.length + y.length ≤ LINE then some (.str (x ++ y)) else none
  | .lst x, .lst y => if x.length + y.length ≤ LINE then some (.lst (x ++ y)) else none
  | .tup x, .tup y => if x.length + y.length ≤ LINE then some (.tup (x ++ y)) else none
  | _, _ => none
def subV : PV → PV → Option PV
  | .int i, .int j => some (.int (i - j))
  | _, _ => none
def mulV : PV → PV → Option PV
  | .int i, .int j => if mulOk i j then some (.int (i * j)) else none
  | .str [c], .int j => if near 16777216 j then some (.str (List.replicate j.toNat c)) else none
  | .lst x, .int j => if x.length * j.toNat ≤ LINE && near 1000000000 j then some (.lst (rep j.toNat x)) else none
  | .tup x, .int j => if x.length ≤ 1000 && decide (2 ≤ j) && near 1000 j && !x.isEmpty then some (.tup (rep j.toNat x)) else none
  | _, _ => none
def divV : PV → PV → Option PV
  | .int i, .int j => if decide (0 < j) && near 1073741823 j then some (.int (i / j)) else none
  | _, _ => none
def modV : PV → PV → Option PV
  | .int i, .int j => if 0 < j then some (.int (i % j)) else none
  | _, _ => none
def powV : PV → PV → Option PV
  | .int i, .int j => if decide (0 ≤ j) && near 1000000 j && decide (i.natAbs < 2 ^ 64) then some (.int (i ^ j.toNat)) else none
  | _, _ => none
def xorV : PV → PV → Option PV
  | .int (.ofNat i), .int (.ofNat j) => some (.int (Int.ofNat (i ^^^ j)))
  | _, _ => none
def negV : PV → Option PV
  | .int i => some (.int (-i))
  | _ => none
/-- the order of texts -/
def ltL : List Nat → List Nat → Bool
  | [], [] => false
  | [], _ :: _ => true
  | _ :: _, [] => false
  | x :: xs, y :: ys => if x < y then true else if y < x then false else ltL xs ys
def eqV (a b : PV) : Option PV := if dp 60 a && dp 60 b then some (.bl (eqv a b)) else none
def neV (a b : PV) : Option PV := if dp 60 a && dp 60 b then some (.bl (!eqv a b)) else none
def ltV : PV → PV → Option PV
  | .int i, .int j => some (.bl (decide (i < j)))
  | .str x, .str y => some (.bl (ltL x y))
  | _, _ => none
def leV : PV → PV → Option PV
  | .int i, .int j => some (.bl (decide (i ≤ j)))
  | _, _ => none
def gtV : PV → PV → Option PV
  | .int i, .int j => some (.bl (decide (j < i)))
  | _, _ => none
def geV : PV → PV → Option PV
  | .int i, .int j => some (.bl (decide (j ≤ i)))
  | _, _ => none
def isB : PV → Option Bool
  | .bl b => some b
  | _ => none
def notB : PV → Option PV
  | .bl b => some (.bl !b)
  | _ => none
def lookD (k : PV) : List (PV × PV) → Option PV
  | [] => none
  | (a, b) :: r => if eqv a k then some b else lookD k r
def hasD (k : PV) : List (PV × PV) → Bool
  | [] => false
  | (a, _) :: r => eqv a k || hasD k r
def swapD (k v : PV) : List (PV × PV) → List (PV × PV)
  | [] => []
  | (a, b) :: r => (if eqv a k then (a, v) else (a, b)) :: swapD k v r
def putD (k v : PV) (kvs : List (PV × PV)) : List (PV × PV) := if hasD k kvs then swapD k v kvs else kvs ++ [(k, v)]
def keyOk : PV → Bool
  | .int _ => true
  | .str _ => true
  | _ => false
/-- x in y -/
def inV : PV → PV → Option Bool
  | .str [c], .str y => some (decide (c ∈ y))
  | a, .dct kvs => if keyOk a then some (lookD a kvs).isSome else none
  | a, .lst ys => if dp 59 a && ys.all (dp 59) then some (ys.any fun y => eqv y a) else none
  | a, .tup ys => if dp 0 a && ys.all (dp 0) then some (ys.any fun y => eqv y a) else none
  | _, _ => none
def getV : PV → PV → Option PV
  | .lst xs, .int i => L2.atI xs i
  | .tup xs, .int i => L2.atI xs i
  | .scr xs, .int i => (L2.atI xs i).map .int
  | .str xs, .int i => if xs.length ≤ LINE then (L2.atI xs i).map fun c => .str [c] else none
  | _, _ => none
def getD : PV → PV → Option PV
  | .dct kvs, a => if keyOk a then lookD a kvs else none
  | _, _ => none
def getD2 : PV → PV → PV → Option PV
  | .dct kvs, a, d => if keyOk a then some ((lookD a kvs).getD d) else none
  | _, _, _ => none
def inV1 (a b : PV) : Option PV := (inV a b).map .bl
def inV0 (a b : PV) : Option PV := (inV a b).map fun c => .bl !c
def isV : PV → PV → Option PV
  | .bl a, .bl b => some (.bl (a == b))
  | .non, .non => some (.bl true)
  | .bl _, .non => some (.bl false)
  | .int _, .non => some (.bl false)
  | .str _, .non => some (.bl false)
  | .lst _, .non => some (.bl false)
  | .tup _, .non => some (.bl false)
  | _, _ => none
def isV0 (a b : PV) : Option PV := (isV a b).bind notB
def cut {α : Type} (xs : List α) (lo hi : Option Int) : List α :=
  (xs.drop (HT.sIx xs.length 0 lo)).take (HT.sIx xs.length xs.length hi - HT.sIx xs.length 0 lo)
def sliceV (v : PV) (lo hi : Option Int) : Option PV :=
  match v with
  | .lst xs => some (.lst (cut xs lo hi))
  | .tup xs => if HT.sIx xs.length 0 lo = 0 ∧ HT.sIx xs.length xs.length hi = xs.length then none else some (.tup (cut xs lo hi))
  | .str xs => if xs.length ≤ LINE then some (.str (cut xs lo hi)) else none
  | _ => none
def backV : PV → Option PV
  | .lst xs => some (.lst xs.reverse)
  | _ => none
def lenV : PV → Option PV
  | .scr xs => some (.int xs.length)
  | .lst xs => some (.int xs.length)
  | .tup xs => some (.int xs.length)
  | .str xs => if xs.length ≤ LINE then some (.int xs.length) else none
  | .dct xs => some (.int xs.length)
  | _ => none
def absV : PV → Option PV
  | .int i => some (.int (if i < 0 then -i else i))
  | _ => none
def boolsP : List PV → Option (List Bool)
  | [] => some []
  | .bl b :: r => (boolsP r).map (b :: ·)
  | _ => none
def intsP : List PV → Option (List Int)
  | [] => some []
  | .int b :: r => (intsP r).map (b :: ·)
  | _ => none
def strsP : List PV → Option (List (List Nat))
  | [] => some []
  | .str b :: r => (strsP r).map (b :: ·)
  | _ => none
def allV : PV → Option PV
  | .lst xs => (boolsP xs).map fun bs => .bl (bs.all id)
  | _ => none
def anyV : PV → Option PV
  | .lst xs => (boolsP xs).map fun bs => .bl (bs.any id)
  | _ => none
def sumI : List Int → Int
  | [] => 0
  | x :: xs => x + sumI xs
def sumV : PV → Option PV
  | .lst xs => (intsP xs).map fun ns => .int (sumI ns)
  | .tup xs => (intsP xs).map fun ns => .int (sumI ns)
  | _ => none
def listV : PV → Option PV
  | .lst xs => some (.lst xs)
  | .tup xs => some (.lst xs)
  | .dct kvs => some (.lst (kvs.map (·.1)))
  | _ => none
def tupleV : PV → Option PV
  | .lst xs => some (.tup xs)
  | .tup xs => some (.tup xs)
  | _ => none
def rangeL (lo : Int) : Nat → List PV
  | 0 => []
  | n + 1 => .int lo :: rangeL (lo + 1) n
def joinL (sep : List Nat) : List (List Nat) → List Nat
  | [] => []
  | [x] => x
  | x :: y :: r => x ++ sep ++ joinL sep (y :: r)
def sumLen : List (List Nat) → Nat
  | [] => 0
  | x :: r => x.length + sumLen r
def joinV : PV → PV → Option PV
  | .str s, .lst xs => (strsP xs).bind fun ys => if sumLen ys + ys.length * s.length ≤ LINE then some (.str (joinL s ys)) else none
  | .str s, .tup xs => (strsP xs).bind fun ys => if sumLen ys + ys.length * s.length ≤ LINE then some (.str (joinL s ys)) else none
  | _, _ => none
def countV : PV → PV → Option PV
  | .str xs, .str [c] => some (.int ((xs.filter (· == c)).length : Nat))
  | _, _ => none
def indexOf (c : Nat) : List Nat → Option Nat
  | [] => none
  | x :: r => if x == c then some 0 else (indexOf c r).map (· + 1)
def indexV : PV → PV → Option PV
  | .str xs, .str [c] => (indexOf c xs).map fun i => .int (i : Nat)
  | _, _ => none
/-- digits of a number -/
def digs : Nat → Nat → List Nat
  | 0, _ => []
  | f + 1, n => if n < 10 then [48 + n] else digs f (n / 10) ++ [48 + n % 10]
def strV : PV → Option PV
  | .int (.ofNat i) => if i < 10 ^ 12 then some (.str (digs 13 i)) else none
  | _ => none
def intV : PV → Option PV
  | .int i => some (.int i)
  | .bl b => some (.int (b2i b))
  | _ => none
inductive Ty where
  | int | str | bool | list | tuple
def isiV (T : Ty) : PV → Option PV
  | .non => some (.bl false)
  | .bl _ => some (.bl (match T with | .int => true | .bool => true | _ => false))
  | .int _ => some (.bl (match T with | .int => true | _ => false))
  | .str _ => some (.bl (match T with | .str => true | _ => false))
  | .lst _ => some (.bl (match T with | .list => true | _ => false))
  | .scr _ => some (.bl (match T with | .list => true | _ => false))
  | .tup _ => some (.bl (match T with | .tuple => true | _ => false))
  | _ => none
def min2V : List PV → Option PV
  | [.int i, .int j] => some (.int (if j < i then j else i))
  | _ => none
def max2V : List PV → Option PV
  | [.int i, .int j] => some (.int (if j > i then j else i))
  | _ => none
def on1 (g : PV → Option PV) : List PV → Option PV
  | [a] => g a
  | _ => none
def on1m (g : PV → PV → Option PV) (a : PV) : List PV → Option PV
  | [b] => g a b
  | _ => none
end G7

set_option Elab.async false
set_option linter.all false
set_option maxRecDepth 100000
set_option autoImplicit false
namespace G7
open PySem PySem.Spec PyProof.Rows L2

abbrev St := L2.St
def KeyP : L2.Key → PV → Prop
  | .inl i, v => v = .int i
  | .inr x, v => ∃ l : List Nat, x = ⟨l.toArray⟩ ∧ (∀ c ∈ l, c < 1114112) ∧ v = .str l
mutual
inductive Rep (K : PySem.W.Frag) (F : Hp) : V → PV → Prop
  | non : Rep K F .non .non
  | bl (b : Bool) : Rep K F (.bl b) (.bl b)
  | int (i : Int) : Rep K F (.int i) (.int i)
  | str {l : List Nat} : (∀ c ∈ l, c < 1114112) → Rep K F (.str ⟨l.toArray⟩) (.str l)
  | lst {a : Addr} {vs : List V} {xs : List PV} : F a = some (.lst vs) → Reps K F vs xs → Rep K F (.ref a) (.lst xs)
  | tup {a : Addr} {vs : List V} {xs : List PV} : SqT K F a vs → Reps K F vs xs → Rep K F (.ref a) (.tup xs)
  | dct {a : Addr} {o : Obj} {ks : List (L2.Key × V)} {kvs : List (PV × PV)} : F a = some (.frz o (.dK ks)) → RepD K F ks kvs → Rep K F (.ref a) (.dct kvs)
  | ref (a : Addr) : Rep K F (.ref a) (.ref a)
  | scr {a : Addr} {ns : List Int} : SqL K F a (ns.map V.int) → Rep K F (.ref a) (.scr ns)
inductive Reps (K : PySem.W.Frag) (F : Hp) : List V → List PV → Prop
  | nil : Reps K F [] []
  | cons {v : V} {vs : List V} {x : PV} {xs : List PV} : Rep K F v x → Reps K F vs xs → Reps K F (v :: vs) (x :: xs)
inductive RepD (K : PySem.W.Frag) (F : Hp) : List (L2.Key × V) → List (PV × PV) → Prop
  | nil : RepD K F [] []
  | cons {k : L2.Key} {v : V} {vs : List (L2.Key × V)} {a x : PV} {xs : List (PV × PV)} : KeyP k a → Rep K F v x → RepD K F vs xs → RepD K F ((k, v) :: vs) ((a, x) :: xs)
end

section
variable {K : PySem.W.Frag} {F F' H H' : Hp}
theorem seqL_mono (h : Same F F') {a : Addr} {xs : List V} (q : SqL K F a xs) : SqL K F' a xs := h.seq q
theorem seqT_mono (e : Same F F') {a : Addr} {xs : List V} (h : SqT K F a xs) : SqT K F' a xs := by
  rcases h with (h | ⟨o, h⟩) | h
  · exact .inl (.inl (e _ _ h))
  · exact .inl (.inr ⟨o, e _ _ h⟩)
  · exact .inr h
mutual
theorem Rep.mono (h : Same F F') : ∀ {v : V} {x : PV}, Rep K F v x → Rep K F' v x
  | _, _, .non => .non
  | _, _, .bl b => .bl b
  | _, _, .int i => .int i
  | _, _, .str q => .str q
  | _, _, .lst q r => .lst (h _ _ q) (Reps.mono h r)
  | _, _, .scr q => .scr (seqL_mono h q)
  | _, _, .tup q r => .tup (seqT_mono h q) (Reps.mono h r)
  | _, _, .dct q r => .dct (h _ _ q) (RepD.mono h r)
  | _, _, .ref a => .ref a
theorem Reps.mono (h : Same F F') : ∀ {v : List V} {x : List PV}, Reps K F v x → Reps K F' v x
  | _, _, .nil => .nil
  | _, _, .cons r s => .cons (Rep.mono h r) (Reps.mono h s)
theorem RepD.mono (h : Same F F') : ∀ {v : List (L2.Key × V)} {x : List (PV × PV)}, RepD K F v x → RepD K F' v x
  | _, _, .nil => .nil
  | _, _, .cons q r s => .cons q (Rep.mono h r) (RepD.mono h s)
end
theorem Reps.len : ∀ {v : List V} {x : List PV}, Reps K F v x → v.length = x.length
  | _, _, .nil => rfl
  | _, _, .cons _ s => congrArg (· + 1) (Reps.len s)
theorem Reps.app : ∀ {v u : List V} {x y : List PV}, Reps K F v x → Reps K F u y → Reps K F (v ++ u) (x ++ y)
  | _, _, _, _, .nil, s => s
  | _, _, _, _, .cons r t, s => .cons r (Reps.app t s)
theorem Reps.get : ∀ {v : List V} {x : List PV} {i : Nat} {a : PV}, Reps K F v x → x[i]? = some a → ∃ w, v[i]? = some w ∧ Rep K F w a
  | _, _, _, _, .nil, e => by simp at e
  | _, _, 0, _, .cons r _, e => by simp at e; subst e; exact ⟨_, rfl, r⟩
  | _, _, i + 1, a, .cons _ t, e => by
    obtain ⟨w, h1, h2⟩ := Reps.get (i := i) (a := a) t (by simpa using e)
    exact ⟨w, by simpa using h1, h2⟩
theorem Reps.drop : ∀ {v : List V} {x : List PV} (n : Nat), Reps K F v x → Reps K F (v.drop n) (x.drop n)
  | _, _, 0, r => r
  | _, _, _ + 1, .nil => .nil
  | _, _, n + 1, .cons _ t => Reps.drop n t
theorem Reps.take : ∀ {v : List V} {x : List PV} (n : Nat), Reps K F v x → Reps K F (v.take n) (x.take n)
  | _, _, 0, _ => .nil
  | _, _, _ + 1, .nil => .nil
  | _, _, n + 1, .cons r t => .cons r (Reps.take n t)
theorem Reps.rev : ∀ {v : List V} {x : List PV}, Reps K F v x → Reps K F v.reverse x.reverse
  | _, _, .nil => .nil
  | _, _, .cons r t => by
    rw [List.reverse_cons, List.reverse_cons]
    exact Reps.app (Reps.rev t) (.cons r .nil)
theorem Reps.set : ∀ {v : List V} {x : List PV} (i : Nat) {w : V} {a : PV}, Reps K F v x → Rep K F w a → Reps K F (v.set i w) (x.set i a)
  | _, _, _, _, _, .nil, _ => .nil
  | _, _, 0, _, _, .cons _ t, r => .cons r t
  | _, _, i + 1, _, _, .cons q t, r => .cons q (Reps.set i t r)
theorem Reps.rep : ∀ (n : Nat) {v : List V} {x : List PV}, Reps K F v x → Reps K F (List.replicate n v).flatten (rep n x)
  | 0, _, _, _ => .nil
  | n + 1, v, x, r => by
    rw [List.replicate_succ, List.flatten_cons]
    exact Reps.app r (Reps.rep n r)

/-- what a slot alone reaches -/
def Own (K : PySem.W.Frag) (F H : Hp) (a : Addr) : PV → Prop
  | .lst xs => ∃ vs, H a = some (.lst vs) ∧ Reps K F vs xs
  | .dct kvs => ∃ ks, H a = some (.dK ks) ∧ RepD K F ks kvs
  | _ => False
theorem Own.mono (h : Same F F') {a : Addr} (e : H' a = H a) : ∀ {v : PV}, Own K F H a v → Own K F' H' a v
  | .lst _, ⟨vs, q, r⟩ => ⟨vs, e.trans q, r.mono h⟩
  | .dct _, ⟨vs, q, r⟩ => ⟨vs, e.trans q, r.mono h⟩
  | .non, q => q.elim
  | .bl _, q => q.elim
  | .int _, q => q.elim
  | .str _, q => q.elim
  | .tup _, q => q.elim
  | .ref _, q => q.elim
  | .scr _, q => q.elim
theorem Own.some {a : Addr} : ∀ {v : PV}, Own K F H a v → ∃ o, H a = some o
  | .lst _, ⟨_, q, _⟩ => ⟨_, q⟩
  | .dct _, ⟨_, q, _⟩ => ⟨_, q⟩
  | .non, q => q.elim
  | .bl _, q => q.elim
  | .int _, q => q.elim
  | .str _, q => q.elim
  | .tup _, q => q.elim
  | .ref _, q => q.elim
  | .scr _, q => q.elim
def OwnAt (σ : St) (ρ : Env) (a : Addr) : Prop := ∃ (i : Nat) (v : PV), ρ[i]? = some (some (Sl.own v)) ∧ σ[i]? = some (some (V.ref a))
structure RE (K : PySem.W.Frag) (F : Hp) (σ : St) (H : Hp) (ρ : Env) : Prop where
  le : Same F H
  val : ∀ (i : Nat) (v : PV), ρ[i]? = some (some (Sl.val v)) → ∃ w, σ[i]? = some (some w) ∧ Rep K F w v
  own : ∀ (i : Nat) (v : PV), ρ[i]? = some (some (Sl.own v)) → ∃ a, σ[i]? = some (some (V.ref a)) ∧ F a = none ∧ Own K F H a v
  inj : ∀ (i j : Nat) (v u : PV) (a : Addr), ρ[i]? = some (some (Sl.own v)) → ρ[j]? = some (some (Sl.own u)) → σ[i]? = some (some (V.ref a)) → σ[j]? = some (some (V.ref a)) → i = j
  len : σ.length = ρ.length
structure Step (K : PySem.W.Frag) (F : Hp) (σ : St) (H : Hp) (ρ : Env) (F' : Hp) (σ' : St) (H' : Hp) (ρ' : Env) : Prop where
  le : Same F F'
  frm : ∀ a o, H a = some o → ¬ OwnAt σ ρ a → H' a = some o
  dom : ∀ a, H a ≠ none → H' a ≠ none
  sub : ∀ a, OwnAt σ' ρ' a → OwnAt σ ρ a ∨ H a = none
  fz : ∀ a o, F' a = some o → F a = some o ∨ H a = none ∨ OwnAt σ ρ a
  len : σ'.length = σ.length
  re : RE K F' σ' H' ρ'
end
section
variable {K : PySem.W.Frag} {F F1 F2 H H1 H2 : Hp} {σ σ1 σ2 : St} {ρ ρ1 ρ2 : Env}
theorem Step.refl (r : RE K F σ H ρ) : Step K F σ H ρ F σ H ρ := ⟨Same.refl _, fun _ _ h _ => h, fun _ h => h, fun _ h => .inl h, fun _ _ h => .inl h, rfl, r⟩
theorem Step.none_of (a : Step K F σ H ρ F1 σ1 H1 ρ1) {c : Addr} (e : H1 c = none) : H c = none := by
  cases q : H c with
  | none => rfl
  | some o => exact absurd e (a.dom c (by rw [q]; simp))
theorem Step.trans (a : Step K F σ H ρ F1 σ1 H1 ρ1) (b : Step K F1 σ1 H1 ρ1 F2 σ2 H2 ρ2) : Step K F σ H ρ F2 σ2 H2 ρ2 := by
  have hn : ∀ c, H1 c = none → H c = none := fun c e => by
    cases q : H c with
    | none => rfl
    | some o => exact absurd e (a.dom c (by rw [q]; simp))
  refine ⟨a.le.trans b.le, fun c o e n => b.frm c o (a.frm c o e n) fun z => ?_, fun c h => b.dom c (a.dom c h), fun c z => ?_, fun c o e => ?_, b.len.trans a.len, b.re⟩
  · rcases a.sub c z with y | y
    · exact n y
    · rw [e] at y; cases y
  · rcases b.sub c z with y | y
    · exact a.sub c y
    · exact .inr (hn c y)
  · rcases b.fz c o e with y | y | y
    · exact a.fz c o y
    · exact .inr (.inl (hn c y))
    · rcases a.sub c y with z | z
      · exact .inr (.inr z)
      · exact .inr (.inl z)
/-- new things are laid and fixed; no slot's own thing is touched -/
structure Grow (F H F' H' : Hp) : Prop where
  f : Same F F'
  h : Same H H'
  le : Same F' H'
  fz : ∀ a o, F' a = some o → F a = some o ∨ H a = none
theorem Grow.refl (h : Same F H) : Grow F H F H := ⟨Same.refl _, Same.refl _, h, fun _ _ e => .inl e⟩
theorem Grow.new {p : Addr} {o : HO} (h : Same F H) (n : H p = none) : Grow F H (upd F p o) (upd H p o) := by
  have nf : F p = none := h.free n
  refine ⟨fun b u e => ?_, fun b u e => ?_, fun b u e => ?_, fun b u e => ?_⟩
  · rw [upd_ne (ne_of_none e nf)]; exact e
  · rw [upd_ne (ne_of_none e n)]; exact e
  · by_cases hb : b = p
    · subst hb; rw [upd_same] at e ⊢; exact e
    · rw [upd_ne hb] at e ⊢; exact h b u e
  · by_cases hb : b = p
    · subst hb; exact .inr n
    · rw [upd_ne hb] at e; exact .inl e
theorem Grow.trans (a : Grow F H F1 H1) (b : Grow F1 H1 F2 H2) : Grow F H F2 H2 :=
  ⟨a.f.trans b.f, a.h.trans b.h, b.le, fun c o e => by
    rcases b.fz c o e with y | y
    · exact a.fz c o y
    · exact .inr (a.h.free y)⟩
theorem RE.grow (r : RE K F σ H ρ) (g : Grow F H F1 H1) : RE K F1 σ H1 ρ := by
  refine ⟨g.le, fun i v e => ?_, fun i v e => ?_, r.inj, r.len⟩
  · obtain ⟨w, h1, h2⟩ := r.val i v e
    exact ⟨w, h1, h2.mono g.f⟩
  · obtain ⟨a, h1, h2, h3⟩ := r.own i v e
    obtain ⟨o, ho⟩ := h3.some
    refine ⟨a, h1, ?_, h3.mono g.f ((g.h a o ho).trans ho.symm)⟩
    cases q : F1 a with
    | none => rfl
    | some u =>
      rcases g.fz a u q with y | y
      · rw [h2] at y; cases y
      · rw [ho] at y; cases y
theorem Grow.step (g : Grow F H F1 H1) (r : RE K F σ H ρ) : Step K F σ H ρ F1 σ H1 ρ :=
  ⟨g.f, fun a o e _ => g.h a o e, fun a n z => n (g.h.free z), fun a z => .inl z, fun a o e => (g.fz a o e).elim .inl fun z => .inr (.inl z), rfl, r.grow g⟩
end

section
variable (K : PySem.W.Frag) (Ex : Nat → Hp → Prop)
/-- f, run at the state told by F and ρ, ends well, and Q holds behind it -/
def At {α β : Type} (R : Hp → Hp → St → Env → β → α → Prop) (F : Hp) (ρ : Env) (f : M α) (σ : St) (H : Hp) (Q : β → Hp → Prop) : Prop :=
  RE K F σ H ρ ∧ match f ρ with
    | .ok v ρ' => ∀ w F' H', Step K F σ H ρ F' σ H' ρ' → R F' H' σ ρ' w v → Q w H'
    | .exc c ρ' => ∀ F' H', Step K F σ H ρ F' σ H' ρ' → Ex c H'
    | .bad => False
def RV : Hp → Hp → St → Env → V → PV → Prop := fun F _ _ _ w v => Rep K F w v
def RVs : Hp → Hp → St → Env → List V → List PV → Prop := fun F _ _ _ w v => Reps K F w v
/-- a new list or dict that no slot reaches yet -/
def RF (H0 : Hp) : Hp → Hp → St → Env → V → PV → Prop := fun F H σ ρ w v => ∃ a, w = .ref a ∧ F a = none ∧ Own K F H a v ∧ ¬ OwnAt σ ρ a ∧ H0 a = none
def RB : Hp → Hp → St → Env → Bool → Bool → Prop := fun _ _ _ _ w v => w = v
/-- an operand: a value, or the name of a slot (read when it is wanted) -/
inductive Tk where
  | v (a : PV)
  | s (i : Nat)
def force : Tk → M PV
  | .v a => ret a
  | .s i => pk i
def RT : Hp → St → V → Tk → Prop := fun F σ w t =>
  match t with
  | .v a => Rep K F w a
  | .s i => σ[i]? = some (some w)
def RTs (F : Hp) (σ : St) : List V → List Tk → Prop
  | [], [] => True
  | w :: ws, t :: ts => RT K F σ w t ∧ RTs F σ ws ts
  | _, _ => False
def forces : List Tk → M (List PV)
  | [] => ret []
  | t :: ts => bnd (force t) fun a => bnd (forces ts) fun as => ret (a :: as)
def tX (f : M PV) : TE := fun σ H Q => ∃ F ρ, At K Ex (RV K) F ρ f σ H Q
def tT (f : M Bool) : TT := fun σ H Q => ∃ F ρ, At K Ex RB F ρ f σ H Q
def tO (f : M Tk) : TE := fun σ H Q => ∃ F ρ, At K Ex (fun F _ σ _ => RT K F σ) F ρ f σ H Q
def tF (f : M PV) : TE := fun σ H Q => ∃ F ρ, At K Ex (RF K H) F ρ f σ H Q
def tA (f : M (List PV)) : TA := fun σ H Q => ∃ F ρ, At K Ex (RVs K) F ρ f σ H Q
def tOA (f : M (List Tk)) : TA := fun σ H Q => ∃ F ρ, At K Ex (fun F _ σ _ => RTs K F σ) F ρ f σ H Q
end
section
variable {K : PySem.W.Frag} {Ex : Nat → Hp → Prop} {F F1 F' H H1 H' : Hp} {σ : St} {ρ ρ1 : Env}
theorem At.mono {α β : Type} {R : Hp → Hp → St → Env → β → α → Prop} {f : M α} {Q Q' : β → Hp → Prop} (h : At K Ex R F ρ f σ H Q) (m : ∀ w H', Q w H' → Q' w H') : At K Ex R F ρ f σ H Q' := by
  unfold At at h ⊢
  refine ⟨h.1, ?_⟩
  have h2 := h.2
  cases e : f ρ with
  | ok v r => rw [e] at h2; exact fun w F' H' st r => m w H' (h2 w F' H' st r)
  | exc c r => rw [e] at h2; exact h2
  | bad => rw [e] at h2; exact h2
theorem At.bnd {α β γ δ : Type} {R : Hp → Hp → St → Env → β → α → Prop} {R1 : Hp → Hp → St → Env → δ → γ → Prop} {f : M α} {k : α → M γ} {Q : δ → Hp → Prop} (h : At K Ex R1 F ρ (bnd f k) σ H Q) :
    At K Ex R F ρ f σ H fun w H1 => ∃ F1 ρ1 v, Step K F σ H ρ F1 σ H1 ρ1 ∧ R F1 H1 σ ρ1 w v ∧ At K Ex R1 F1 ρ1 (k v) σ H1 Q := by
  unfold At at h ⊢
  refine ⟨h.1, ?_⟩
  have h2 := h.2
  unfold G7.bnd at h2
  cases e : f ρ with
  | ok v r =>
    rw [e] at h2
    intro w F1 H1 st rr
    refine ⟨F1, r, v, st, rr, st.re, ?_⟩
    simp only at h2
    cases e2 : k v r with
    | ok u r2 => rw [e2] at h2; exact fun w F' H' st' r' => h2 w F' H' (st.trans st') r'
    | exc c r2 => rw [e2] at h2; exact fun F' H' st' => h2 F' H' (st.trans st')
    | bad => rw [e2] at h2; exact h2
  | exc c r => rw [e] at h2; exact h2
  | bad => rw [e] at h2; exact h2
theorem At.lft {α β : Type} {R : Hp → Hp → St → Env → β → α → Prop} {o : Option α} {Q : β → Hp → Prop} (h : At K Ex R F ρ (G7.lft o) σ H Q) :
    ∃ v, o = some v ∧ ∀ w F' H', Step K F σ H ρ F' σ H' ρ → R F' H' σ ρ w v → Q w H' := by
  unfold At G7.lft at h
  cases o with
  | none => exact h.2.elim
  | some v => exact ⟨v, rfl, h.2⟩
theorem At.ret {α β : Type} {R : Hp → Hp → St → Env → β → α → Prop} {v : α} {Q : β → Hp → Prop} (h : At K Ex R F ρ (G7.ret v) σ H Q) {w : β} (r : R F H σ ρ w v) : Q w H := h.2 w F H (Step.refl h.1) r
/-- a value as an operand reads it: fixed, or a slot's own thing -/
def SRep (K : PySem.W.Frag) (F H : Hp) (w : V) (v : PV) : Prop := Rep K F w v ∨ ∃ a, w = .ref a ∧ F a = none ∧ Own K F H a v
theorem RT.mono (h : Same F F') {w : V} : ∀ {t : Tk}, RT K F σ w t → RT K F' σ w t
  | .v _, r => Rep.mono h r
  | .s _, r => r
theorem RTs.mono (h : Same F F') : ∀ {w : List V} {t : List Tk}, RTs K F σ w t → RTs K F' σ w t
  | [], [], _ => trivial
  | _ :: _, _ :: _, ⟨a, b⟩ => ⟨RT.mono h a, RTs.mono h b⟩
  | [], _ :: _, r => r.elim
  | _ :: _, [], r => r.elim
theorem RE.peek (r : RE K F σ H ρ) {i : Nat} {w : V} (e : σ[i]? = some (some w)) {v : PV} {ρ' : Env} (h : pk i ρ = .ok v ρ') : ρ' = ρ ∧ SRep K F H w v := by
  unfold pk at h
  split at h
  · rename_i u q
    cases h
    obtain ⟨w', h1, h2⟩ := r.val i _ q
    rw [e] at h1; cases h1
    exact ⟨rfl, .inl h2⟩
  · rename_i u q
    cases h
    obtain ⟨a, h1, h2, h3⟩ := r.own i _ q
    rw [e] at h1; cases h1
    exact ⟨rfl, .inr ⟨a, rfl, h2, h3⟩⟩
  · cases h
theorem At.force {α β : Type} {R : Hp → Hp → St → Env → β → α → Prop} {t : Tk} {k : PV → M α} {Q : β → Hp → Prop} (h : At K Ex R F ρ (G7.bnd (G7.force t) k) σ H Q) {w : V} (r : RT K F σ w t) :
    ∃ v, SRep K F H w v ∧ At K Ex R F ρ (k v) σ H Q := by
  cases t with
  | v a => exact ⟨a, .inl r, h⟩
  | s i =>
    unfold At G7.bnd G7.force at h
    obtain ⟨hr, h2⟩ := h
    cases e : pk i ρ with
    | ok v r' =>
      obtain ⟨e1, e2⟩ := hr.peek r e
      subst e1
      simp only [e] at h2
      exact ⟨v, e2, hr, h2⟩
    | exc c r' =>
      unfold pk at e
      split at e <;> cases e
    | bad => simp only [e] at h2
def SReps (K : PySem.W.Frag) (F H : Hp) : List V → List PV → Prop
  | [], [] => True
  | w :: ws, t :: ts => SRep K F H w t ∧ SReps K F H ws ts
  | _, _ => False
theorem At.assoc {α β γ δ : Type} {R : Hp → Hp → St → Env → δ → γ → Prop} {f : M α} {g : α → M β} {k : β → M γ} {Q : δ → Hp → Prop} (h : At K Ex R F ρ (G7.bnd (G7.bnd f g) k) σ H Q) : At K Ex R F ρ (G7.bnd f fun a => G7.bnd (g a) k) σ H Q := by
  have e : G7.bnd (G7.bnd f g) k = G7.bnd f fun a => G7.bnd (g a) k := by
    funext r
    unfold G7.bnd
    cases f r <;> rfl
  rw [← e]; exact h
theorem At.forces {α β : Type} {R : Hp → Hp → St → Env → β → α → Prop} {Q : β → Hp → Prop} : ∀ {ts : List Tk} {k : List PV → M α}, At K Ex R F ρ (G7.bnd (G7.forces ts) k) σ H Q → ∀ {ws : List V}, RTs K F σ ws ts →
    ∃ vs, SReps K F H ws vs ∧ At K Ex R F ρ (k vs) σ H Q
  | [], k, h, [], _ => ⟨[], trivial, h⟩
  | [], k, h, _ :: _, r => r.elim
  | _ :: _, k, h, [], r => r.elim
  | t :: ts, k, h, w :: ws, ⟨r1, r2⟩ => by
    obtain ⟨v, s1, h1⟩ := At.force (At.assoc h) r1
    obtain ⟨vs, s2, h2⟩ := At.forces (At.assoc h1) r2
    exact ⟨v :: vs, ⟨s1, s2⟩, h2⟩
end
section
variable {X : Cx}
theorem pe_weak {e : Expr} {t t' : TE} (h : PE X e t) (m : ∀ σ H Q, t' σ H Q → t σ H Q) : PE X e t' := ⟨fun pins s σ H Q I q => h.run pins s σ H Q I (m σ H Q q)⟩
theorem pt_weak {e : Expr} {t t' : TT} (h : PT X e t) (m : ∀ σ H Q, t' σ H Q → t σ H Q) : PT X e t' := ⟨fun pins s σ H Q I q => h.run pins s σ H Q I (m σ H Q q)⟩
theorem pw_weak {e : Expr} {t t' : TT} (h : PW X e t) (m : ∀ σ H Q, t' σ H Q → t σ H Q) : PW X e t' := ⟨fun wh pins s σ H Q I q => h.run wh pins s σ H Q I (m σ H Q q)⟩
theorem pa_weak {e : List Expr} {t t' : TA} (h : PA X e t) (m : ∀ σ H Q, t' σ H Q → t σ H Q) : PA X e t' := ⟨fun pos pins s σ H Q I q => h.run pos pins s σ H Q I (m σ H Q q)⟩
theorem ps_weak {e : Stmt} {t t' : TS} (h : PS X e t) (m : ∀ D σ H, t' D σ H → t D σ H) : PS X e t' := ⟨fun pins s σ H Q I q => h.run pins s σ H Q I (m Q σ H q)⟩
theorem pss_weak {e : List Stmt} {t t' : TS} (h : PSs X e t) (m : ∀ D σ H, t' D σ H → t D σ H) : PSs X e t' := ⟨fun pins s σ H Q I q => h.run pins s σ H Q I (m Q σ H q)⟩
end
end G7

set_option Elab.async false
set_option linter.all false
set_option maxRecDepth 100000
set_option autoImplicit false
namespace G7
open PySem PySem.Spec PyProof.Rows L2

section
variable {K : PySem.W.Frag} {F H : Hp} {w : V}
theorem SRep.up {v : PV} (h : Rep K F w v) : SRep K F H w v := .inl h
theorem SRep.non (h : SRep K F H w .non) : w = .non := by
  rcases h with h | ⟨_, _, _, o⟩
  · cases h; rfl
  · exact o.elim
theorem SRep.bl {b : Bool} (h : SRep K F H w (.bl b)) : w = .bl b := by
  rcases h with h | ⟨_, _, _, o⟩
  · cases h; rfl
  · exact o.elim
theorem SRep.int {i : Int} (h : SRep K F H w (.int i)) : w = .int i := by
  rcases h with h | ⟨_, _, _, o⟩
  · cases h; rfl
  · exact o.elim
theorem SRep.str {l : List Nat} (h : SRep K F H w (.str l)) : w = .str ⟨l.toArray⟩ ∧ ∀ c ∈ l, c < 1114112 := by
  rcases h with h | ⟨_, _, _, o⟩
  · cases h with | str q => exact ⟨rfl, q⟩
  · exact o.elim
theorem SRep.lst {xs : List PV} (le : Same F H) (h : SRep K F H w (.lst xs)) : ∃ p vs, w = .ref p ∧ H p = some (.lst vs) ∧ Reps K F vs xs := by
  rcases h with h | ⟨a, e, _, vs, o, r⟩
  · cases h with | lst q r => exact ⟨_, _, rfl, le _ _ q, r⟩
  · exact ⟨a, vs, e, o, r⟩
theorem SRep.tup {xs : List PV} (h : SRep K F H w (.tup xs)) : ∃ p vs, w = .ref p ∧ SqT K F p vs ∧ Reps K F vs xs := by
  rcases h with h | ⟨_, _, _, o⟩
  · cases h with | tup q r => exact ⟨_, _, rfl, q, r⟩
  · exact o.elim
theorem SRep.dct {xs : List (PV × PV)} (le : Same F H) (h : SRep K F H w (.dct xs)) : ∃ p vs, w = .ref p ∧ Rd H p (.dK vs) ∧ RepD K F vs xs := by
  rcases h with h | ⟨a, e, _, vs, o, r⟩
  · cases h with | dct q r => exact ⟨_, _, rfl, .inr ⟨_, le _ _ q⟩, r⟩
  · exact ⟨a, vs, e, .inl o, r⟩
theorem SRep.scr {ns : List Int} (h : SRep K F H w (.scr ns)) : ∃ p, w = .ref p ∧ SqL K F p (ns.map V.int) := by
  rcases h with h | ⟨_, _, _, o⟩
  · cases h with | scr q => exact ⟨_, rfl, q⟩
  · exact o.elim
end

/-- what a result is to be: new things laid, the value told by the plain one -/
abbrev Fin1 (K : PySem.W.Frag) (F H : Hp) (v : PV) (Q : VK) : Prop := ∀ w F' H', Grow F H F' H' → Rep K F' w v → Q w H'
def Opr1 (K : PySem.W.Frag) (r : V → Hp → VK → Prop) (g : PV → Option PV) : Prop := ∀ F H x a v Q, Same F H → SRep K F H x a → g a = some v → Fin1 K F H v Q → r x H Q
def Opr2 (K : PySem.W.Frag) (r : R2) (g : PV → PV → Option PV) : Prop := ∀ F H x y a b v Q, Same F H → SRep K F H x a → SRep K F H y b → g a b = some v → Fin1 K F H v Q → r x y H Q
def OprN (K : PySem.W.Frag) (r : List V → Hp → VK → Prop) (g : List PV → Option PV) : Prop := ∀ F H xs as v Q, Same F H → SReps K F H xs as → g as = some v → Fin1 K F H v Q → r xs H Q
def OprM (K : PySem.W.Frag) (r : V → List V → Hp → VK → Prop) (g : PV → List PV → Option PV) : Prop := ∀ F H x xs a as v Q, Same F H → SRep K F H x a → SReps K F H xs as → g a as = some v → Fin1 K F H v Q → r x xs H Q

section
variable {K : PySem.W.Frag} {F H : Hp} {Q : VK}
theorem Fin1.same {v : PV} {w : V} (le : Same F H) (q : Fin1 K F H v Q) (r : Rep K F w v) : Q w H := q w F H (Grow.refl le) r
theorem Fin1.newL {xs : List PV} {vs : List V} {p : Addr} (le : Same F H) (q : Fin1 K F H (.lst xs) Q) (n : H p = none) (r : Reps K F vs xs) : Q (.ref p) (upd H p (.lst vs)) :=
  q _ _ _ (Grow.new le n) (.lst upd_same (r.mono (Grow.new le n).f))
theorem Fin1.newT {xs : List PV} {vs : List V} {p : Addr} (le : Same F H) (q : Fin1 K F H (.tup xs) Q) (n : H p = none) (r : Reps K F vs xs) : Q (.ref p) (upd H p (.tup vs)) :=
  q _ _ _ (Grow.new le n) (.tup (.of upd_same) (r.mono (Grow.new le n).f))
theorem str_app (l m : List Nat) : (⟨l.toArray⟩ : Str) ++ ⟨m.toArray⟩ = ⟨(l ++ m).toArray⟩ := TL.ext_tl (TL.tl_append _ _)
theorem str_len (l : List Nat) : (⟨l.toArray⟩ : Str).length = l.length := rfl
theorem str_inj {l m : List Nat} (h : (⟨l.toArray⟩ : Str) = ⟨m.toArray⟩) : l = m := by
  have := congrArg TL.tl h
  exact this
theorem bnd_app {l m : List Nat} (h : ∀ c ∈ l, c < 1114112) (h' : ∀ c ∈ m, c < 1114112) : ∀ c ∈ l ++ m, c < 1114112 := fun c hc => (List.mem_append.mp hc).elim (h c) (h' c)
theorem line_eq : sizeLine = LINE := sizeLine_eq

def rAddA (K : PySem.W.Frag) : R2 := fun x y H Q => (rI0 (fun i j => .int (i + j)) x y H Q) ∨ ((∃ i j, x = .str i ∧ y = .str j ∧ i.length + j.length ≤ sizeLine ∧ Q (.str (i ++ j)) H) ∨ (rCat x y H Q ∨ rCatA K x y H Q))
theorem op_addA {X : Cx} : OpR X (binaryOp .Add) (rAddA X.K) := op_add.or (op_add_str.or (op_cat.or op_catA))
theorem opr_add : Opr2 K (rAddA K) addV := by
  intro F H x y a b v Q le sx sy e q
  unfold addV at e
  split at e
  · cases e
    exact .inl ⟨_, _, sx.int, sy.int, q.same le (.int _)⟩
  · rename_i l m
    split at e
    · rename_i hl
      cases e
      obtain ⟨e1, b1⟩ := sx.str
      obtain ⟨e2, b2⟩ := sy.str
      refine .inr (.inl ⟨_, _, e1, e2, by rw [line_eq]; exact hl, ?_⟩)
      rw [str_app]
      exact q.same le (.str (bnd_app b1 b2))
    · cases e
  · rename_i xs ys
    split at e
    · rename_i hl
      cases e
      obtain ⟨p, vs, e1, h1, r1⟩ := sx.lst le
      obtain ⟨p2, us, e2, h2, r2⟩ := sy.lst le
      exact .inr (.inr (.inl ⟨p, p2, vs, us, e1, e2, h1, h2, by rw [r1.len, r2.len, line_eq]; exact hl, fun n hn => q.newL le hn (r1.app r2)⟩))
    · cases e
  · rename_i xs ys
    split at e
    · rename_i hl
      cases e
      obtain ⟨p, vs, e1, h1, r1⟩ := sx.tup
      obtain ⟨p2, us, e2, h2, r2⟩ := sy.tup
      refine .inr (.inr (.inr ⟨p, p2, vs, us, e1, e2, seqT_mono le h1, seqT_mono le h2, by rw [r1.len, r2.len, line_eq]; exact hl, fun z => ?_, fun _ z => ?_, fun _ _ n hn => q.newT le hn (r1.app r2)⟩))
      · subst z
        cases r1
        exact q.same le (.tup h2 r2)
      · subst z
        cases r2
        rw [List.append_nil] at q
        exact q.same le (.tup h1 r1)
    · cases e
  · cases e
theorem opr_sub : Opr2 K (rI0 fun i j => .int (i - j)) subV := by
  intro F H x y a b v Q le sx sy e q
  unfold subV at e
  split at e
  · cases e
    exact ⟨_, _, sx.int, sy.int, q.same le (.int _)⟩
  · cases e

theorem rep_flat {α : Type} (xs : List α) : ∀ n : Nat, (List.replicate n xs).flatten = rep n xs
  | 0 => rfl
  | n + 1 => by rw [List.replicate_succ, List.flatten_cons, rep_flat xs n]; rfl
def rMulS : R2 := fun x y H Q => ∃ (c : Nat) (j : Int), x = .str ⟨#[c]⟩ ∧ y = .int j ∧ -(2 ^ 30) ≤ j ∧ j ≤ 16777216 ∧ Q (.str ⟨(List.replicate j.toNat c).toArray⟩) H
theorem op_mulS {X : Cx} : OpR X (binaryOp .Mult) rMulS := by
  intro pins s σ H x y v u Q I rx ry h
  obtain ⟨c, j, rfl, rfl, h1, h2, q⟩ := h
  obtain ⟨t, rfl⟩ := rx
  obtain ⟨t', rfl⟩ := ry
  have hl : (⟨#[c]⟩ : Str).length = 1 := rfl
  refine PySem.SB.mul ⟨?_, fun a b => ?_, fun a b => ?_⟩ fun t' k => ⟨.str (Txt.mul ⟨#[c]⟩ j), H, I.tok _, ⟨_, rfl⟩, ?_⟩
  · rw [decide_eq_false (by omega), decide_eq_false (by omega)]; rfl
  · rw [hl]
    have h3 : (1 : Int) ≤ (2 ^ 63 - 1) / j := by
      rw [Int.le_ediv_iff_mul_le (by omega)]
      omega
    omega
  · rw [hl]
    unfold Builtin.Str.tooLong
    simp only [Nat.one_mul]
    refine decide_eq_false ?_
    rw [sizeLine_eq]
    omega
  · have e : Txt.mul ⟨#[c]⟩ j = ⟨(List.replicate j.toNat c).toArray⟩ := TL.ext_tl (PyProof.Rows.mul_one_list c j)
    rw [e]; exact q
def rMulA (K : PySem.W.Frag) : R2 := fun x y H Q => rI CMul (fun i j => .int (i * j)) x y H Q ∨ (rMulS x y H Q ∨ (rRep x y H Q ∨ rRepT K x y H Q))
theorem op_mulA {X : Cx} : OpR X (binaryOp .Mult) (rMulA X.K) := op_mul.or (op_mulS.or (op_rep.or op_repT))
theorem opr_mul : Opr2 K (rMulA K) mulV := by
  intro F H x y a b v Q le sx sy e q
  unfold mulV at e
  split at e
  · split at e
    · rename_i i j hm
      cases e
      refine .inl ⟨_, _, sx.int, sy.int, ?_, q.same le (.int _)⟩
      exact mulOk_of hm
    · cases e
  · split at e
    · rename_i c j hm
      cases e
      have hm := near_of hm
      obtain ⟨e1, b1⟩ := sx.str
      refine .inr (.inl ⟨c, j, e1, sy.int, by omega, by omega, q.same le (.str fun d hd => ?_)⟩)
      rw [(List.mem_replicate.mp hd).2]
      exact b1 c (by simp)
    · cases e
  · split at e
    · rename_i xs j hm
      cases e
      simp only [Bool.and_eq_true, decide_eq_true_eq] at hm
      obtain ⟨p, vs, e1, h1, r1⟩ := sx.lst le
      refine .inr (.inr (.inl ⟨p, j, vs, e1, sy.int, h1, by have := near_of hm.2; omega, by have := near_of hm.2; omega, by rw [r1.len, line_eq]; exact hm.1, fun n hn => ?_⟩))
      exact q.newL le hn (r1.rep j.toNat)
    · cases e
  · split at e
    · rename_i xs j hm
      cases e
      simp only [Bool.and_eq_true, decide_eq_true_eq, Bool.not_eq_true'] at hm
      obtain ⟨p, vs, e1, h1, r1⟩ := sx.tup
      refine .inr (.inr (.inr ⟨p, j, vs, e1, sy.int, seqT_mono le h1, fun z => ?_, hm.1.1.2, by have := near_of hm.1.2; omega, by rw [r1.len]; exact hm.1.1.1, fun n hn => ?_⟩))
      · subst z; cases r1; exact absurd hm.2 (by decide)
      · exact q.newT le hn (r1.rep j.toNat)
    · cases e
  · cases e
theorem opr_div : Opr2 K (rI CDiv fun i j => .int (i / j)) divV := by
  intro F H x y a b v Q le sx sy e q
  unfold divV at e
  split at e
  · split at e
    · rename_i hm
      cases e
      simp only [Bool.and_eq_true, decide_eq_true_eq] at hm
      exact ⟨_, _, sx.int, sy.int, ⟨hm.1, by have := near_of hm.2; omega⟩, q.same le (.int _)⟩
    · cases e
  · cases e
theorem opr_mod : Opr2 K (rI (fun _ j => 0 < j) fun i j => .int (i % j)) modV := by
  intro F H x y a b v Q le sx sy e q
  unfold modV at e
  split at e
  · split at e
    · rename_i hm
      cases e
      exact ⟨_, _, sx.int, sy.int, hm, q.same le (.int _)⟩
    · cases e
  · cases e
theorem opr_pow : Opr2 K (rI CPow fun i j => .int (i ^ j.toNat)) powV := by
  intro F H x y a b v Q le sx sy e q
  unfold powV at e
  split at e
  · split at e
    · rename_i hm
      cases e
      simp only [Bool.and_eq_true, decide_eq_true_eq] at hm
      exact ⟨_, _, sx.int, sy.int, ⟨hm.1.1, by have := near_of hm.1.2; omega, hm.2⟩, q.same le (.int _)⟩
    · cases e
  · cases e
theorem opr_xor : Opr2 K (rI0 fun i j => .int (Builtin.bitXor i j)) xorV := by
  intro F H x y a b v Q le sx sy e q
  unfold xorV at e
  split at e
  · rename_i i j
    cases e
    refine ⟨_, _, sx.int, sy.int, ?_⟩
    have e2 : Builtin.bitXor (Int.ofNat i) (Int.ofNat j) = Int.ofNat (i ^^^ j) := Bits.bitXor_pp (Int.natCast_nonneg i) (Int.natCast_nonneg j)
    show Q (.int (Builtin.bitXor (Int.ofNat i) (Int.ofNat j))) H
    rw [e2]
    exact q.same le (.int _)
  · cases e
theorem opr_neg : Opr1 K (rU fun i => .int (-i)) negV := by
  intro F H x a v Q le sx e q
  unfold negV at e
  split at e
  · cases e
    exact ⟨_, sx.int, q.same le (.int _)⟩
  · cases e

mutual
def toD : PV → PyData
  | .non => .none
  | .bl b => .bool b
  | .int i => .int i
  | .str l => .str ⟨l.toArray⟩
  | .lst xs => .list (toDs xs)
  | .tup xs => .tuple (toDs xs)
  | .scr ns => .list (ns.map .int)
  | .dct _ => .none
  | .ref _ => .none
def toDs : List PV → List PyData
  | [] => []
  | x :: xs => toD x :: toDs xs
end

theorem str_beq (l m : List Nat) : ((⟨l.toArray⟩ : Str) == ⟨m.toArray⟩) = (l == m) := by
  by_cases h : l = m
  · subst h; simp
  · have h2 : (⟨l.toArray⟩ : Str) ≠ ⟨m.toArray⟩ := fun e => h (str_inj e)
    rw [beq_eq_false_iff_ne.mpr h, beq_eq_false_iff_ne.mpr h2]

theorem eqvI_r : ∀ (ns : List Int) (ys : List PV), PyData.eqvAll (ns.map .int) (toDs ys) = eqvI ys ns
  | [], [] => rfl
  | [], y :: _ => by cases y <;> rfl
  | _ :: _, [] => rfl
  | n :: ns, y :: ys => by
    show (PyData.eqv (.int n) (toD y) && PyData.eqvAll (ns.map .int) (toDs ys)) = _
    rw [eqvI_r ns ys]
    cases y <;> first | rfl | skip
    · rename_i b
      show ((n == if b then 1 else 0) && eqvI ys ns) = (b2i b == n && eqvI ys ns)
      rw [BEq.comm]; rfl
    · rename_i i
      show (n == i && eqvI ys ns) = (i == n && eqvI ys ns)
      rw [BEq.comm]
theorem eqvI_l : ∀ (ns : List Int) (ys : List PV), PyData.eqvAll (toDs ys) (ns.map .int) = eqvI ys ns
  | [], [] => rfl
  | [], y :: ys => by
    show PyData.eqvAll (toD y :: toDs ys) [] = _
    cases y <;> rfl
  | n :: ns, [] => rfl
  | n :: ns, y :: ys => by
    show (PyData.eqv (toD y) (.int n) && PyData.eqvAll (toDs ys) (ns.map .int)) = _
    rw [eqvI_l ns ys]
    cases y <;> rfl
theorem eqvI_s : ∀ (ns ms : List Int), PyData.eqvAll (ns.map .int) (ms.map .int) = (ns == ms)
  | [], [] => rfl
  | [], _ :: _ => rfl
  | _ :: _, [] => rfl
  | n :: ns, m :: ms => by
    show (PyData.eqv (.int n) (.int m) && PyData.eqvAll (ns.map .int) (ms.map .int)) = _
    rw [eqvI_s ns ms]
    rfl
mutual
/-- no dict, no bare address -/
def dat : PV → Bool
  | .non => true
  | .bl _ => true
  | .int _ => true
  | .str _ => true
  | .lst xs => dats xs
  | .tup xs => dats xs
  | .scr _ => true
  | _ => false
def dats : List PV → Bool
  | [] => true
  | x :: xs => dat x && dats xs
end
mutual
theorem eqv_D : ∀ (x y : PV), dat x = true → dat y = true → PyData.eqv (toD x) (toD y) = eqv x y
  | .non, y, _, hy => by cases y <;> first | rfl | (simp [dat] at hy)
  | .bl b, y, _, hy => by cases y <;> first | rfl | (simp [dat] at hy)
  | .int i, y, _, hy => by cases y <;> first | rfl | (simp [dat] at hy)
  | .str l, y, _, hy => by
    cases y <;> first | rfl | (simp [dat] at hy) | skip
    rename_i m
    exact str_beq l m
  | .lst xs, y, hx, hy => by
    cases y <;> first | rfl | (simp [dat] at hy) | skip
    · rename_i ys
      exact eqvs_D xs ys (by simpa [dat] using hx) (by simpa [dat] using hy)
    · rename_i ns
      exact eqvI_l ns xs
  | .tup xs, y, hx, hy => by
    cases y <;> first | rfl | (simp [dat] at hy) | skip
    rename_i ys
    exact eqvs_D xs ys (by simpa [dat] using hx) (by simpa [dat] using hy)
  | .scr ns, y, hx, hy => by
    cases y <;> first | rfl | (simp [dat] at hy) | skip
    · rename_i ys
      exact eqvI_r ns ys
    · rename_i ms
      exact eqvI_s ns ms
  | .dct _, _, hx, _ => by simp [dat] at hx
  | .ref _, _, hx, _ => by simp [dat] at hx
theorem eqvs_D : ∀ (x y : List PV), dats x = true → dats y = true → PyData.eqvAll (toDs x) (toDs y) = eqvs x y
  | [], [], _, _ => rfl
  | [], _ :: _, _, _ => rfl
  | _ :: _, [], _, _ => rfl
  | x :: xs, y :: ys, hx, hy => by
    rw [dats, Bool.and_eq_true] at hx hy
    show (PyData.eqv (toD x) (toD y) && PyData.eqvAll (toDs xs) (toDs ys)) = (eqv x y && eqvs xs ys)
    rw [eqv_D x y hx.1 hy.1, eqvs_D xs ys hx.2 hy.2]
end
theorem dats_of : ∀ {xs : List PV}, (∀ x ∈ xs, dat x = true) → dats xs = true
  | [], _ => rfl
  | x :: xs, h => by rw [dats, h x (by simp), dats_of fun y hy => h y (List.mem_cons_of_mem _ hy)]; rfl
theorem dp_dat : ∀ {n : Nat} {x : PV}, dp n x = true → dat x = true
  | 0, x, h => by cases x <;> first | rfl | (simp [dp] at h)
  | n + 1, x, h => by
    cases x <;> first | rfl | (simp [dp] at h) | skip
    · rename_i xs
      exact dats_of fun y hy => dp_dat (n := n) (h y hy)
    · rename_i xs
      exact dats_of fun y hy => dp_dat (n := n) (h y hy)
theorem depthAll_le {n : Nat} : ∀ {xs : List PV}, (∀ x ∈ xs, (toD x).depth ≤ n) → PyData.depthAll (toDs xs) ≤ n
  | [], _ => Nat.zero_le _
  | x :: xs, h => by
    show max (toD x).depth (PyData.depthAll (toDs xs)) ≤ n
    have h1 := h x (by simp)
    have h2 := depthAll_le (n := n) (xs := xs) fun y hy => h y (List.mem_cons_of_mem _ hy)
    omega

theorem depthAll_ints : ∀ ns : List Int, PyData.depthAll (ns.map .int) = 0
  | [] => rfl
  | n :: ns => by
    show max 0 (PyData.depthAll (ns.map .int)) = 0
    rw [depthAll_ints ns]; rfl
theorem dp_depth : ∀ {n : Nat} {x : PV}, dp n x = true → (toD x).depth ≤ n
  | 0, x, h => by cases x <;> first | exact Nat.le_refl 0 | (simp [dp] at h)
  | n + 1, x, h => by
    cases x <;> first | exact Nat.zero_le _ | (simp [dp] at h) | skip
    · rename_i xs
      exact Nat.succ_le_succ (depthAll_le fun y hy => dp_depth (n := n) (h y hy))
    · rename_i xs
      exact Nat.succ_le_succ (depthAll_le fun y hy => dp_depth (n := n) (h y hy))
    · rename_i ns
      show PyData.depthAll (ns.map .int) + 1 ≤ n + 1
      rw [depthAll_ints]; omega
theorem lay_ints : ∀ ns : List Int, PyData.canLayAll0 (ns.map .int) = true
  | [] => rfl
  | n :: ns => by
    show (PyData.canLay0 (.int n) && PyData.canLayAll0 (ns.map .int)) = true
    rw [lay_ints ns]; rfl
theorem strOk_of {l : List Nat} (h : ∀ c ∈ l, c < 1114112) : PyData.strOk ⟨l.toArray⟩ = true := by
  unfold PyData.strOk
  simp only [Array.all_eq_true', List.mem_toArray, decide_eq_true_eq]
  exact h
theorem dpAll_ints (a : Addr) : ∀ ns : List Int, DpAll K H (ns.map V.int) (ns.map .int)
  | [] => .nil
  | n :: ns => .cons (.int n) (dpAll_ints a ns)
theorem lst_none {b : Addr} {vs : List V} (h : H b = some (.lst vs)) : SqL K H b vs := .of h
mutual
theorem Rep.data (le : Same F H) : ∀ {w : V} {x : PV}, Rep K F w x → dat x = true → Dp K H w (toD x) ∧ PyData.canLay0 (toD x) = true
  | _, _, .non, _ => ⟨.non, rfl⟩
  | _, _, .bl b, _ => ⟨.bl b, rfl⟩
  | _, _, .int i, _ => ⟨.int i, rfl⟩
  | _, _, .str q, _ => ⟨.str _, strOk_of q⟩
  | _, _, .lst q r, h => by
    obtain ⟨h1, h2⟩ := Reps.data le r (by simpa [dat] using h)
    exact ⟨.lst (.of (le _ _ q)) h1, h2⟩
  | _, _, .tup q r, h => by
    obtain ⟨h1, h2⟩ := Reps.data le r (by simpa [dat] using h)
    exact ⟨.tup (seqT_mono le q) h1, h2⟩
  | _, _, .scr (a := a) (ns := ns) q, _ => ⟨.lst (seqL_mono le q) (dpAll_ints a ns), lay_ints ns⟩
  | _, _, .dct _ _, h => by simp [dat] at h
  | _, _, .ref _, h => by simp [dat] at h
theorem Reps.data (le : Same F H) : ∀ {w : List V} {x : List PV}, Reps K F w x → dats x = true → DpAll K H w (toDs x) ∧ PyData.canLayAll0 (toDs x) = true
  | _, _, .nil, _ => ⟨.nil, rfl⟩
  | _, _, .cons (x := x) (xs := xs) r s, h => by
    rw [dats, Bool.and_eq_true] at h
    obtain ⟨h1, h2⟩ := Rep.data le r h.1
    obtain ⟨h3, h4⟩ := Reps.data le s h.2
    refine ⟨.cons h1 h3, ?_⟩
    show (PyData.canLay0 (toD x) && PyData.canLayAll0 (toDs xs)) = true
    rw [h2, h4]; rfl
end
theorem SRep.data {w : V} {x : PV} (le : Same F H) (h : SRep K F H w x) (hd : dat x = true) : Dp K H w (toD x) ∧ PyData.canLay0 (toD x) = true := by
  rcases h with h | ⟨a, rfl, _, o⟩
  · exact h.data le hd
  · cases x <;> first | exact o.elim | (simp [dat] at hd) | skip
    obtain ⟨vs, e, r⟩ := o
    obtain ⟨h1, h2⟩ := r.data le (by simpa [dat] using hd)
    exact ⟨.lst (.of e) h1, h2⟩
theorem shaped_of {n : Nat} {x : PV} (hn : n ≤ 64) (h1 : dp n x = true) (h2 : PyData.canLay0 (toD x) = true) : SeqAt.shaped (toD x) = true := by
  unfold SeqAt.shaped
  rw [h2, decide_eq_true (Nat.le_trans (dp_depth h1) hn)]; rfl
theorem opr_eq : Opr2 K (rEqD K) eqV := by
  intro F H x y a b v Q le sx sy e q
  unfold eqV at e
  split at e
  · rename_i hd
    cases e
    rw [Bool.and_eq_true] at hd
    obtain ⟨d1, c1⟩ := sx.data le (dp_dat hd.1)
    obtain ⟨d2, c2⟩ := sy.data le (dp_dat hd.2)
    refine ⟨_, _, d1, d2, shaped_of (by decide) hd.1 c1, shaped_of (by decide) hd.2 c2, ?_⟩
    rw [eqv_D a b (dp_dat hd.1) (dp_dat hd.2)]
    exact q.same le (.bl _)
  · cases e
theorem opr_ne : Opr2 K (rNeD K) neV := by
  intro F H x y a b v Q le sx sy e q
  unfold neV at e
  split at e
  · rename_i hd
    cases e
    rw [Bool.and_eq_true] at hd
    obtain ⟨d1, c1⟩ := sx.data le (dp_dat hd.1)
    obtain ⟨d2, c2⟩ := sy.data le (dp_dat hd.2)
    refine ⟨_, _, d1, d2, shaped_of (by decide) hd.1 c1, shaped_of (by decide) hd.2 c2, ?_⟩
    rw [eqv_D a b (dp_dat hd.1) (dp_dat hd.2)]
    exact q.same le (.bl _)
  · cases e

theorem ltL_iff : ∀ (x y : List Nat), decide (x < y) = ltL x y
  | [], [] => by simp [ltL]
  | [], _ :: _ => by simp [ltL]
  | _ :: _, [] => by simp [ltL]
  | a :: x, b :: y => by
    have ih := ltL_iff x y
    have h0 : decide (a :: x < b :: y) = decide (a < b ∨ a = b ∧ x < y) := by
      apply decide_eq_decide.mpr
      exact List.cons_lt_cons_iff
    rw [h0]
    unfold ltL
    by_cases h1 : a < b
    · rw [if_pos h1, decide_eq_true (.inl h1)]
    · rw [if_neg h1]
      by_cases h2 : b < a
      · rw [if_pos h2]
        exact decide_eq_false fun z => z.elim h1 fun z => by omega
      · rw [if_neg h2, ← ih]
        have h3 : a = b := by omega
        apply decide_eq_decide.mpr
        exact ⟨fun z => z.elim (fun z => absurd z h1) fun z => z.2, fun z => .inr ⟨h3, z⟩⟩
def rLtA : R2 := fun x y H Q => rI0 (fun i j => .bl (decide (i < j))) x y H Q ∨ ∃ i j, x = .str i ∧ y = .str j ∧ Q (.bl (decide (i.cps.toList < j.cps.toList))) H
theorem op_ltA {X : Cx} : OpR X (compareOp .Lt) rLtA := op_lt.or op_lt_str
theorem opr_lt : Opr2 K rLtA ltV := by
  intro F H x y a b v Q le sx sy e q
  unfold ltV at e
  split at e
  · cases e
    exact .inl ⟨_, _, sx.int, sy.int, q.same le (.bl _)⟩
  · rename_i l m
    cases e
    refine .inr ⟨_, _, sx.str.1, sy.str.1, ?_⟩
    show Q (.bl (decide (l < m))) H
    rw [ltL_iff]
    exact q.same le (.bl _)
  · cases e
theorem opr_le : Opr2 K (rI0 fun i j => .bl (decide (i ≤ j))) leV := by
  intro F H x y a b v Q le sx sy e q
  unfold leV at e
  split at e
  · cases e
    exact ⟨_, _, sx.int, sy.int, q.same le (.bl _)⟩
  · cases e
theorem opr_gt : Opr2 K (rI0 fun i j => .bl (decide (j < i))) gtV := by
  intro F H x y a b v Q le sx sy e q
  unfold gtV at e
  split at e
  · cases e
    exact ⟨_, _, sx.int, sy.int, q.same le (.bl _)⟩
  · cases e
theorem opr_ge : Opr2 K (rI0 fun i j => .bl (decide (j ≤ i))) geV := by
  intro F H x y a b v Q le sx sy e q
  unfold geV at e
  split at e
  · cases e
    exact ⟨_, _, sx.int, sy.int, q.same le (.bl _)⟩
  · cases e
end
end G7

set_option Elab.async false
set_option linter.all false
set_option maxRecDepth 100000
set_option autoImplicit false
namespace G7
open PySem PySem.Spec PyProof.Rows L2
section
variable {K : PySem.W.Frag} {F H : Hp} {Q : VK}
theorem key_dec {k1 k2 : L2.Key} {a1 a2 : PV} (h1 : KeyP k1 a1) (h2 : KeyP k2 a2) : decide (k1 = k2) = eqv a1 a2 := by
  cases k1 with
  | inl i =>
    cases h1
    cases k2 with
    | inl j =>
      cases h2
      show _ = (i == j)
      rw [L2.key_ll]
    | inr y =>
      obtain ⟨m, rfl, _, rfl⟩ := h2
      exact L2.key_lr _ _
  | inr x =>
    obtain ⟨l, rfl, _, rfl⟩ := h1
    cases k2 with
    | inl j =>
      cases h2
      exact L2.key_rl _ _
    | inr y =>
      obtain ⟨m, rfl, _, rfl⟩ := h2
      rw [L2.key_rr]
      show _ = (l == m)
      by_cases e : l = m
      · subst e; simp
      · rw [beq_eq_false_iff_ne.mpr e]
        exact decide_eq_false fun z => e (str_inj z)
theorem RepD.look {k : L2.Key} {a : PV} (hk : KeyP k a) : ∀ {ks : List (L2.Key × V)} {kvs : List (PV × PV)}, RepD K F ks kvs →
    (lookD a kvs = none ∧ valV ks k = none) ∨ ∃ x w, lookD a kvs = some x ∧ valV ks k = some w ∧ Rep K F w x
  | _, _, .nil => .inl ⟨rfl, rfl⟩
  | _, _, .cons (k := k') (v := v) (vs := vs) (a := a') (x := x) (xs := xs) h1 h2 h3 => by
    have e := key_dec h1 hk
    unfold lookD
    by_cases z : k' = k
    · rw [decide_eq_true z] at e
      rw [← e, if_pos rfl]
      exact .inr ⟨x, v, rfl, valV_pos (p := (k', v)) z, h2⟩
    · rw [decide_eq_false z] at e
      rw [← e, if_neg (by decide)]
      have e2 : valV ((k', v) :: vs) k = valV vs k := by
        unfold valV
        rw [List.find?_cons, decide_eq_false z]
      rw [e2]
      exact RepD.look hk h3
theorem RepD.len : ∀ {ks : List (L2.Key × V)} {kvs : List (PV × PV)}, RepD K F ks kvs → ks.length = kvs.length
  | _, _, .nil => rfl
  | _, _, .cons _ _ h => congrArg (· + 1) h.len
theorem RepD.any {k : L2.Key} {a : PV} (hk : KeyP k a) : ∀ {ks : List (L2.Key × V)} {kvs : List (PV × PV)}, RepD K F ks kvs → (ks.any fun kv => decide (kv.1 = k)) = hasD a kvs
  | _, _, .nil => rfl
  | _, _, .cons h1 _ h3 => by
    rw [List.any_cons, RepD.any hk h3, key_dec h1 hk]; rfl
theorem RepD.swap {k : L2.Key} {a : PV} (hk : KeyP k a) {w : V} {x : PV} (r : Rep K F w x) : ∀ {ks : List (L2.Key × V)} {kvs : List (PV × PV)}, RepD K F ks kvs →
    RepD K F (ks.map fun kv => if kv.1 = k then (kv.1, w) else kv) (swapD a x kvs)
  | _, _, .nil => .nil
  | _, _, .cons (k := k') (v := v) (a := a') h1 h2 h3 => by
    rw [List.map_cons, swapD, ← key_dec h1 hk]
    by_cases z : k' = k
    · rw [if_pos z, decide_eq_true z, if_pos rfl]
      exact .cons h1 r (RepD.swap hk r h3)
    · rw [if_neg z, decide_eq_false z, if_neg (by decide)]
      exact .cons h1 h2 (RepD.swap hk r h3)
theorem RepD.app : ∀ {ks us : List (L2.Key × V)} {kvs ws : List (PV × PV)}, RepD K F ks kvs → RepD K F us ws → RepD K F (ks ++ us) (kvs ++ ws)
  | _, _, _, _, .nil, h => h
  | _, _, _, _, .cons h1 h2 h3, h => .cons h1 h2 (RepD.app h3 h)
theorem RepD.put {k : L2.Key} {a : PV} (hk : KeyP k a) {w : V} {x : PV} (r : Rep K F w x) {ks : List (L2.Key × V)} {kvs : List (PV × PV)} (h : RepD K F ks kvs) : RepD K F (putK ks k w) (putD a x kvs) := by
  unfold putK putD
  rw [h.any hk]
  by_cases z : hasD a kvs = true
  · rw [if_pos z, if_pos z]; exact h.swap hk r
  · rw [if_neg z, if_neg z]; exact h.app (.cons hk r .nil)
theorem SRep.key {w : V} {a : PV} (h : SRep K F H w a) (hk : keyOk a = true) : ∃ k, w = kV k ∧ KeyP k a := by
  cases a <;> first | (simp [keyOk] at hk) | skip
  · exact ⟨.inl _, h.int, rfl⟩
  · exact ⟨.inr _, h.str.1, _, rfl, h.str.2, rfl⟩

def rDIn (n : Bool) : R2 := fun x y H Q => ∃ a ov, y = .ref a ∧ DGet H a x ov ∧ Q (.bl (if n then !ov.isSome else ov.isSome)) H
theorem op_din {X : Cx} (hu : X.A.units + 1 < cLine) : OpR X (compareOp .In) (rDIn false) := by
  intro pins s σ H x y v u Q I rx ry h
  obtain ⟨a, ov, rfl, g, q⟩ := h
  cases ry
  exact d_in hu I g rx fun s3 I3 => ⟨.bl ov.isSome, H, I3, rfl, q⟩
theorem op_dnotin {X : Cx} (hu : X.A.units + 1 < cLine) : OpR X (compareOp .NotIn) (rDIn true) := by
  intro pins s σ H x y v u Q I rx ry h
  obtain ⟨a, ov, rfl, g, q⟩ := h
  cases ry
  exact d_notIn hu I g rx fun s3 I3 => ⟨.bl (!ov.isSome), H, I3, rfl, q⟩
def rInX (K : PySem.W.Frag) : R2 := fun x y H Q => (∃ (c : Nat) (z : Str), x = .str ⟨#[c]⟩ ∧ y = .str z ∧ Q (.bl (decide (c ∈ z.cps.toList))) H) ∨ (rIn K false x y H Q ∨ (rInD K x y H Q ∨ rDIn false x y H Q))
def rNotInX (K : PySem.W.Frag) : R2 := fun x y H Q => (∃ (c : Nat) (z : Str), x = .str ⟨#[c]⟩ ∧ y = .str z ∧ Q (.bl (!decide (c ∈ z.cps.toList))) H) ∨ (rIn K true x y H Q ∨ (rNotInD K x y H Q ∨ rDIn true x y H Q))
theorem op_inX {X : Cx} (hu : X.A.units + 65 < cLine) : OpR X (compareOp .In) (rInX X.K) := op_in_sign.or (op_in_seq.or ((op_inD hu).or (op_din (by omega))))
theorem op_notInX {X : Cx} (hu : X.A.units + 65 < cLine) : OpR X (compareOp .NotIn) (rNotInX X.K) := op_notIn_sign.or (op_notIn_seq.or ((op_notInD hu).or (op_dnotin (by omega))))
theorem flat_of {w : V} {a : PV} (h : Rep K F w a) (hd : dp 0 a = true) : flatV w = true := by
  cases h <;> first | rfl | (simp [dp] at hd)
theorem flat_eq {w u : V} {a b : PV} (h : Rep K F w a) (h2 : Rep K F u b) (hd : dp 0 a = true) (hd2 : dp 0 b = true) : L2.eqV w u = eqv a b := by
  cases h <;> first | (simp [dp] at hd; done) | skip
  all_goals (cases h2 <;> first | (simp [dp] at hd2; done) | rfl | exact str_beq _ _)
theorem flats_of : ∀ {ws : List V} {as : List PV}, Reps K F ws as → as.all (dp 0) = true → ws.all flatV = true
  | _, _, .nil, _ => rfl
  | _, _, .cons r t, h => by
    rw [List.all_cons, Bool.and_eq_true] at h ⊢
    exact ⟨flat_of r h.1, flats_of t h.2⟩
theorem flats_any {w : V} {a : PV} (h : Rep K F w a) (hd : dp 0 a = true) : ∀ {ws : List V} {as : List PV}, Reps K F ws as → as.all (dp 0) = true → L2.inV w ws = as.any fun y => eqv y a
  | _, _, .nil, _ => rfl
  | _, _, .cons (v := v) (vs := vs) (x := x) (xs := xs) r t, hh => by
    rw [List.all_cons, Bool.and_eq_true] at hh
    have ih := flats_any h hd t hh.2
    unfold L2.inV at ih ⊢
    rw [List.any_cons, List.any_cons, ih, flat_eq r h hh.1 hd]
theorem any_D (a : PV) (ha : dat a = true) : ∀ (ys : List PV), dats ys = true → ((toDs ys).any fun z => PyData.eqv z (toD a)) = ys.any fun y => eqv y a
  | [], _ => rfl
  | y :: ys, h => by
    rw [dats, Bool.and_eq_true] at h
    show (PyData.eqv (toD y) (toD a) || (toDs ys).any fun z => PyData.eqv z (toD a)) = _
    rw [any_D a ha ys h.2, eqv_D y a h.1 ha]
    rfl
theorem in_cases {a b : PV} {c : Bool} (e : inV a b = some c) {x y : V} (le : Same F H) (sx : SRep K F H x a) (sy : SRep K F H y b) :
    (∃ (n : Nat) (z : Str), x = .str ⟨#[n]⟩ ∧ y = .str z ∧ decide (n ∈ z.cps.toList) = c) ∨
    ((∃ p xs, y = .ref p ∧ (SqL K H p xs ∨ SqT K H p xs) ∧ flatV x = true ∧ xs.all flatV = true ∧ L2.inV x xs = c) ∨
     ((∃ d ds, Dp K H x d ∧ Dp K H y (.list ds) ∧ SeqAt.shaped d = true ∧ SeqAt.shaped (.list ds) = true ∧ (ds.any fun z => PyData.eqv z d) = c) ∨
      ∃ p ov, y = .ref p ∧ DGet H p x ov ∧ ov.isSome = c)) := by
  unfold inV at e
  split at e
  · rename_i n l
    cases e
    exact .inl ⟨n, _, sx.str.1, sy.str.1, rfl⟩
  · rename_i kvs
    split at e
    · rename_i hk
      cases e
      obtain ⟨k, rfl, kp⟩ := sx.key hk
      obtain ⟨p, ks, rfl, hh, r⟩ := sy.dct le
      refine .inr (.inr (.inr ⟨p, valV ks k, rfl, .inl ⟨ks, k, hh, rfl, rfl⟩, ?_⟩))
      rcases r.look kp with ⟨e1, e2⟩ | ⟨x, w, e1, e2, _⟩
      · rw [e1, e2]; rfl
      · rw [e1, e2]; rfl
    · cases e
  · rename_i ys
    split at e
    · rename_i hd
      cases e
      rw [Bool.and_eq_true] at hd
      have h2 : dp 60 (.lst ys) = true := hd.2
      obtain ⟨d1, c1⟩ := sx.data le (dp_dat hd.1)
      obtain ⟨d2, c2⟩ := sy.data le (dp_dat h2)
      refine .inr (.inr (.inl ⟨_, _, d1, d2, shaped_of (by decide) hd.1 c1, shaped_of (by decide) h2 c2, ?_⟩))
      exact any_D a (dp_dat hd.1) ys (by simpa [dat] using dp_dat h2)
    · cases e
  · rename_i ys
    split at e
    · rename_i hd
      cases e
      rw [Bool.and_eq_true] at hd
      have rx : Rep K F x a := by
        rcases sx with r | ⟨_, _, _, o⟩
        · exact r
        · cases a <;> first | exact o.elim | (simp [dp] at hd)
      obtain ⟨p, vs, rfl, hh, r⟩ := sy.tup
      exact .inr (.inl ⟨p, vs, rfl, .inr (seqT_mono le hh), flat_of rx hd.1, flats_of r hd.2, flats_any rx hd.1 r hd.2⟩)
    · cases e
  · cases e
theorem opr_in : Opr2 K (rInX K) inV1 := by
  intro F H x y a b v Q le sx sy e q
  unfold inV1 at e
  cases e2 : inV a b with
  | none => rw [e2] at e; cases e
  | some c =>
    rw [e2] at e; cases e
    have q' := q.same le (.bl c)
    rcases in_cases e2 le sx sy with ⟨n, z, h1, h2, h3⟩ | ⟨p, xs, h1, h2, h3, h4, h5⟩ | ⟨d, ds, h1, h2, h3, h4, h5⟩ | ⟨p, ov, h1, h2, h3⟩
    · exact .inl ⟨n, z, h1, h2, by rw [h3]; exact q'⟩
    · exact .inr (.inl ⟨p, xs, h1, h2, h3, h4, by rw [h5]; exact q'⟩)
    · exact .inr (.inr (.inl ⟨d, ds, h1, h2, h3, h4, by rw [h5]; exact q'⟩))
    · exact .inr (.inr (.inr ⟨p, ov, h1, h2, by rw [h3]; exact q'⟩))
theorem opr_notIn : Opr2 K (rNotInX K) inV0 := by
  intro F H x y a b v Q le sx sy e q
  unfold inV0 at e
  cases e2 : inV a b with
  | none => rw [e2] at e; cases e
  | some c =>
    rw [e2] at e; cases e
    have q' := q.same le (.bl !c)
    rcases in_cases e2 le sx sy with ⟨n, z, h1, h2, h3⟩ | ⟨p, xs, h1, h2, h3, h4, h5⟩ | ⟨d, ds, h1, h2, h3, h4, h5⟩ | ⟨p, ov, h1, h2, h3⟩
    · exact .inl ⟨n, z, h1, h2, by rw [h3]; exact q'⟩
    · exact .inr (.inl ⟨p, xs, h1, h2, h3, h4, by rw [h5]; exact q'⟩)
    · exact .inr (.inr (.inl ⟨d, ds, h1, h2, h3, h4, by rw [h5]; exact q'⟩))
    · exact .inr (.inr (.inr ⟨p, ov, h1, h2, by rw [h3]; exact q'⟩))
def rIsA : R2 := fun x y H Q => (∃ a b, x = .bl a ∧ y = .bl b ∧ Q (.bl (decide (a = b))) H) ∨ (y = .non ∧ Q (.bl (decide (x = .non))) H)
def rIsNA : R2 := fun x y H Q => (∃ a b, x = .bl a ∧ y = .bl b ∧ Q (.bl (!decide (a = b))) H) ∨ (y = .non ∧ Q (.bl (!decide (x = .non))) H)
theorem op_isA {X : Cx} : OpR X (compareOp .Is) rIsA := op_is_bl.or op_isN
theorem op_isNA {X : Cx} : OpR X (compareOp .IsNot) rIsNA := op_isnot_bl.or op_notN
theorem is_cases {a b : PV} {c : PV} (e : isV a b = some c) {x y : V} (sx : SRep K F H x a) (sy : SRep K F H y b) : ∃ d : Bool, c = .bl d ∧ ((∃ a b, x = .bl a ∧ y = .bl b ∧ decide (a = b) = d) ∨ (y = .non ∧ decide (x = .non) = d)) := by
  unfold isV at e
  split at e
  · cases e
    rename_i p q
    refine ⟨p == q, rfl, .inl ⟨p, q, sx.bl, sy.bl, ?_⟩⟩
    cases p <;> cases q <;> rfl
  · cases e; exact ⟨true, rfl, .inr ⟨sy.non, decide_eq_true sx.non⟩⟩
  · cases e; exact ⟨false, rfl, .inr ⟨sy.non, decide_eq_false (by rw [sx.bl]; simp)⟩⟩
  · cases e; exact ⟨false, rfl, .inr ⟨sy.non, decide_eq_false (by rw [sx.int]; simp)⟩⟩
  · cases e; exact ⟨false, rfl, .inr ⟨sy.non, decide_eq_false (by rw [sx.str.1]; simp)⟩⟩
  · cases e
    refine ⟨false, rfl, .inr ⟨sy.non, decide_eq_false ?_⟩⟩
    rcases sx with r | ⟨p, z, _⟩
    · cases r; simp
    · rw [z]; simp
  · cases e
    obtain ⟨p, vs, z, _⟩ := sx.tup
    exact ⟨false, rfl, .inr ⟨sy.non, decide_eq_false (by rw [z]; simp)⟩⟩
  · cases e
theorem opr_is : Opr2 K rIsA isV := by
  intro F H x y a b v Q le sx sy e q
  obtain ⟨d, rfl, ⟨a, b, h1, h2, h3⟩ | ⟨h1, h2⟩⟩ := is_cases e sx sy
  · exact .inl ⟨a, b, h1, h2, by rw [h3]; exact q.same le (.bl d)⟩
  · exact .inr ⟨h1, by rw [h2]; exact q.same le (.bl d)⟩
theorem opr_isNot : Opr2 K rIsNA isV0 := by
  intro F H x y a b v Q le sx sy e q
  unfold isV0 at e
  cases e2 : isV a b with
  | none => rw [e2] at e; cases e
  | some c =>
    rw [e2] at e
    obtain ⟨d, rfl, ⟨a, b, h1, h2, h3⟩ | ⟨h1, h2⟩⟩ := is_cases e2 sx sy
    · cases e
      exact .inl ⟨a, b, h1, h2, by rw [h3]; exact q.same le (.bl !d)⟩
    · cases e
      exact .inr ⟨h1, by rw [h2]; exact q.same le (.bl !d)⟩
end
end G7

set_option Elab.async false
set_option linter.all false
set_option maxRecDepth 100000
set_option autoImplicit false
namespace G7
open PySem PySem.Spec PyProof.Rows L2
theorem CallR.or {X : Cx} {f : Value} {r r' : List V → Hp → VK → Prop} (h : CallR X f r) (h' : CallR X f r') : CallR X f (fun vs H Q => r vs H Q ∨ r' vs H Q) := by
  intro pins s σ H vs us Q I rr q
  rcases q with q | q
  · exact h pins s σ H vs us Q I rr q
  · exact h' pins s σ H vs us Q I rr q
section
variable {K : PySem.W.Frag} {F H : Hp} {Q : VK}
theorem atI_rep {vs : List V} {xs : List PV} (r : Reps K F vs xs) {i : Int} {a : PV} (e : atI xs i = some a) : ∃ w, atI vs i = some w ∧ Rep K F w a := by
  unfold atI at e ⊢
  rw [r.len]
  cases e2 : ixN xs.length i with
  | none => rw [e2] at e; cases e
  | some j => rw [e2] at e; exact r.get e
def rIxA (K : PySem.W.Frag) : R2 := fun x y H Q => rIxL K x y H Q ∨ (rIxT K x y H Q ∨ rIxS x y H Q)
theorem ix_A {X : Cx} : IxR X (rIxA X.K) := ix_list.or (ix_tup.or ix_str)
theorem atI_map {α β : Type} (f : α → β) (xs : List α) (i : Int) : atI (xs.map f) i = (atI xs i).map f := by
  unfold atI
  rw [List.length_map]
  cases ixN xs.length i with
  | none => rfl
  | some j => simp
theorem opr_ix : Opr2 K (rIxA K) getV := by
  intro F H x y a b v Q le sx sy e q
  unfold getV at e
  split at e
  · obtain ⟨p, vs, rfl, h1, r1⟩ := sx.lst le
    obtain ⟨w, e1, r⟩ := atI_rep r1 e
    exact .inl ⟨p, vs, _, w, rfl, sy.int, .of h1, e1, q.same le r⟩
  · obtain ⟨p, vs, rfl, h1, r1⟩ := sx.tup
    obtain ⟨w, e1, r⟩ := atI_rep r1 e
    exact .inr (.inl ⟨p, vs, _, w, rfl, sy.int, seqT_mono le h1, e1, q.same le r⟩)
  · rename_i ns i
    obtain ⟨p, rfl, h1⟩ := sx.scr
    cases e2 : atI ns i with
    | none => rw [e2] at e; cases e
    | some n =>
      rw [e2] at e; cases e
      exact .inl ⟨p, _, i, .int n, rfl, sy.int, seqL_mono le h1, by rw [atI_map, e2]; rfl, q.same le (.int n)⟩
  · rename_i l i
    split at e
    · rename_i hl
      obtain ⟨rfl, hb⟩ := sx.str
      cases e2 : atI l i with
      | none => rw [e2] at e; cases e
      | some c =>
        rw [e2] at e; cases e
        refine .inr (.inr ⟨_, i, c, rfl, sy.int, by rw [line_eq]; exact hl, e2, q.same le (.str (l := [c]) fun d hd => ?_)⟩)
        have hc : c ∈ l := by
          unfold atI at e2
          cases e3 : ixN l.length i with
          | none => rw [e3] at e2; cases e2
          | some j => rw [e3] at e2; exact List.mem_of_getElem? e2
        have : d = c := by simpa using hd
        rw [this]; exact hb c hc
    · cases e
  · cases e
def rSlA (K : PySem.W.Frag) : V → Option Int → Option Int → Hp → VK → Prop := fun x lo hi H Q => rSlL K x lo hi H Q ∨ (rSlT K x lo hi H Q ∨ rSlS x lo hi H Q)
theorem sl_A {X : Cx} : SlR X (rSlA X.K) := sl_list.or (sl_tup.or sl_str)
theorem Reps.cut {vs : List V} {xs : List PV} (r : Reps K F vs xs) (lo hi : Option Int) : Reps K F (cutV vs lo hi) (G7.cut xs lo hi) := by
  unfold cutV G7.cut
  rw [r.len]
  exact (r.drop _).take _
theorem cut_str (l : List Nat) (lo hi : Option Int) : cutS ⟨l.toArray⟩ lo hi = ⟨(G7.cut l lo hi).toArray⟩ := by
  apply TL.ext_tl
  unfold cutS G7.cut
  rw [str_len]
theorem cut_mem {l : List Nat} {lo hi : Option Int} {c : Nat} (h : c ∈ G7.cut l lo hi) : c ∈ l := List.mem_of_mem_drop (List.mem_of_mem_take h)
def OprS (K : PySem.W.Frag) (r : V → Option Int → Option Int → Hp → VK → Prop) (g : PV → Option Int → Option Int → Option PV) : Prop := ∀ F H x a lo hi v Q, Same F H → SRep K F H x a → g a lo hi = some v → Fin1 K F H v Q → r x lo hi H Q
theorem opr_slice : OprS K (rSlA K) sliceV := by
  intro F H x a lo hi v Q le sx e q
  unfold sliceV at e
  split at e
  · cases e
    obtain ⟨p, vs, rfl, h1, r1⟩ := sx.lst le
    exact .inl ⟨p, vs, rfl, .of h1, fun n hn => q.newL le hn (r1.cut lo hi)⟩
  · split at e
    · cases e
    · rename_i hc
      cases e
      obtain ⟨p, vs, rfl, h1, r1⟩ := sx.tup
      exact .inr (.inl ⟨p, vs, rfl, seqT_mono le h1, by rw [r1.len]; exact hc, fun n hn => q.newT le hn (r1.cut lo hi)⟩)
  · split at e
    · rename_i l hl
      cases e
      obtain ⟨rfl, hb⟩ := sx.str
      refine .inr (.inr ⟨_, rfl, by rw [line_eq]; exact hl, ?_⟩)
      rw [cut_str]
      exact q.same le (.str fun c hc => hb c (cut_mem hc))
    · cases e
  · cases e
theorem SReps.one {ws : List V} {a : PV} (h : SReps K F H ws [a]) : ∃ w, ws = [w] ∧ SRep K F H w a := by
  match ws, h with
  | [w], ⟨h1, _⟩ => exact ⟨w, rfl, h1⟩
  | _ :: _ :: _, ⟨_, h⟩ => exact h.elim
theorem SReps.two {ws : List V} {a b : PV} (h : SReps K F H ws [a, b]) : ∃ w u, ws = [w, u] ∧ SRep K F H w a ∧ SRep K F H u b := by
  match ws, h with
  | [w, u], ⟨h1, h2, _⟩ => exact ⟨w, u, rfl, h1, h2⟩
  | [_], ⟨_, h⟩ => exact h.elim
  | _ :: _ :: _ :: _, ⟨_, _, h⟩ => exact h.elim
theorem on1_some {g : PV → Option PV} {as : List PV} {v : PV} (e : on1 g as = some v) : ∃ a, as = [a] ∧ g a = some v := by
  unfold on1 at e
  split at e
  · exact ⟨_, rfl, e⟩
  · cases e
theorem on1m_some {g : PV → PV → Option PV} {a : PV} {as : List PV} {v : PV} (e : on1m g a as = some v) : ∃ b, as = [b] ∧ g a b = some v := by
  unfold on1m at e
  split at e
  · exact ⟨_, rfl, e⟩
  · cases e
def rLenX (K : PySem.W.Frag) : List V → Hp → VK → Prop := fun xs H Q => (∃ x n, xs = [x] ∧ LenV K x H n ∧ Q (.int n) H) ∨ ∃ d kvs, xs = [.ref d] ∧ Rd H d (.dK kvs) ∧ Q (.int kvs.length) H
theorem call_lenX {X : Cx} : CallR X (.builtin "len") (rLenX X.K) := by
  refine CallR.or call_len ?_
  intro pins s σ H xs us Q I r h
  obtain ⟨d, kvs, rfl, hd, q⟩ := h
  obtain ⟨u, rfl, ru⟩ := vals1 r
  cases ru
  exact d_len I hd fun t s' I' => ⟨.int kvs.length, H, I', ⟨t, rfl⟩, q⟩
theorem opr_len : OprN K (rLenX K) (on1 lenV) := by
  intro F H xs as v Q le ss e q
  obtain ⟨a, rfl, e0⟩ := on1_some e; replace e := e0
  obtain ⟨w, rfl, sx⟩ := ss.one
  unfold lenV at e
  split at e
  · cases e
    obtain ⟨p, rfl, h1⟩ := sx.scr
    exact .inl ⟨_, _, rfl, .inl ⟨_, seqL_mono le h1, rfl⟩, by rw [List.length_map]; exact q.same le (.int _)⟩
  · cases e
    obtain ⟨p, vs, rfl, h1, r1⟩ := sx.lst le
    exact .inl ⟨_, _, rfl, .inl ⟨_, .of h1, rfl⟩, by rw [r1.len]; exact q.same le (.int _)⟩
  · cases e
    obtain ⟨p, vs, rfl, h1, r1⟩ := sx.tup
    exact .inl ⟨_, _, rfl, .inr ⟨_, seqT_mono le h1, rfl⟩, by rw [r1.len]; exact q.same le (.int _)⟩
  · split at e
    · rename_i l hl
      cases e
      obtain ⟨rfl, hb⟩ := sx.str
      exact .inl ⟨_, _, rfl, ⟨by rw [line_eq]; exact hl, rfl⟩, q.same le (.int _)⟩
    · cases e
  · cases e
    obtain ⟨p, vs, rfl, h1, r1⟩ := sx.dct le
    exact .inr ⟨p, vs, rfl, h1, by rw [r1.len]; exact q.same le (.int _)⟩
  · cases e
theorem opr_abs : OprN K (fun xs H Q => ∃ i, xs = [.int i] ∧ Q (.int (if i < 0 then -i else i)) H) (on1 absV) := by
  intro F H xs as v Q le ss e q
  obtain ⟨a, rfl, e0⟩ := on1_some e; replace e := e0
  obtain ⟨w, rfl, sx⟩ := ss.one
  unfold absV at e
  split at e
  · cases e
    exact ⟨_, by rw [sx.int], q.same le (.int _)⟩
  · cases e
theorem opr_min2 : OprN K (fun xs H Q => ∃ i j, xs = [.int i, .int j] ∧ Q (.int (if j < i then j else i)) H) min2V := by
  intro F H xs as v Q le ss e q
  unfold min2V at e
  split at e
  · cases e
    obtain ⟨w, u, rfl, s1, s2⟩ := ss.two
    exact ⟨_, _, by rw [s1.int, s2.int], q.same le (.int _)⟩
  · cases e
theorem opr_max2 : OprN K (fun xs H Q => ∃ i j, xs = [.int i, .int j] ∧ Q (.int (if j > i then j else i)) H) max2V := by
  intro F H xs as v Q le ss e q
  unfold max2V at e
  split at e
  · cases e
    obtain ⟨w, u, rfl, s1, s2⟩ := ss.two
    exact ⟨_, _, by rw [s1.int, s2.int], q.same le (.int _)⟩
  · cases e
theorem Reps.bools : ∀ {ws : List V} {xs : List PV} {bs : List Bool}, Reps K F ws xs → boolsP xs = some bs → ws = bs.map V.bl
  | _, _, _, .nil, e => by cases e; rfl
  | _, _, bs, .cons (x := x) (xs := xs) r t, e => by
    cases r <;> first | (simp [boolsP] at e; done) | skip
    rename_i b
    rw [boolsP] at e
    cases e2 : boolsP xs with
    | none => rw [e2] at e; cases e
    | some cs =>
      rw [e2] at e; cases e
      rw [Reps.bools t e2]; rfl
theorem Reps.ints : ∀ {ws : List V} {xs : List PV} {bs : List Int}, Reps K F ws xs → intsP xs = some bs → ws = bs.map V.int
  | _, _, _, .nil, e => by cases e; rfl
  | _, _, bs, .cons (x := x) (xs := xs) r t, e => by
    cases r <;> first | (simp [intsP] at e; done) | skip
    rename_i b
    rw [intsP] at e
    cases e2 : intsP xs with
    | none => rw [e2] at e; cases e
    | some cs =>
      rw [e2] at e; cases e
      rw [Reps.ints t e2]; rfl
theorem Reps.strs : ∀ {ws : List V} {xs : List PV} {bs : List (List Nat)}, Reps K F ws xs → strsP xs = some bs → ws = (bs.map fun l => (⟨l.toArray⟩ : Str)).map V.str ∧ ∀ l ∈ bs, ∀ c ∈ l, c < 1114112
  | _, _, _, .nil, e => by cases e; exact ⟨rfl, fun _ h => by simp at h⟩
  | _, _, bs, .cons (x := x) (xs := xs) r t, e => by
    cases r <;> first | (simp [strsP] at e; done) | skip
    rename_i l hb
    rw [strsP] at e
    cases e2 : strsP xs with
    | none => rw [e2] at e; cases e
    | some cs =>
      rw [e2] at e; cases e
      obtain ⟨h1, h2⟩ := Reps.strs t e2
      refine ⟨by rw [h1]; rfl, fun m hm => ?_⟩
      rcases List.mem_cons.mp hm with z | z
      · rw [z]; exact hb
      · exact h2 m z
theorem opr_all : OprN K (rAll K) (on1 allV) := by
  intro F H xs as v Q le ss e q
  obtain ⟨a, rfl, e0⟩ := on1_some e; replace e := e0
  obtain ⟨w, rfl, sx⟩ := ss.one
  unfold allV at e
  split at e
  · rename_i ys
    obtain ⟨p, vs, rfl, h1, r1⟩ := sx.lst le
    cases e2 : boolsP ys with
    | none => rw [e2] at e; cases e
    | some bs =>
      rw [e2] at e; cases e
      exact ⟨p, bs, rfl, .of (by rw [h1, r1.bools e2]), q.same le (.bl _)⟩
  · cases e
theorem opr_any : OprN K (rAny K) (on1 anyV) := by
  intro F H xs as v Q le ss e q
  obtain ⟨a, rfl, e0⟩ := on1_some e; replace e := e0
  obtain ⟨w, rfl, sx⟩ := ss.one
  unfold anyV at e
  split at e
  · rename_i ys
    obtain ⟨p, vs, rfl, h1, r1⟩ := sx.lst le
    cases e2 : boolsP ys with
    | none => rw [e2] at e; cases e
    | some bs =>
      rw [e2] at e; cases e
      exact ⟨p, bs, rfl, .of (by rw [h1, r1.bools e2]), q.same le (.bl _)⟩
  · cases e
def rListX (K : PySem.W.Frag) : List V → Hp → VK → Prop := fun xs H Q => (∃ p ys, xs = [.ref p] ∧ (SqL K H p ys ∨ SqT K H p ys) ∧ ∀ l, H l = none → Q (.ref l) (upd H l (.lst ys))) ∨
  (∃ (a : Addr) (kvs : List (L2.Key × V)), xs = [.ref a] ∧ Rd H a (.dK kvs) ∧ ∀ p, H p = none → Q (.ref p) (upd H p (.lst (kvs.map fun kv => kV kv.1))))
theorem call_listX {X : Cx} (hc : X.calm = true) : CallR X (.type "list") (rListX X.K) := CallR.or call_list_of (call_listD hc)
theorem RepD.keys : ∀ {ks : List (L2.Key × V)} {kvs : List (PV × PV)}, RepD K F ks kvs → Reps K F (ks.map fun kv => kV kv.1) (kvs.map (·.1))
  | _, _, .nil => .nil
  | _, _, .cons (k := k) h1 _ h3 => by
    refine .cons ?_ h3.keys
    cases k with
    | inl i => cases h1; exact .int i
    | inr x => obtain ⟨l, rfl, hb, rfl⟩ := h1; exact .str hb
theorem opr_list : OprN K (rListX K) (on1 listV) := by
  intro F H xs as v Q le ss e q
  obtain ⟨a, rfl, e0⟩ := on1_some e; replace e := e0
  obtain ⟨w, rfl, sx⟩ := ss.one
  unfold listV at e
  split at e
  · cases e
    obtain ⟨p, vs, rfl, h1, r1⟩ := sx.lst le
    exact .inl ⟨p, vs, rfl, .inl (.of h1), fun n hn => q.newL le hn r1⟩
  · cases e
    obtain ⟨p, vs, rfl, h1, r1⟩ := sx.tup
    exact .inl ⟨p, vs, rfl, .inr (seqT_mono le h1), fun n hn => q.newL le hn r1⟩
  · cases e
    obtain ⟨p, vs, rfl, h1, r1⟩ := sx.dct le
    exact .inr ⟨p, vs, rfl, h1, fun n hn => q.newL le hn r1.keys⟩
  · cases e
theorem opr_tuple : OprN K (fun xs H Q => ∃ p ys, xs = [.ref p] ∧ ((SqL K H p ys ∧ ∀ l, H l = none → Q (.ref l) (upd H l (.tup ys))) ∨ (SqT K H p ys ∧ Q (.ref p) H))) (on1 tupleV) := by
  intro F H xs as v Q le ss e q
  obtain ⟨a, rfl, e0⟩ := on1_some e; replace e := e0
  obtain ⟨w, rfl, sx⟩ := ss.one
  unfold tupleV at e
  split at e
  · cases e
    obtain ⟨p, vs, rfl, h1, r1⟩ := sx.lst le
    exact ⟨p, vs, rfl, .inl ⟨.of h1, fun n hn => q.newT le hn r1⟩⟩
  · cases e
    obtain ⟨p, vs, rfl, h1, r1⟩ := sx.tup
    exact ⟨p, vs, rfl, .inr ⟨seqT_mono le h1, q.same le (.tup h1 r1)⟩⟩
  · cases e
theorem sumLen_map : ∀ ys : List (List Nat), (((ys.map fun l => (⟨l.toArray⟩ : Str)).map (·.length)).sum : Nat) = sumLen ys
  | [] => rfl
  | y :: ys => by
    rw [List.map_cons, List.map_cons, List.sum_cons, sumLen_map ys]; rfl
theorem joinL_TL (s : List Nat) : ∀ ys : List (List Nat), TL.joinL s ys = joinL s ys
  | [] => rfl
  | [x] => rfl
  | x :: y :: r => by
    show x ++ (s ++ TL.joinL s (y :: r)) = x ++ s ++ joinL s (y :: r)
    rw [joinL_TL s (y :: r), List.append_assoc]
theorem join_str (s : List Nat) (ys : List (List Nat)) : Txt.join ⟨s.toArray⟩ (ys.map fun l => (⟨l.toArray⟩ : Str)) = ⟨(joinL s ys).toArray⟩ := by
  apply TL.ext_tl
  rw [TL.join_eq, TL.tl_join, List.map_map]
  have e : (TL.tl ∘ fun l => (⟨l.toArray⟩ : Str)) = id := rfl
  rw [e, List.map_id]
  exact joinL_TL s ys
theorem joinL_mem {s : List Nat} {P : Nat → Prop} (hs : ∀ c ∈ s, P c) : ∀ {ys : List (List Nat)}, (∀ l ∈ ys, ∀ c ∈ l, P c) → ∀ c ∈ joinL s ys, P c
  | [], _, c, hc => by simp [joinL] at hc
  | [x], h, c, hc => h x (by simp) c hc
  | x :: y :: r, h, c, hc => by
    rw [joinL, List.mem_append, List.mem_append] at hc
    rcases hc with (hc | hc) | hc
    · exact h x (by simp) c hc
    · exact hs c hc
    · exact joinL_mem hs (fun l hl => h l (List.mem_cons_of_mem _ hl)) c hc
def rJoinX (K : PySem.W.Frag) : V → List V → Hp → VK → Prop := fun x xs H Q => ∃ a p, ∃ ys : List Str, x = .str a ∧ xs = [.ref p] ∧ (SqL K H p (ys.map V.str) ∨ SqT K H p (ys.map V.str)) ∧ (ys.map (·.length)).sum + ys.length * a.length ≤ 16777216 ∧ Q (.str (Txt.join a ys)) H
theorem opr_join : OprM K (rJoinX K) (on1m joinV) := by
  intro F H x xs a as v Q le sx ss e q
  obtain ⟨b, rfl, e0⟩ := on1m_some e; replace e := e0
  obtain ⟨w, rfl, sy⟩ := ss.one
  unfold joinV at e
  split at e
  · rename_i s ys
    cases e2 : strsP ys with
    | none => rw [e2] at e; cases e
    | some zs =>
      rw [e2] at e
      simp only [Option.bind_some] at e
      split at e
      · rename_i hl
        cases e
        obtain ⟨p, vs, rfl, h1, r1⟩ := sy.lst le
        obtain ⟨ev, hb⟩ := r1.strs e2
        refine ⟨_, p, zs.map fun l => (⟨l.toArray⟩ : Str), sx.str.1, rfl, .inl (.of (by rw [h1, ev])), ?_, ?_⟩
        · rw [sumLen_map, List.length_map, str_len]; exact hl
        · rw [join_str]; exact q.same le (.str (joinL_mem sx.str.2 hb))
      · cases e
  · rename_i s ys
    cases e2 : strsP ys with
    | none => rw [e2] at e; cases e
    | some zs =>
      rw [e2] at e
      simp only [Option.bind_some] at e
      split at e
      · rename_i hl
        cases e
        obtain ⟨p, vs, rfl, h1, r1⟩ := sy.tup
        obtain ⟨ev, hb⟩ := r1.strs e2
        refine ⟨_, p, zs.map fun l => (⟨l.toArray⟩ : Str), sx.str.1, rfl, .inr (by rw [← ev]; exact seqT_mono le h1), ?_, ?_⟩
        · rw [sumLen_map, List.length_map, str_len]; exact hl
        · rw [join_str]; exact q.same le (.str (joinL_mem sx.str.2 hb))
      · cases e
  · cases e
theorem cnt_filter (c : Nat) : ∀ l : List Nat, PyProof.Rows.cnt c l = ((l.filter (· == c)).length : Nat)
  | [] => rfl
  | n :: l => by
    rw [PyProof.Rows.cnt_cons, cnt_filter c l]
    by_cases h : n = c
    · simp [h]; omega
    · simp [h]
theorem opr_count : OprM K (fun x xs H Q => ∃ a b, x = .str a ∧ xs = [.str b] ∧ Q (.int (Txt.count a b)) H) (on1m countV) := by
  intro F H x xs a as v Q le sx ss e q
  obtain ⟨b, rfl, e0⟩ := on1m_some e; replace e := e0
  obtain ⟨w, rfl, sy⟩ := ss.one
  unfold countV at e
  split at e
  · rename_i l c
    cases e
    refine ⟨_, _, sx.str.1, by rw [sy.str.1], ?_⟩
    have e2 : Txt.count ⟨l.toArray⟩ ⟨[c].toArray⟩ = ((l.filter (· == c)).length : Nat) := by
      rw [show (⟨[c].toArray⟩ : Str) = ⟨#[c]⟩ from rfl, PyProof.Rows.count_cnt]
      exact cnt_filter c l
    rw [e2]
    exact q.same le (.int _)
  · cases e
theorem idx_at {c : Nat} : ∀ {l : List Nat} {i : Nat}, indexOf c l = some i → l[i]? = some c ∧ ∀ k, k < i → l[k]? ≠ some c
  | [], _, e => by cases e
  | x :: r, i, e => by
    unfold indexOf at e
    by_cases h : x = c
    · subst h
      simp at e
      subst e
      exact ⟨rfl, fun k hk => absurd hk (Nat.not_lt_zero _)⟩
    · rw [if_neg (by simpa using h)] at e
      cases e2 : indexOf c r with
      | none => rw [e2] at e; cases e
      | some j =>
        rw [e2] at e; cases e
        obtain ⟨h1, h2⟩ := idx_at e2
        refine ⟨by simpa using h1, fun k hk => ?_⟩
        cases k with
        | zero => simpa using h
        | succ k =>
          have hk' : k < j := by
            have : k + 1 < j + 1 := hk
            omega
          simpa using h2 k hk'
theorem pre_one (c : Nat) (l : List Nat) (i : Nat) : TL.pre [c] (l.drop i) = true ↔ l[i]? = some c := by
  unfold TL.pre
  cases e : l[i]? with
  | none =>
    have : l.length ≤ i := List.getElem?_eq_none_iff.mp e
    rw [List.drop_eq_nil_of_le this]
    simp
  | some d =>
    obtain ⟨h, rfl⟩ := List.getElem?_eq_some_iff.mp e
    rw [List.drop_eq_getElem_cons h]
    show ((l[i] :: List.drop (i + 1) l).take 1 == [c]) = true ↔ some l[i] = some c
    rw [List.take_succ_cons, List.take_zero]
    simp only [beq_iff_eq, List.cons.injEq, and_true, Option.some.injEq]
theorem occ_index {c : Nat} {l : List Nat} {i : Nat} (h : indexOf c l = some i) : ∃ r, Builtin.Str.occurrences ⟨l.toArray⟩ ⟨#[c]⟩ 0 (⟨l.toArray⟩ : Str).length 1 = i :: r := by
  obtain ⟨h1, h2⟩ := idx_at h
  have hne : TL.tl (⟨#[c]⟩ : Str) ≠ [] := by simp
  have at_ : ∀ k, StrLaws.At ⟨l.toArray⟩ ⟨#[c]⟩ (⟨l.toArray⟩ : Str).length k ↔ l[k]? = some c := fun k => (TL.at_iff hne k).trans (pre_one c l k)
  rcases StrLaws.occ_head ⟨l.toArray⟩ ⟨#[c]⟩ 1 (Nat.le_refl 1) with ⟨h0, hn⟩ | ⟨j, r, h0, hi, hn⟩
  · exact absurd ((at_ i).mpr h1) (hn i)
  · refine ⟨r, ?_⟩
    have e1 := (at_ j).mp hi
    have : j = i := by
      rcases Nat.lt_trichotomy j i with z | z | z
      · exact absurd e1 (h2 j z)
      · exact z
      · exact absurd ((at_ i).mpr h1) (hn i z)
    rw [← this]; exact h0
def rIndexF : V → List V → Hp → VK → Prop := fun x xs H Q => ∃ (l : List Nat) (c i : Nat), x = .str ⟨l.toArray⟩ ∧ xs = [.str ⟨#[c]⟩] ∧ indexOf c l = some i ∧ Q (.int (i : Nat)) H
theorem mt_indexF {X : Cx} : MtR X "str.index" rIndexF := by
  intro pins s σ H x xs v us Q I rx rs h
  obtain ⟨l, c, i, rfl, rfl, e, q⟩ := h
  obtain ⟨t, rfl⟩ := rx
  cases rs with
  | cons r1 rs =>
    cases rs
    obtain ⟨u, rfl⟩ := r1
    obtain ⟨r, e2⟩ := occ_index e
    exact PySem.SC.index e2 ⟨.int (i : Nat), H, I.tok _, ⟨_, rfl⟩, q⟩
theorem opr_index : OprM K rIndexF (on1m indexV) := by
  intro F H x xs a as v Q le sx ss e q
  obtain ⟨b, rfl, e0⟩ := on1m_some e; replace e := e0
  obtain ⟨w, rfl, sy⟩ := ss.one
  unfold indexV at e
  split at e
  · rename_i l c
    cases e2 : indexOf c l with
    | none => rw [e2] at e; cases e
    | some i =>
      rw [e2] at e; cases e
      exact ⟨l, c, i, sx.str.1, by rw [sy.str.1], e2, q.same le (.int _)⟩
  · cases e
end
end G7

set_option Elab.async false
set_option linter.all false
set_option maxRecDepth 100000
set_option autoImplicit false
namespace G7
open PySem PySem.Spec PyProof.Rows L2
def op2 (g : PV → PV → Option PV) (f f2 : M Tk) : M PV := bnd f fun t => bnd f2 fun u => bnd (force t) fun a => bnd (force u) fun b => lft (g a b)
def op1 (g : PV → Option PV) (f : M Tk) : M PV := bnd f fun t => bnd (force t) fun a => lft (g a)
def opn (g : List PV → Option PV) (f : M (List Tk)) : M PV := bnd f fun ts => bnd (forces ts) fun as => lft (g as)
def sv (f : M PV) : M Tk := bnd f fun a => ret (.v a)
def tkv (i : Nat) : M Tk := fun r => match r[i]? with | some (some _) => .ok (.s i) r | _ => .bad
def tst (f : M PV) : M Bool := bnd f fun v => lft (isB v)
def andT (f g : M Bool) : M Bool := bnd f fun c => if c then g else ret false
def orT (f g : M Bool) : M Bool := bnd f fun c => if c then ret true else g
def notT (f : M Bool) : M Bool := bnd f fun c => ret !c
def ifX {α : Type} (c : M Bool) (f g : M α) : M α := bnd c fun b => if b then f else g
def andV (f g : M PV) : M PV := bnd (tst f) fun c => if c then g else ret (.bl false)
def orV (f g : M PV) : M PV := bnd (tst f) fun c => if c then ret (.bl true) else g
def notV (f : M PV) : M PV := bnd (tst f) fun c => ret (.bl !c)
def chn (g g' : PV → PV → Option PV) (f f2 f3 : M Tk) : M PV := bnd f fun t => bnd f2 fun u => bnd (force t) fun a => bnd (force u) fun b => bnd (tst (lft (g a b))) fun c =>
  if c then bnd f3 fun v => bnd (force u) fun b => bnd (force v) fun d => lft (g' b d) else ret (.bl false)
def nil {α : Type} : M (List α) := ret []
def cns {α : Type} (f : M α) (g : M (List α)) : M (List α) := bnd f fun a => bnd g fun as => ret (a :: as)
def isS : PV → Option Unit
  | .str _ => some ()
  | _ => none
def methS (g : PV → List PV → Option PV) (f : M Tk) (fa : M (List Tk)) : M PV := bnd f fun t => bnd (force t) fun a => bnd (lft (isS a)) fun _ => bnd fa fun ts => bnd (forces ts) fun as => lft (g a as)
def tupV (as : List PV) : Option PV := if as.length ≤ LINE then some (.tup as) else none
def lstV (as : List PV) : Option PV := if as.length ≤ LINE then some (.lst as) else none

section
variable {K : PySem.W.Frag} {Ex : Nat → Hp → Prop} {F F' H H' : Hp} {σ : St} {ρ : Env}
/-- a slot's own thing is fixed from here on (a dict: locked) -/
theorem RE.freeze (r : RE K F σ H ρ) {i : Nat} {v : PV} (e : ρ[i]? = some (some (Sl.own v))) {a : Addr} (h1 : σ[i]? = some (some (V.ref a))) {o o' : HO} (ho : H a = some o) (rp : ∀ F', Same F F' → F' a = some o' → Rep K F' (.ref a) v) :
    Step K F σ H ρ (upd F a o') σ (upd H a o') (ρ.set i (some (.val v))) ∧ Rep K (upd F a o') (.ref a) v := by
  obtain ⟨a', h1', h2, h3⟩ := r.own i v e
  rw [h1] at h1'; cases h1'
  have hi : i < ρ.length := (List.getElem?_eq_some_iff.mp e).1
  have sm : Same F (upd F a o') := fun b u q => by rw [upd_ne (ne_of_none q h2)]; exact q
  have rp := rp _ sm upd_same
  have own_ne : ∀ (j : Nat) (u : PV), (ρ.set i (some (.val v)))[j]? = some (some (Sl.own u)) → j ≠ i ∧ ρ[j]? = some (some (Sl.own u)) := fun j u q => by
    by_cases hj : i = j
    · subst hj; rw [List.getElem?_set_self hi] at q; cases q
    · rw [List.getElem?_set_ne hj] at q; exact ⟨Ne.symm hj, q⟩
  refine ⟨⟨sm, fun b u q n => ?_, fun b q => ?_, fun b z => ?_, fun b u q => ?_, rfl, ⟨fun b u q => ?_, fun j u q => ?_, fun j u q => ?_, fun j k u u' b q q' => ?_, by rw [List.length_set]; exact r.len⟩⟩, rp⟩
  · rw [upd_ne (fun z => n ⟨i, v, e, by rw [z]; exact h1⟩)]; exact q
  · by_cases hb : b = a
    · subst hb; rw [upd_same]; simp
    · rw [upd_ne hb]; exact q
  · obtain ⟨j, u, q1, q2⟩ := z
    exact .inl ⟨j, u, (own_ne j u q1).2, q2⟩
  · by_cases hb : b = a
    · subst hb; exact .inr (.inr ⟨i, v, e, h1⟩)
    · rw [upd_ne hb] at q; exact .inl q
  · by_cases hb : b = a
    · subst hb; rw [upd_same] at q ⊢; exact q
    · rw [upd_ne hb] at q ⊢; exact r.le b u q
  · by_cases hj : i = j
    · subst hj; rw [List.getElem?_set_self hi] at q; cases q
      exact ⟨_, h1, rp⟩
    · rw [List.getElem?_set_ne hj] at q
      obtain ⟨w, q1, q2⟩ := r.val j u q
      exact ⟨w, q1, q2.mono sm⟩
  · obtain ⟨nj, q⟩ := own_ne j u q
    obtain ⟨b, q1, q2, q3⟩ := r.own j u q
    have nb : b ≠ a := fun z => by subst z; exact nj (r.inj j i u v b q e q1 h1)
    exact ⟨b, q1, by rw [upd_ne nb]; exact q2, q3.mono sm (upd_ne nb)⟩
  · exact r.inj j k u u' b (own_ne j u q).2 (own_ne k u' q').2
theorem upd_self {a : Addr} {o : HO} (h : H a = some o) : upd H a o = H := by
  funext b
  by_cases hb : b = a
  · subst hb; rw [upd_same, h]
  · rw [upd_ne hb]
/-- a name, a dict locked on the way -/
def tVarL (i : Nat) : TE := fun σ H Q => ∃ v, σ[i]? = some (some v) ∧ (Q v H ∨ ∃ d ks, v = .ref d ∧ H d = some (.dK ks) ∧ ∀ od, Q v (upd H d (.frz od (.dK ks))))
theorem pe_varL {X : Cx} {e : Expr} {i : Nat} (h : PE X e (tVar i)) : PE X e (tVarL i) := by
  refine ⟨fun pins s σ H Q I q => ?_⟩
  obtain ⟨v, e1, q⟩ := q
  refine thn (h.run pins s σ H (fun w H' => w = v ∧ H' = H) I ⟨v, e1, rfl, rfl⟩) fun u s1 ⟨w, H', I1, r1, e2, e3⟩ => ?_
  subst e2 e3
  rcases q with q | ⟨d, ks, e4, hd, q⟩
  · exact ⟨_, _, I1, r1, q⟩
  · obtain ⟨od, I2⟩ := I1.lock hd True.intro
    exact ⟨_, _, I2, r1, q od⟩
theorem x_var {i : Nat} {Q : VK} (h : tX K Ex (rd i) σ H Q) : tVarL i σ H Q := by
  obtain ⟨F, ρ, hr, h⟩ := h
  unfold rd at h
  split at h
  · rename_i v r' e
    split at e
    · rename_i u q
      cases e
      obtain ⟨w, h1, h2⟩ := hr.val i _ q
      exact ⟨w, h1, .inl (h w F H (Step.refl hr) h2)⟩
    · rename_i u q
      cases e
      obtain ⟨a, h1, h2, h3⟩ := hr.own i _ q
      refine ⟨_, h1, ?_⟩
      cases v <;> first | exact h3.elim | skip
      · obtain ⟨vs, hv, rv⟩ := h3
        obtain ⟨st, rp⟩ := hr.freeze q h1 hv (o' := .lst vs) fun F' sm e => .lst e (rv.mono sm)
        rw [upd_self hv] at st
        exact .inl (h _ _ _ st rp)
      · obtain ⟨vs, hv, rv⟩ := h3
        refine .inr ⟨a, vs, rfl, hv, fun od => ?_⟩
        obtain ⟨st, rp⟩ := hr.freeze q h1 hv (o' := .frz od (.dK vs)) fun F' sm e => .dct e (rv.mono sm)
        exact h _ _ _ st rp
    · cases e
  · rename_i e
    split at e <;> cases e
  · exact h.elim
theorem o_var {i : Nat} {Q : VK} (h : tO K Ex (tkv i) σ H Q) : tVar i σ H Q := by
  obtain ⟨F, ρ, hr, h⟩ := h
  unfold tkv at h
  split at h
  · rename_i v r' e
    split at e
    · rename_i u q
      cases e
      cases u with
      | val v =>
        obtain ⟨w, h1, h2⟩ := hr.val i _ q
        exact ⟨w, h1, h w F H (Step.refl hr) h1⟩
      | own v =>
        obtain ⟨a, h1, h2⟩ := hr.own i _ q
        exact ⟨_, h1, h _ F H (Step.refl hr) h1⟩
    · cases e
  · rename_i e
    split at e <;> cases e
  · exact h.elim
theorem o_of {f : M PV} {Q : VK} (h : tO K Ex (sv f) σ H Q) : tX K Ex f σ H Q := by
  obtain ⟨F, ρ, h⟩ := h
  exact ⟨F, ρ, (At.bnd (R := RV K) h).mono fun w H1 ⟨F1, ρ1, v, st, r, h1⟩ => h1.ret r⟩
theorem x_const {v : PV} {w : V} {Q : VK} (h : tX K Ex (ret v) σ H Q) (r : ∀ F, Rep K F w v) : Q w H := by
  obtain ⟨F, ρ, h⟩ := h
  exact h.ret (r F)
theorem At.fin {v : PV} {Q : VK} (hr : RE K F σ H ρ) (q : ∀ w F' H', Step K F σ H ρ F' σ H' ρ → RV K F' H' σ ρ w v → Q w H') : Fin1 K F H v Q := fun w F' H' g r => q w F' H' (g.step hr) r
theorem x_op2 {r : R2} {g : PV → PV → Option PV} {f f2 : M Tk} (hg : Opr2 K r g) {Q : VK} (h : tX K Ex (op2 g f f2) σ H Q) : tOp r (tO K Ex f) (tO K Ex f2) σ H Q := by
  obtain ⟨F, ρ, h⟩ := h
  refine ⟨F, ρ, (At.bnd h).mono fun x H1 ⟨F1, ρ1, t, st1, r1, h1⟩ => ?_⟩
  refine ⟨F1, ρ1, (At.bnd h1).mono fun y H2 ⟨F2, ρ2, u, st2, r2, h2⟩ => ?_⟩
  obtain ⟨a, sa, h3⟩ := At.force h2 (RT.mono st2.le r1)
  obtain ⟨b, sb, h4⟩ := At.force h3 r2
  obtain ⟨v, e, q⟩ := At.lft h4
  exact hg F2 H2 x y a b v Q h4.1.le sa sb e (At.fin h4.1 q)
theorem x_op1 {r : V → Hp → VK → Prop} {g : PV → Option PV} {f : M Tk} (hg : Opr1 K r g) {Q : VK} (h : tX K Ex (op1 g f) σ H Q) : tUn r (tO K Ex f) σ H Q := by
  obtain ⟨F, ρ, h⟩ := h
  refine ⟨F, ρ, (At.bnd h).mono fun x H1 ⟨F1, ρ1, t, st1, r1, h1⟩ => ?_⟩
  obtain ⟨a, sa, h3⟩ := At.force h1 r1
  obtain ⟨v, e, q⟩ := At.lft h3
  exact hg F1 H1 x a v Q h3.1.le sa e (At.fin h3.1 q)
theorem x_opn {r : List V → Hp → VK → Prop} {g : List PV → Option PV} {f : M (List Tk)} (hg : OprN K r g) {Q : VK} (h : tX K Ex (opn g f) σ H Q) : tCB r (tOA K Ex f) σ H Q := by
  obtain ⟨F, ρ, h⟩ := h
  refine ⟨F, ρ, (At.bnd h).mono fun x H1 ⟨F1, ρ1, t, st1, r1, h1⟩ => ?_⟩
  obtain ⟨a, sa, h3⟩ := At.forces h1 r1
  obtain ⟨v, e, q⟩ := At.lft h3
  exact hg F1 H1 x a v Q h3.1.le sa e (At.fin h3.1 q)
theorem t_tst {f : M PV} {Q : Bool → Hp → Prop} (h : tT K Ex (tst f) σ H Q) : tX K Ex f σ H fun x H1 => ∃ c, x = .bl c ∧ Q c H1 := by
  obtain ⟨F, ρ, h⟩ := h
  refine ⟨F, ρ, (At.bnd (R := RV K) h).mono fun x H1 ⟨F1, ρ1, v, st1, r1, h1⟩ => ?_⟩
  obtain ⟨b, e, q⟩ := At.lft h1
  cases v <;> first | (cases e; done) | skip
  cases e
  cases r1
  exact ⟨_, rfl, q _ F1 H1 (Step.refl h1.1) rfl⟩
theorem t_and {f g : M Bool} {Q : Bool → Hp → Prop} (h : tT K Ex (andT f g) σ H Q) : tAnd (tT K Ex f) (tT K Ex g) σ H Q := by
  obtain ⟨F, ρ, h⟩ := h
  refine ⟨F, ρ, (At.bnd (R := RB) h).mono fun c H1 ⟨F1, ρ1, v, st1, r1, h1⟩ => ?_⟩
  cases r1
  cases c with
  | true => exact ⟨F1, ρ1, h1⟩
  | false => exact h1.ret rfl
theorem t_or {f g : M Bool} {Q : Bool → Hp → Prop} (h : tT K Ex (orT f g) σ H Q) : tOr (tT K Ex f) (tT K Ex g) σ H Q := by
  obtain ⟨F, ρ, h⟩ := h
  refine ⟨F, ρ, (At.bnd (R := RB) h).mono fun c H1 ⟨F1, ρ1, v, st1, r1, h1⟩ => ?_⟩
  cases r1
  cases c with
  | true => exact h1.ret rfl
  | false => exact ⟨F1, ρ1, h1⟩
theorem t_not {f : M Bool} {Q : Bool → Hp → Prop} (h : tT K Ex (notT f) σ H Q) : tNot (tT K Ex f) σ H Q := by
  obtain ⟨F, ρ, h⟩ := h
  refine ⟨F, ρ, (At.bnd (R := RB) h).mono fun c H1 ⟨F1, ρ1, v, st1, r1, h1⟩ => ?_⟩
  cases r1
  exact h1.ret rfl
theorem x_if {c : M Bool} {f g : M PV} {Q : VK} (h : tX K Ex (ifX c f g) σ H Q) : tIf (tT K Ex c) (tX K Ex f) (tX K Ex g) σ H Q := by
  obtain ⟨F, ρ, h⟩ := h
  refine ⟨F, ρ, (At.bnd (R := RB) h).mono fun c H1 ⟨F1, ρ1, v, st1, r1, h1⟩ => ?_⟩
  cases r1
  cases c with
  | true => exact ⟨F1, ρ1, h1⟩
  | false => exact ⟨F1, ρ1, h1⟩
theorem At.test {α β : Type} {R : Hp → Hp → St → Env → β → α → Prop} {f : M PV} {k : Bool → M α} {Q : β → Hp → Prop} (h : At K Ex R F ρ (G7.bnd (tst f) k) σ H Q) :
    At K Ex (RV K) F ρ f σ H fun x H1 => ∃ c F1 ρ1, x = .bl c ∧ At K Ex R F1 ρ1 (k c) σ H1 Q := by
  refine (At.bnd (R := RV K) (At.assoc h)).mono fun x H1 ⟨F1, ρ1, v, st1, r1, h1⟩ => ?_
  cases v <;> first | exact h1.2.elim | skip
  cases r1
  exact ⟨_, F1, ρ1, rfl, h1⟩
theorem x_andV {f g : M PV} {Q : VK} (h : tX K Ex (andV f g) σ H Q) : tAndV (tX K Ex f) (tX K Ex g) σ H Q := by
  obtain ⟨F, ρ, h⟩ := h
  refine ⟨F, ρ, (At.test h).mono fun x H1 ⟨c, F1, ρ1, ex, h1⟩ => ⟨c, ex, ?_⟩⟩
  cases c with
  | true => exact ⟨F1, ρ1, h1⟩
  | false => exact h1.ret (.bl _)
theorem x_orV {f g : M PV} {Q : VK} (h : tX K Ex (orV f g) σ H Q) : tOrV (tX K Ex f) (tX K Ex g) σ H Q := by
  obtain ⟨F, ρ, h⟩ := h
  refine ⟨F, ρ, (At.test h).mono fun x H1 ⟨c, F1, ρ1, ex, h1⟩ => ⟨c, ex, ?_⟩⟩
  cases c with
  | true => exact h1.ret (.bl _)
  | false => exact ⟨F1, ρ1, h1⟩
theorem x_notV {f : M PV} {Q : VK} (h : tX K Ex (notV f) σ H Q) : tNotV (tX K Ex f) σ H Q := by
  obtain ⟨F, ρ, h⟩ := h
  refine ⟨F, ρ, (At.test h).mono fun x H1 ⟨c, F1, ρ1, ex, h1⟩ => ⟨c, ex, h1.ret (.bl _)⟩⟩
theorem x_chain {r r' : R2} {g g' : PV → PV → Option PV} {f f2 f3 : M Tk} (hg : Opr2 K r g) (hg' : Opr2 K r' g') {Q : VK} (h : tX K Ex (chn g g' f f2 f3) σ H Q) : tChain r r' (tO K Ex f) (tO K Ex f2) (tO K Ex f3) σ H Q := by
  obtain ⟨F, ρ, h⟩ := h
  refine ⟨F, ρ, (At.bnd h).mono fun x H1 ⟨F1, ρ1, t, st1, r1, h1⟩ => ?_⟩
  refine ⟨F1, ρ1, (At.bnd h1).mono fun y H2 ⟨F2, ρ2, u, st2, r2, h2⟩ => ?_⟩
  obtain ⟨a, sa, h3⟩ := At.force h2 (RT.mono st2.le r1)
  obtain ⟨b, sb, h4⟩ := At.force h3 r2
  have h5 := At.bnd (R := RV K) (At.assoc h4)
  obtain ⟨v, e, q⟩ := At.lft h5
  refine hg F2 H2 x y a b v _ h4.1.le sa sb e fun z F3 H3 gr rz => ?_
  obtain ⟨F4, ρ4, v', st4, r4, h6⟩ := q z F3 H3 (gr.step h4.1) rz
  cases v' <;> first | exact h6.2.elim | skip
  cases r4
  rename_i c
  refine ⟨c, rfl, ?_⟩
  cases c with
  | true =>
    refine ⟨F4, ρ4, (At.bnd (show At K Ex (RV K) F4 ρ4 (G7.bnd f3 fun v => G7.bnd (force u) fun b => G7.bnd (force v) fun d => G7.lft (g' b d)) σ H3 Q from h6)).mono fun w5 H5 ⟨F5, ρ5, t5, st5, r5, h7⟩ => ?_⟩
    obtain ⟨b', sb', h8⟩ := At.force h7 (RT.mono (st4.le.trans st5.le) r2)
    obtain ⟨d, sd, h9⟩ := At.force h8 r5
    obtain ⟨v9, e9, q9⟩ := At.lft h9
    exact hg' F5 H5 y w5 b' d v9 Q h9.1.le sb' sd e9 (At.fin h9.1 q9)
  | false => exact h6.ret (.bl _)
theorem oa_nil' {Q : List V → Hp → Prop} (h : tOA K Ex nil σ H Q) : tNil σ H Q := by
  obtain ⟨F, ρ, h⟩ := h
  exact h.ret (w := []) trivial
theorem oa_cons' {f : M Tk} {g : M (List Tk)} {Q : List V → Hp → Prop} (h : tOA K Ex (cns f g) σ H Q) : tCons (tO K Ex f) (tOA K Ex g) σ H Q := by
  obtain ⟨F, ρ, h⟩ := h
  refine ⟨F, ρ, (At.bnd h).mono fun x H1 ⟨F1, ρ1, t, st1, r1, h1⟩ => ?_⟩
  refine ⟨F1, ρ1, (At.bnd h1).mono fun y H2 ⟨F2, ρ2, u, st2, r2, h2⟩ => ?_⟩
  exact h2.ret ⟨RT.mono st2.le r1, r2⟩
theorem a_nil' {Q : List V → Hp → Prop} (h : tA K Ex nil σ H Q) : tNil σ H Q := by
  obtain ⟨F, ρ, h⟩ := h
  exact h.ret (w := []) .nil
theorem a_cons' {f : M PV} {g : M (List PV)} {Q : List V → Hp → Prop} (h : tA K Ex (cns f g) σ H Q) : tCons (tX K Ex f) (tA K Ex g) σ H Q := by
  obtain ⟨F, ρ, h⟩ := h
  refine ⟨F, ρ, (At.bnd (R := RV K) h).mono fun x H1 ⟨F1, ρ1, t, st1, r1, h1⟩ => ?_⟩
  refine ⟨F1, ρ1, (At.bnd (R := RVs K) h1).mono fun y H2 ⟨F2, ρ2, u, st2, r2, h2⟩ => ?_⟩
  exact h2.ret (.cons (Rep.mono st2.le r1) r2)
theorem x_meth {r : V → List V → Hp → VK → Prop} {g : PV → List PV → Option PV} {f : M Tk} {fa : M (List Tk)} (hg : OprM K r g) {Q : VK} (h : tX K Ex (methS g f fa) σ H Q) : tBM K "str" r (tO K Ex f) (tOA K Ex fa) σ H Q := by
  obtain ⟨F, ρ, h⟩ := h
  refine ⟨F, ρ, (At.bnd h).mono fun x H1 ⟨F1, ρ1, t, st1, r1, h1⟩ => ?_⟩
  obtain ⟨a, sa, h2⟩ := At.force h1 r1
  cases a <;> first | exact h2.2.elim | skip
  rename_i l
  obtain ⟨ex, hb⟩ := sa.str
  refine ⟨by rw [ex]; rfl, ?_⟩
  have h3 : At K Ex (RV K) F1 ρ1 (G7.bnd fa fun ts => G7.bnd (forces ts) fun as => G7.lft (g (.str l) as)) σ H1 Q := h2
  refine ⟨F1, ρ1, (At.bnd h3).mono fun y H2 ⟨F2, ρ2, u, st2, r2, h4⟩ => ?_⟩
  obtain ⟨as, ss, h5⟩ := At.forces h4 r2
  obtain ⟨v, e, q⟩ := At.lft h5
  exact hg F2 H2 x y (.str l) as v Q h5.1.le (.inl (by rw [ex]; exact .str hb)) ss e (At.fin h5.1 q)
theorem x_tup {f : M (List PV)} {Q : VK} (h : tX K Ex (bnd f fun as => lft (tupV as)) σ H Q) : tTup (tA K Ex f) σ H Q := by
  obtain ⟨F, ρ, h⟩ := h
  refine ⟨F, ρ, (At.bnd (R := RVs K) h).mono fun x H1 ⟨F1, ρ1, as, st1, r1, h1⟩ => ?_⟩
  obtain ⟨v, e, q⟩ := At.lft h1
  unfold tupV at e
  split at e
  · rename_i hl
    cases e
    exact ⟨by rw [Reps.len r1, line_eq]; exact hl, fun p np => (At.fin h1.1 q).newT h1.1.le np r1⟩
  · cases e
theorem x_lst {f : M (List PV)} {Q : VK} (h : tX K Ex (bnd f fun as => lft (lstV as)) σ H Q) : tLst (tA K Ex f) σ H Q := by
  obtain ⟨F, ρ, h⟩ := h
  refine ⟨F, ρ, (At.bnd (R := RVs K) h).mono fun x H1 ⟨F1, ρ1, as, st1, r1, h1⟩ => ?_⟩
  obtain ⟨v, e, q⟩ := At.lft h1
  unfold lstV at e
  split at e
  · rename_i hl
    cases e
    exact ⟨by rw [Reps.len r1, line_eq]; exact hl, fun p np => (At.fin h1.1 q).newL h1.1.le np r1⟩
  · cases e
/-- a new list, its own -/
theorem RE.fresh (hr : RE K F σ H ρ) {p : Addr} (np : H p = none) (o : HO) : Step K F σ H ρ F σ (upd H p o) ρ ∧ F p = none ∧ ¬ OwnAt σ ρ p := by
  have nf : F p = none := hr.le.free np
  have no : ¬ OwnAt σ ρ p := fun ⟨i, v, e1, e2⟩ => by
    obtain ⟨a, h1, _, h3⟩ := hr.own i v e1
    rw [e2] at h1; cases h1
    obtain ⟨u, hu⟩ := h3.some
    rw [np] at hu; cases hu
  refine ⟨⟨Same.refl _, fun a u e _ => ?_, fun a n => ?_, fun a z => .inl z, fun a u e => .inl e, rfl, ⟨fun a u e => ?_, hr.val, fun i v e => ?_, hr.inj, hr.len⟩⟩, nf, no⟩
  · rw [upd_ne (ne_of_none e np)]; exact e
  · by_cases h : a = p
    · subst h; exact absurd np n
    · rw [upd_ne h]; exact n
  · rw [upd_ne (ne_of_none e nf)]; exact hr.le a u e
  · obtain ⟨a, h1, h2, h3⟩ := hr.own i v e
    have : a ≠ p := fun z => no ⟨i, v, e, by rw [← z]; exact h1⟩
    exact ⟨a, h1, h2, h3.mono (Same.refl _) (upd_ne this)⟩
theorem f_lst {f : M (List PV)} {Q : VK} (h : tF K Ex (bnd f fun as => lft (lstV as)) σ H Q) : tLst (tA K Ex f) σ H Q := by
  obtain ⟨F, ρ, h⟩ := h
  refine ⟨F, ρ, (At.bnd (R := RVs K) h).mono fun x H1 ⟨F1, ρ1, as, st1, r1, h1⟩ => ?_⟩
  obtain ⟨v, e, q⟩ := At.lft h1
  unfold lstV at e
  split at e
  · rename_i hl
    cases e
    refine ⟨by rw [Reps.len r1, line_eq]; exact hl, fun p np => ?_⟩
    obtain ⟨st, nf, no⟩ := h1.1.fresh np (.lst x)
    exact q _ F1 _ st ⟨p, rfl, nf, ⟨x, upd_same, r1⟩, no, st1.none_of np⟩
  · cases e
end
section
variable {X : Cx} {Ex : Nat → Hp → Prop} {a b c e : Expr} {es : List Expr} {pos : Pos} {f f2 f3 : M Tk} {g1 g2 : M PV} {m1 m2 : M Bool}
theorem dx_var {i : Nat} (h : PE X e (tVar i)) : PE X e (tX X.K Ex (rd i)) := pe_weak (pe_varL h) fun _ _ _ => x_var
theorem do_var {i : Nat} (h : PE X e (tVar i)) : PE X e (tO X.K Ex (tkv i)) := pe_weak h fun _ _ _ => o_var
theorem do_of (h : PE X e (tX X.K Ex g1)) : PE X e (tO X.K Ex (sv g1)) := pe_weak h fun _ _ _ => o_of
theorem dx_int {i : Int} {j : Nat} : PE X (.Constant (.int i) j pos) (tX X.K Ex (ret (.int i))) := pe_weak pe_int fun _ _ _ h => x_const h fun _ => .int i
theorem dx_bl {i : Bool} {j : Nat} : PE X (.Constant (.bool i) j pos) (tX X.K Ex (ret (.bl i))) := pe_weak pe_bl fun _ _ _ h => x_const h fun _ => .bl i
theorem dx_non {j : Nat} : PE X (.Constant .none j pos) (tX X.K Ex (ret .non)) := pe_weak pe_non fun _ _ _ h => x_const h fun _ => .non
theorem dx_str {x : Str} {l : List Nat} {j : Nat} (hx : x = ⟨l.toArray⟩) (hb : (l.all fun c => decide (c < 1114112)) = true) : PE X (.Constant (.str x) j pos) (tX X.K Ex (ret (.str l))) := by
  subst hx
  refine pe_weak pe_str fun _ _ _ h => x_const h fun _ => .str fun c hc => ?_
  exact of_decide_eq_true (List.all_eq_true.mp hb c hc)
theorem dx_bin {op : Operator} {r : R2} {g : PV → PV → Option PV} (ho : OpR X (binaryOp op) r) (hg : Opr2 X.K r g) (ha : PE X a (tO X.K Ex f)) (hb : PE X b (tO X.K Ex f2)) : PE X (.BinOp a op b pos) (tX X.K Ex (op2 g f f2)) :=
  pe_weak (pe_op ho ha hb) fun _ _ _ => x_op2 hg
theorem dx_un {op : UnaryOp} {r : V → Hp → VK → Prop} {g : PV → Option PV} (ho : UnR X (unaryOp op) r) (hg : Opr1 X.K r g) (ha : PE X a (tO X.K Ex f)) : PE X (.UnaryOp op a pos) (tX X.K Ex (op1 g f)) :=
  pe_weak (pe_un ho ha) fun _ _ _ => x_op1 hg
theorem dx_cmp {op : CmpOp} {r : R2} {g : PV → PV → Option PV} (ho : OpR X (compareOp op) r) (hg : Opr2 X.K r g) (ha : PE X a (tO X.K Ex f)) (hb : PE X b (tO X.K Ex f2)) (hm : behindInMarks op b = false) : PE X (.Compare a [op] [b] pos) (tX X.K Ex (op2 g f f2)) :=
  pe_weak (pe_cmpR ho ha hb hm) fun _ _ _ => x_op2 hg
theorem dt_cmp {op : CmpOp} {r : R2} {g : PV → PV → Option PV} (ho : OpR X (compareOp op) r) (hg : Opr2 X.K r g) (ha : PE X a (tO X.K Ex f)) (hb : PE X b (tO X.K Ex f2)) (hm : behindInMarks op b = false) : PT X (.Compare a [op] [b] pos) (tT X.K Ex (tst (op2 g f f2))) :=
  pt_weak (pt_cmpR ho ha hb hm) fun _ _ _ h => x_op2 hg (t_tst h)
theorem dt_val (h : PE X e (tX X.K Ex g1)) (he : ∀ whole, isTrue e X.env whole = (do let v ← whole; standAt e.pos; holding [v] (truthy v)) := by intro _; rfl) : PT X e (tT X.K Ex (tst g1)) :=
  pt_weak (pt_val h he) fun _ _ _ h => t_tst h
theorem dw_and1 (ha : PT X a (tT X.K Ex m1)) : PW X (.BoolOp .And [a] pos) (tT X.K Ex m1) := pw_and1 ha
theorem dw_or1 (ha : PT X a (tT X.K Ex m1)) : PW X (.BoolOp .Or [a] pos) (tT X.K Ex m1) := pw_or1 ha
theorem dw_and (ha : PT X a (tT X.K Ex m1)) (hb : PW X (.BoolOp .And (b :: es) pos) (tT X.K Ex m2)) : PW X (.BoolOp .And (a :: b :: es) pos) (tT X.K Ex (andT m1 m2)) := pw_weak (pw_and ha hb) fun _ _ _ => t_and
theorem dw_or (ha : PT X a (tT X.K Ex m1)) (hb : PW X (.BoolOp .Or (b :: es) pos) (tT X.K Ex m2)) : PW X (.BoolOp .Or (a :: b :: es) pos) (tT X.K Ex (orT m1 m2)) := pw_weak (pw_or ha hb) fun _ _ _ => t_or
theorem dt_not (ha : PT X a (tT X.K Ex m1)) : PT X (.UnaryOp .Not a pos) (tT X.K Ex (notT m1)) := pt_weak (pt_not ha) fun _ _ _ => t_not
theorem dx_one {op : BoolOp} (h : PE X a (tX X.K Ex g1)) : PE X (.BoolOp op [a] pos) (tX X.K Ex g1) := pe_one h
theorem dx_and (ha : PE X a (tX X.K Ex g1)) (hb : PE X (.BoolOp .And (b :: es) pos) (tX X.K Ex g2)) : PE X (.BoolOp .And (a :: b :: es) pos) (tX X.K Ex (andV g1 g2)) := pe_weak (pe_and ha hb) fun _ _ _ => x_andV
theorem dx_or (ha : PE X a (tX X.K Ex g1)) (hb : PE X (.BoolOp .Or (b :: es) pos) (tX X.K Ex g2)) : PE X (.BoolOp .Or (a :: b :: es) pos) (tX X.K Ex (orV g1 g2)) := pe_weak (pe_or ha hb) fun _ _ _ => x_orV
theorem dx_not (ha : PE X a (tX X.K Ex g1)) : PE X (.UnaryOp .Not a pos) (tX X.K Ex (notV g1)) := pe_weak (pe_not ha) fun _ _ _ => x_notV
theorem dx_if (hc : PT X c (tT X.K Ex m1)) (ha : PE X a (tX X.K Ex g1)) (hb : PE X b (tX X.K Ex g2)) : PE X (.IfExp c a b pos) (tX X.K Ex (ifX m1 g1 g2)) := pe_weak (pe_ifExp hc ha hb) fun _ _ _ => x_if
theorem dx_chain {op op' : CmpOp} {r r' : R2} {g g' : PV → PV → Option PV} (ho : OpR X (compareOp op) r) (ho' : OpR X (compareOp op') r') (hg : Opr2 X.K r g) (hg' : Opr2 X.K r' g') (ha : PE X a (tO X.K Ex f)) (hb : PE X b (tO X.K Ex f2)) (hc : PE X c (tO X.K Ex f3)) (hm : lastMarks [op, op'] [b, c] = false := by rfl) :
    PE X (.Compare a [op, op'] [b, c] pos) (tX X.K Ex (chn g g' f f2 f3)) := pe_weak (pe_chain ho ho' ha hb hc hm) fun _ _ _ => x_chain hg hg'
theorem dt_chain {op op' : CmpOp} {r r' : R2} {g g' : PV → PV → Option PV} (ho : OpR X (compareOp op) r) (ho' : OpR X (compareOp op') r') (hg : Opr2 X.K r g) (hg' : Opr2 X.K r' g') (ha : PE X a (tO X.K Ex f)) (hb : PE X b (tO X.K Ex f2)) (hc : PE X c (tO X.K Ex f3)) (hm : lastMarks [op, op'] [b, c] = false := by rfl) :
    PT X (.Compare a [op, op'] [b, c] pos) (tT X.K Ex (tst (chn g g' f f2 f3))) := pt_weak (pt_chain ho ho' ha hb hc hm) fun _ _ _ h => x_chain hg hg' (t_tst h)
theorem oa_nil : PA X [] (tOA X.K Ex nil) := pa_weak pa_nil fun _ _ _ => oa_nil'
theorem oa_cons {fa : M (List Tk)} (ha : PE X e (tO X.K Ex f)) (hr : PA X es (tOA X.K Ex fa)) (hs : starEach (e :: es) X.env = (false, eval e X.env) :: starEach es X.env := by rfl) : PA X (e :: es) (tOA X.K Ex (cns f fa)) := pa_weak (pa_cons ha hr hs) fun _ _ _ => oa_cons'
theorem a_nil : PA X [] (tA X.K Ex nil) := pa_weak pa_nil fun _ _ _ => a_nil'
theorem a_cons {fa : M (List PV)} (ha : PE X e (tX X.K Ex g1)) (hr : PA X es (tA X.K Ex fa)) (hs : starEach (e :: es) X.env = (false, eval e X.env) :: starEach es X.env := by rfl) : PA X (e :: es) (tA X.K Ex (cns g1 fa)) := pa_weak (pa_cons ha hr hs) fun _ _ _ => a_cons'
theorem dx_tup {x1 : Nat} {fa : M (List PV)} (h : PA X es (tA X.K Ex fa)) : PE X (.Tuple es x1 pos) (tX X.K Ex (bnd fa fun as => lft (tupV as))) := pe_weak (pe_tup h) fun _ _ _ => x_tup
theorem dx_lst {fa : M (List PV)} (h : PA X es (tA X.K Ex fa)) : PE X (.List es pos) (tX X.K Ex (bnd fa fun as => lft (lstV as))) := pe_weak (pe_lst h) fun _ _ _ => x_lst
theorem df_lst {fa : M (List PV)} (h : PA X es (tA X.K Ex fa)) : PE X (.List es pos) (tF X.K Ex (bnd fa fun as => lft (lstV as))) := pe_weak (pe_lst h) fun _ _ _ => f_lst
end
end G7

set_option Elab.async false
set_option linter.all false
set_option maxRecDepth 100000
set_option autoImplicit false
namespace G7
open PySem PySem.Spec PyProof.Rows L2
inductive Out where
  | nx
  | rt (v : PV)
  | bk
  | ct
def seqM (f g : M Out) : M Out := bnd f fun o => match o with | .nx => g | o => ret o
def setV (i : Nat) (f : M PV) : M Out := bnd f fun v => bnd (wr i (some (.val v))) fun _ => ret .nx
def setO (i : Nat) (f : M PV) : M Out := bnd f fun v => bnd (wr i (some (.own v))) fun _ => ret .nx
def retM (f : M PV) : M Out := bnd f fun v => ret (.rt v)
def dropM (f : M PV) : M Out := bnd f fun _ => ret .nx
def skipM : M Out := ret .nx
/-- what a def gives: its value, what its one changed argument holds then -/
inductive FR where
  | ok (v u : PV)
  | exc (c : Nat) (u : PV)
  | bad
def frM : FR → M PV
  | .ok v _ => ret v
  | .exc c _ => raz c
  | .bad => fun _ => .bad
def callP (Fn : List PV → FR) (fa : M (List PV)) : M PV := bnd fa fun as => frM (Fn as)
def envP (n : Nat) (as : List PV) : Env := as.map (fun a => some (.val a)) ++ List.replicate (n - as.length) none
def runP (n : Nat) (fb : M Out) (as : List PV) : FR :=
  match fb (envP n as) with
  | .ok (.rt v) _ => .ok v .non
  | .ok .nx _ => .ok .non .non
  | .exc c _ => .exc c .non
  | _ => .bad

section
variable (K : PySem.W.Frag) (Ex : Nat → Hp → Prop) (J : List Nat)
def Keep (σ σ' : St) : Prop := ∀ j ∈ J, σ'[j]? = σ[j]?
def SAt (F : Hp) (ρ : Env) (f : M Out) (σ : St) (H : Hp) (D : Ends) : Prop :=
  RE K F σ H ρ ∧ match f ρ with
    | .ok .nx ρ' => ∀ F' σ' H', Step K F σ H ρ F' σ' H' ρ' → Keep J σ σ' → D.nx σ' H'
    | .ok .bk ρ' => ∀ F' σ' H', Step K F σ H ρ F' σ' H' ρ' → Keep J σ σ' → D.bk σ' H'
    | .ok .ct ρ' => ∀ F' σ' H', Step K F σ H ρ F' σ' H' ρ' → Keep J σ σ' → D.ct σ' H'
    | .ok (.rt v) ρ' => ∀ w F' σ' H', Step K F σ H ρ F' σ' H' ρ' → Keep J σ σ' → Rep K F' w v → D.rt w H'
    | .exc c ρ' => ∀ F' σ' H', Step K F σ H ρ F' σ' H' ρ' → Keep J σ σ' → Ex c H'
    | .bad => False
def sX (f : M Out) : TS := fun D σ H => ∃ F ρ, SAt K Ex J F ρ f σ H D
/-- an expression of a statement: what it raises is raised behind the slots as they stand -/
def Exs (σ : St) : Nat → Hp → Prop := Ex
end
section
variable {K : PySem.W.Frag} {Ex : Nat → Hp → Prop} {J : List Nat} {F F1 F' H H1 H' : Hp} {σ σ1 σ' : St} {ρ ρ1 : Env}
theorem Keep.refl : Keep J σ σ := fun _ _ => rfl
theorem Keep.trans {σ1 σ2 : St} (a : Keep J σ σ1) (b : Keep J σ1 σ2) : Keep J σ σ2 := fun j hj => (b j hj).trans (a j hj)
theorem Keep.set {i : Nat} {w : Option V} (h : i ∉ J) : Keep J σ (σ.set i w) := fun j hj => by
  rw [List.getElem?_set_ne]
  intro e
  subst e
  exact h hj
/-- from the state behind a part to the whole -/
theorem SAt.shift {k : M Out} {D : Ends} (st : Step K F σ H ρ F1 σ1 H1 ρ1) (kp : Keep J σ σ1) (h : match k ρ1 with
    | .ok .nx ρ' => ∀ F' σ' H', Step K F σ H ρ F' σ' H' ρ' → Keep J σ σ' → D.nx σ' H'
    | .ok .bk ρ' => ∀ F' σ' H', Step K F σ H ρ F' σ' H' ρ' → Keep J σ σ' → D.bk σ' H'
    | .ok .ct ρ' => ∀ F' σ' H', Step K F σ H ρ F' σ' H' ρ' → Keep J σ σ' → D.ct σ' H'
    | .ok (.rt v) ρ' => ∀ w F' σ' H', Step K F σ H ρ F' σ' H' ρ' → Keep J σ σ' → Rep K F' w v → D.rt w H'
    | .exc c ρ' => ∀ F' σ' H', Step K F σ H ρ F' σ' H' ρ' → Keep J σ σ' → Ex c H'
    | .bad => False) : SAt K Ex J F1 ρ1 k σ1 H1 D := by
  refine ⟨st.re, ?_⟩
  cases e : k ρ1 with
  | ok o r =>
    rw [e] at h
    cases o with
    | nx => exact fun F' σ' H' s k => h F' σ' H' (st.trans s) (kp.trans k)
    | bk => exact fun F' σ' H' s k => h F' σ' H' (st.trans s) (kp.trans k)
    | ct => exact fun F' σ' H' s k => h F' σ' H' (st.trans s) (kp.trans k)
    | rt v => exact fun w F' σ' H' s k => h w F' σ' H' (st.trans s) (kp.trans k)
  | exc c r => rw [e] at h; exact fun F' σ' H' s k => h F' σ' H' (st.trans s) (kp.trans k)
  | bad => rw [e] at h; exact h
theorem SAt.bnd {α β : Type} {R : Hp → Hp → St → Env → β → α → Prop} {f : M α} {k : α → M Out} {D : Ends} (h : SAt K Ex J F ρ (bnd f k) σ H D) :
    At K Ex R F ρ f σ H fun w H1 => ∃ F1 ρ1 v, Step K F σ H ρ F1 σ H1 ρ1 ∧ R F1 H1 σ ρ1 w v ∧ SAt K Ex J F1 ρ1 (k v) σ H1 D := by
  obtain ⟨hr, h⟩ := h
  refine ⟨hr, ?_⟩
  unfold G7.bnd at h
  cases e : f ρ with
  | ok v r =>
    rw [e] at h
    exact fun w F1 H1 st rr => ⟨F1, r, v, st, rr, SAt.shift st Keep.refl h⟩
  | exc c r => rw [e] at h; exact fun F' H' st => h F' σ H' st Keep.refl
  | bad => rw [e] at h; exact h
theorem SAt.seq {f g : M Out} {D : Ends} (h : SAt K Ex J F ρ (seqM f g) σ H D) : SAt K Ex J F ρ f σ H { D with nx := sX K Ex J g D } := by
  obtain ⟨hr, h⟩ := h
  refine ⟨hr, ?_⟩
  unfold seqM G7.bnd at h
  cases e : f ρ with
  | ok o r =>
    rw [e] at h
    cases o with
    | nx => exact fun F1 σ1 H1 st kp => ⟨F1, r, SAt.shift st kp h⟩
    | bk => exact h
    | ct => exact h
    | rt v => exact h
  | exc c r => rw [e] at h; exact h
  | bad => rw [e] at h; exact h
theorem SAt.nx {D : Ends} (h : SAt K Ex J F ρ skipM σ H D) : D.nx σ H := h.2 F σ H (Step.refl h.1) Keep.refl
theorem set_len {α : Type} {l : List α} {i j : Nat} {a b : α} (h : (l.set i a)[j]? = some b) : (j = i ∧ i < l.length ∧ b = a) ∨ (j ≠ i ∧ l[j]? = some b) := by
  by_cases e : i = j
  · subst e
    by_cases hl : i < l.length
    · rw [List.getElem?_set_self hl] at h
      exact .inl ⟨rfl, hl, (Option.some.inj h).symm⟩
    · rw [List.getElem?_eq_none (by rw [List.length_set]; omega)] at h; cases h
  · rw [List.getElem?_set_ne e] at h
    exact .inr ⟨Ne.symm e, h⟩
theorem RE.setV (r : RE K F σ H ρ) {i : Nat} {w : V} {v : PV} (rp : Rep K F w v) : Step K F σ H ρ F (σ.set i (some w)) H (ρ.set i (some (.val v))) := by
  have own_ne : ∀ (j : Nat) (u : PV), (ρ.set i (some (.val v)))[j]? = some (some (Sl.own u)) → j ≠ i ∧ ρ[j]? = some (some (Sl.own u)) := fun j u q => by
    rcases set_len q with ⟨_, _, z⟩ | z
    · cases z
    · exact z
  refine ⟨Same.refl _, fun _ _ e _ => e, fun _ n => n, fun a z => ?_, fun _ _ e => .inl e, List.length_set, ⟨r.le, fun j u q => ?_, fun j u q => ?_, fun j k u u' a q q' e e' => ?_, by rw [List.length_set, List.length_set]; exact r.len⟩⟩
  · obtain ⟨j, u, q1, q2⟩ := z
    obtain ⟨nj, q1⟩ := own_ne j u q1
    rw [List.getElem?_set_ne (Ne.symm nj)] at q2
    exact .inl ⟨j, u, q1, q2⟩
  · rcases set_len q with ⟨rfl, hl, z⟩ | ⟨nj, q⟩
    · cases z
      exact ⟨w, by rw [List.getElem?_set_self (by rw [r.len]; exact hl)], rp⟩
    · obtain ⟨w', q1, q2⟩ := r.val j u q
      exact ⟨w', by rw [List.getElem?_set_ne (Ne.symm nj)]; exact q1, q2⟩
  · obtain ⟨nj, q⟩ := own_ne j u q
    obtain ⟨b, q1, q2, q3⟩ := r.own j u q
    exact ⟨b, by rw [List.getElem?_set_ne (Ne.symm nj)]; exact q1, q2, q3⟩
  · obtain ⟨nj, q⟩ := own_ne j u q
    obtain ⟨nk, q'⟩ := own_ne k u' q'
    rw [List.getElem?_set_ne (Ne.symm nj)] at e
    rw [List.getElem?_set_ne (Ne.symm nk)] at e'
    exact r.inj j k u u' a q q' e e'
/-- a slot takes a new thing as its own; H0: the heap that did not have it yet -/
theorem Step.setO {H0 F0 : Hp} {ρ0 : Env} (s : Step K F0 σ H0 ρ0 F σ1 H ρ) {i : Nat} {a : Addr} {v : PV} (nf : F a = none) (ow : Own K F H a v) (no : ¬ OwnAt σ1 ρ a) (n0 : H0 a = none) :
    Step K F0 σ H0 ρ0 F (σ1.set i (some (.ref a))) H (ρ.set i (some (.own v))) := by
  have r := s.re
  refine ⟨s.le, s.frm, s.dom, fun b z => ?_, s.fz, by rw [List.length_set]; exact s.len, ⟨r.le, fun j u q => ?_, fun j u q => ?_, fun j k u u' b q q' e e' => ?_, by rw [List.length_set, List.length_set]; exact r.len⟩⟩
  · obtain ⟨j, u, q1, q2⟩ := z
    rcases set_len q1 with ⟨rfl, hl, z⟩ | ⟨nj, q1⟩
    · rw [List.getElem?_set_self (by rw [r.len]; exact hl)] at q2
      cases q2
      exact .inr n0
    · rw [List.getElem?_set_ne (Ne.symm nj)] at q2
      exact s.sub b ⟨j, u, q1, q2⟩
  · rcases set_len q with ⟨rfl, hl, z⟩ | ⟨nj, q⟩
    · cases z
    · obtain ⟨w', q1, q2⟩ := r.val j u q
      exact ⟨w', by rw [List.getElem?_set_ne (Ne.symm nj)]; exact q1, q2⟩
  · rcases set_len q with ⟨rfl, hl, z⟩ | ⟨nj, q⟩
    · cases z
      exact ⟨a, by rw [List.getElem?_set_self (by rw [r.len]; exact hl)], nf, ow⟩
    · obtain ⟨b, q1, q2, q3⟩ := r.own j u q
      exact ⟨b, by rw [List.getElem?_set_ne (Ne.symm nj)]; exact q1, q2, q3⟩
  · rcases set_len q with ⟨rfl, hl, z⟩ | ⟨nj, q1⟩
    · rw [List.getElem?_set_self (by rw [r.len]; exact hl)] at e
      cases e
      rcases set_len q' with ⟨rfl, hl, z⟩ | ⟨nk, q'⟩
      · rfl
      · rw [List.getElem?_set_ne (Ne.symm nk)] at e'
        exact absurd ⟨k, u', q', e'⟩ no
    · rw [List.getElem?_set_ne (Ne.symm nj)] at e
      rcases set_len q' with ⟨rfl, hl, z⟩ | ⟨nk, q'⟩
      · rw [List.getElem?_set_self (by rw [r.len]; exact hl)] at e'
        cases e'
        exact absurd ⟨j, u, q1, e⟩ no
      · rw [List.getElem?_set_ne (Ne.symm nk)] at e'
        exact r.inj j k u u' b q1 q' e e'
theorem s_setV {i : Nat} {f : M PV} {D : Ends} (hi : i ∉ J) (h : sX K Ex J (setV i f) D σ H) : tAsg (tX K Ex f) (gName i) D σ H := by
  obtain ⟨F, ρ, h⟩ := h
  refine ⟨F, ρ, (SAt.bnd (R := RV K) h).mono fun w H1 ⟨F1, ρ1, v, st, r, h1⟩ => ?_⟩
  exact h1.2 F1 _ H1 (h1.1.setV r) (Keep.set hi)
theorem s_setO {i : Nat} {f : M PV} {D : Ends} (hi : i ∉ J) (h : sX K Ex J (setO i f) D σ H) : tAsg (tF K Ex f) (gName i) D σ H := by
  obtain ⟨F, ρ, hr, h⟩ := h
  refine ⟨F, ρ, hr, ?_⟩
  unfold setO G7.bnd at h
  cases e : f ρ with
  | ok v r =>
    rw [e] at h
    intro w F1 H1 st ⟨a, ew, nf, ow, no, n0⟩
    subst ew
    exact h F1 _ H1 (st.setO nf ow no n0) (Keep.set hi)
  | exc c r => rw [e] at h; exact fun F' H' st => h F' σ H' st Keep.refl
  | bad => rw [e] at h; exact h
theorem s_ret {f : M PV} {D : Ends} (h : sX K Ex J (retM f) D σ H) : tRet (tX K Ex f) D σ H := by
  obtain ⟨F, ρ, h⟩ := h
  refine ⟨F, ρ, (SAt.bnd (R := RV K) h).mono fun w H1 ⟨F1, ρ1, v, st, r, h1⟩ => ?_⟩
  exact h1.2 w F1 σ H1 (Step.refl h1.1) Keep.refl r
theorem s_drop {f : M PV} {D : Ends} (h : sX K Ex J (dropM f) D σ H) : tDrop (tX K Ex f) D σ H := by
  obtain ⟨F, ρ, h⟩ := h
  refine ⟨F, ρ, (SAt.bnd (R := RV K) h).mono fun w H1 ⟨F1, ρ1, v, st, r, h1⟩ => h1.nx⟩
theorem s_if {c : M Bool} {f g : M Out} {D : Ends} (h : sX K Ex J (ifX c f g) D σ H) : tIfS (tT K Ex c) (sX K Ex J f) (sX K Ex J g) D σ H := by
  obtain ⟨F, ρ, h⟩ := h
  refine ⟨F, ρ, (SAt.bnd (R := RB) h).mono fun b H1 ⟨F1, ρ1, v, st, r, h1⟩ => ?_⟩
  cases r
  cases b with
  | true => exact ⟨F1, ρ1, h1⟩
  | false => exact ⟨F1, ρ1, h1⟩
theorem s_seq {f g : M Out} {D : Ends} (h : sX K Ex J (seqM f g) D σ H) : tSeq (sX K Ex J f) (sX K Ex J g) D σ H := by
  obtain ⟨F, ρ, h⟩ := h
  exact ⟨F, ρ, h.seq⟩
end
section
variable {X : Cx} {Ex : Nat → Hp → Prop} {J : List Nat} {e c : Expr} {st : Stmt} {rest sa sb : List Stmt} {pos pos' : Pos} {f : M PV} {m : M Bool} {g1 g2 : M Out}
theorem dss_nil : PSs X [] (sX X.K Ex J skipM) := pss_weak pss_nil fun D σ H ⟨_, _, h⟩ => h.nx
theorem dss_one (h : PS X st (sX X.K Ex J g1)) : PSs X [st] (sX X.K Ex J g1) := pss_one h
theorem dss_cons (h : PS X st (sX X.K Ex J g1)) (h2 : PSs X rest (sX X.K Ex J g2)) : PSs X (st :: rest) (sX X.K Ex J (seqM g1 g2)) := pss_weak (pss_cons h h2) fun _ _ _ => s_seq
theorem ds_pass : PS X (.Pass pos) (sX X.K Ex J skipM) := ps_weak ps_pass fun D σ H ⟨_, _, h⟩ => h.nx
theorem ds_ret (h : PE X e (tX X.K Ex f)) : PS X (.Return (some e) pos) (sX X.K Ex J (retM f)) := ps_weak (ps_ret h) fun _ _ _ => s_ret
theorem ds_expr (h : PE X e (tX X.K Ex f)) (hs : swapsWith e none pos.line X.env = pure false := by rfl) : PS X (.Expr e pos) (sX X.K Ex J (dropM f)) := ps_weak (ps_expr h hs) fun _ _ _ => s_drop
theorem ds_if (hc : PT X c (tT X.K Ex m)) (ha : PSs X sa (sX X.K Ex J g1)) (hb : PSs X sb (sX X.K Ex J g2)) : PS X (.If c sa sb pos) (sX X.K Ex J (ifX m g1 g2)) := ps_weak (ps_if hc ha hb) fun _ _ _ => s_if
/-- what is not reached: it has no word -/
theorem ds_never : PS X st (sX X.K Ex J (fun _ => .bad)) := ps_weak ps_never fun _ _ _ ⟨_, _, _, h⟩ => h.elim
theorem ds_set {i : Nat} {x : Str} (hi' : i ∉ J) (hN : X.N.Nodup) (hi : X.N[i]? = some x) (hx : Loc X.env.scope x) (he : PE X e (tX X.K Ex f)) (hs : swapsWith e (some (.Name x pos')) pos.line X.env = pure false := by rfl) (hf : X.fn x = true ∨ X.env.scope.names.lookup x = some .local := by first | exact .inl rfl | exact .inr rfl | assumption) :
    PS X (.Assign [.Name x pos'] e pos) (sX X.K Ex J (setV i f)) := ps_weak (ps_set hN hi hx he hs hf) fun _ _ _ => s_setV hi'
theorem ds_setO {i : Nat} {x : Str} (hi' : i ∉ J) (hN : X.N.Nodup) (hi : X.N[i]? = some x) (hx : Loc X.env.scope x) (he : PE X e (tF X.K Ex f)) (hs : swapsWith e (some (.Name x pos')) pos.line X.env = pure false := by rfl) (hf : X.fn x = true ∨ X.env.scope.names.lookup x = some .local := by first | exact .inl rfl | exact .inr rfl | assumption) :
    PS X (.Assign [.Name x pos'] e pos) (sX X.K Ex J (setO i f)) := ps_weak (ps_set hN hi hx he hs hf) fun _ _ _ => s_setO hi'
end

def spP (K : PySem.W.Frag) (EE : XK → Nat → Hp → Prop) (n : Nat) (Fn : List PV → FR) : Sp := fun vs H Q E => ∃ F as, Same F H ∧ Reps K F vs as ∧ vs.length = n ∧
  match Fn as with
  | .ok r _ => ∀ w F' H', Grow F H F' H' → Rep K F' w r → Q w H'
  | .exc c _ => ∀ F' H', Grow F H F' H' → EE E c H'
  | .bad => False
section
variable {K : PySem.W.Frag} {Ex : Nat → Hp → Prop} {F H : Hp} {σ : St} {ρ : Env} {EE : XK → Nat → Hp → Prop} {E : XK}
theorem x_callP {Fn : List PV → FR} {n : Nat} {fa : M (List PV)} (hE : ∀ c H', Ex c H' → EE E c H') (hn : ∀ ρ as ρ', fa ρ = .ok as ρ' → as.length = n) {Q : VK} (h : tX K Ex (callP Fn fa) σ H Q) : tCall (spP K EE n Fn) [] E (tA K Ex fa) σ H Q := by
  obtain ⟨F, ρ, hr, h⟩ := h
  refine ⟨F, ρ, hr, ?_⟩
  unfold callP G7.bnd at h
  cases e : fa ρ with
  | ok as r =>
    rw [e] at h
    intro vs F1 H1 st rr
    show spP K EE n Fn (vs ++ []) H1 Q E
    rw [List.append_nil]
    refine ⟨F1, as, st.re.le, rr, by rw [Reps.len rr]; exact hn _ _ _ e, ?_⟩
    simp only at h
    cases e2 : Fn as with
    | ok v u => rw [e2] at h; exact fun w F' H' g rp => h w F' H' (st.trans (g.step st.re)) rp
    | exc c u => rw [e2] at h; exact fun F' H' g => hE c H' (h F' H' (st.trans (g.step st.re)))
    | bad => rw [e2] at h; exact h
  | exc c r => rw [e] at h; exact h
  | bad => rw [e] at h; exact h
theorem start_get {N : List Str} {vs : List V} {i : Nat} {w : V} (h : vs[i]? = some w) : (start N vs)[i]? = some (some w) := by
  unfold L2.start
  rw [List.getElem?_append_left (by rw [List.length_map]; exact (List.getElem?_eq_some_iff.mp h).1), List.getElem?_map, h]; rfl
theorem envP_get {n : Nat} {as : List PV} {i : Nat} {s : Sl} (h : (envP n as)[i]? = some (some s)) : ∃ a, as[i]? = some a ∧ s = .val a := by
  unfold envP at h
  by_cases hl : i < as.length
  · rw [List.getElem?_append_left (by rw [List.length_map]; exact hl), List.getElem?_map] at h
    rw [List.getElem?_eq_getElem hl] at h ⊢
    simp only [Option.map_some, Option.some.injEq] at h
    exact ⟨_, rfl, h.symm⟩
  · rw [List.getElem?_append_right (by rw [List.length_map]; omega)] at h
    rw [List.getElem?_replicate] at h
    split at h <;> cases h
theorem RE.startP {N : List Str} {vs : List V} {as : List PV} (le : Same F H) (r : Reps K F vs as) : RE K F (start N vs) H (envP N.length as) := by
  refine ⟨le, fun i v q => ?_, fun i v q => ?_, fun i j v u a q _ _ _ => ?_, ?_⟩
  · obtain ⟨a, h1, h2⟩ := envP_get q
    cases h2
    obtain ⟨w, h3, h4⟩ := r.get h1
    exact ⟨w, start_get h3, h4⟩
  · obtain ⟨a, h1, h2⟩ := envP_get q
    cases h2
  · obtain ⟨a, h1, h2⟩ := envP_get q
    cases h2
  · unfold L2.start envP
    simp only [List.length_append, List.length_map, List.length_replicate, r.len]
theorem no_own {n : Nat} {as : List PV} {a : Addr} : ¬ OwnAt σ (envP n as) a := fun ⟨i, v, q, _⟩ => by
  obtain ⟨_, _, h⟩ := envP_get q
  cases h
theorem Step.grow0 {σ' : St} {F' H' : Hp} {ρ' : Env} {n : Nat} {as : List PV} (s : Step K F σ H (envP n as) F' σ' H' ρ') : Grow F H F' H' :=
  ⟨s.le, fun a o e => s.frm a o e no_own, s.re.le, fun a o e => by
    rcases s.fz a o e with z | z | z
    · exact .inl z
    · exact .inr z
    · exact absurd z no_own⟩
theorem body_P {N : List Str} {n : Nat} {fb : M Out} {vs : List V} {Q : VK} (hE : ∀ c H', EE E c H' → Ex c H') (h : spP K EE n (runP N.length fb) vs H Q E) :
    sX K Ex [] fb { nx := fun _ H' => Q .non H', rt := Q } (start N vs) H := by
  obtain ⟨F, as, le, rr, hn, h⟩ := h
  refine ⟨F, envP N.length as, RE.startP le rr, ?_⟩
  unfold runP at h
  cases e : fb (envP N.length as) with
  | ok o r =>
    rw [e] at h
    cases o with
    | nx => exact fun F' σ' H' st _ => h _ F' H' st.grow0 .non
    | bk => exact h.elim
    | ct => exact h.elim
    | rt v => exact fun w F' σ' H' st _ rp => h w F' H' st.grow0 rp
  | exc c r => rw [e] at h; exact fun F' σ' H' st _ => hE c H' (h F' H' st.grow0)
  | bad => rw [e] at h; exact h
end
section
variable {P : Program} {w : World} {K : PySem.W.Frag} {mg : Str → Option Value} {base : Heap}
abbrev Ex0 : Nat → Hp → Prop := fun _ _ => False
abbrev EE0 : XK → Nat → Hp → Prop := fun _ _ _ => False
/-- a def of the text, by its name -/
abbrev FnP (K : PySem.W.Frag) (x : Str) (st : Stmt) (f : Addr) (fd : FuncData) : Prop := FunD K x x (defArgs st) (defBody st) (defScope st) [] [] f fd
theorem okP {x : Str} {st : Stmt} {f : Addr} {fd : FuncData} {N ps : List Str} {k n : Nat} {fb : M Out} (F : FnP K x st f fd) (S : FnScope N ps (defScope st)) (hn : ps.length = n)
    (hb : ∀ (cdv : Value) (A : Around) (outer : List PySem.Env) (s : Shared) (H : Hp) (E : XK), Room k (A.deeper (envOfC x (defScope st) s.heap.objs.size f cdv)) →
      PSs (cxOf CX0 P w K mg base N x (defScope st) f cdv A outer s H E).nox (defBody st) (sX K Ex0 [] fb)) : FnOk P w K mg base CX0 (k + 1) f fd ps (spP K EE0 n (runP N.length fb)) := by
  refine F.ok S (fun vs H Q E h => ?_) (fun cdv A outer s H vs Q E hr h => ⟨_, PSs.nox (hb cdv A outer s H E hr), ?_⟩)
  · obtain ⟨_, _, _, _, h1, _⟩ := h
    rw [h1, hn]
  · exact body_P (fun c H' z => z) h
end
end G7

set_option Elab.async false
set_option linter.all false
set_option maxRecDepth 100000
set_option autoImplicit false
namespace G7
open PySem PySem.Spec PyProof.Rows L2
theorem digs_num : ∀ (f n : Nat), n < 10 ^ f → 0 < f → digs f n = TL.numL n
  | 0, _, _, h => absurd h (by decide)
  | f + 1, n, h, _ => by
    unfold digs
    by_cases hn : n < 10
    · rw [if_pos hn, TL.numL_lt hn]
    · rw [if_neg hn, TL.numL_step (by omega)]
      cases f with
      | zero => exact absurd h (by simpa using hn)
      | succ f => rw [digs_num (f + 1) (n / 10) (by rw [Nat.pow_succ] at h; omega) (by omega)]
theorem str_num (n : Nat) : (Str.ofString (toString ((n : Nat) : Int)) : Str) = ⟨(TL.numL n).toArray⟩ := TL.ext_tl (TL.tl_num n)
def rStrX : List V → Hp → VK → Prop := fun xs H Q => ∃ n : Nat, xs = [.int n] ∧ n < 10 ^ 12 ∧ Q (.str ⟨(TL.numL n).toArray⟩) H
theorem call_strX {X : Cx} : CallR X (.type "str") rStrX := by
  intro pins s σ H xs us Q I r h
  obtain ⟨n, rfl, hn, q⟩ := h
  refine call_str_int pins s σ H _ us Q I r ⟨(n : Int), rfl, ?_, ?_⟩
  · show (n : Int).natAbs.log2 < 1920
    rw [Int.natAbs_natCast]
    by_cases h0 : n = 0
    · subst h0; decide
    · rw [Nat.log2_lt h0]
      exact Nat.lt_trans hn (by decide +kernel)
  · have e := str_num n
    show Q (.str (Str.ofString (toString ((n : Nat) : Int)))) H
    rw [e]; exact q
theorem numL_bnd {n c : Nat} (h : c ∈ TL.numL n) : c < 1114112 := by
  by_cases hc : c < 48 ∨ 57 < c
  · exact absurd h (TL.numL_free hc)
  · omega
section
variable {K : PySem.W.Frag} {F H : Hp} {Q : VK}
theorem opr_str : OprN K rStrX (on1 strV) := by
  intro F H xs as v Q le ss e q
  obtain ⟨a, rfl, e0⟩ := on1_some e; replace e := e0
  obtain ⟨w, rfl, sx⟩ := ss.one
  unfold strV at e
  split at e
  · split at e
    · rename_i n hn
      cases e
      refine ⟨n, by rw [sx.int]; rfl, hn, ?_⟩
      rw [← digs_num 13 n (Nat.lt_trans hn (by decide)) (by decide)]
      refine q.same le (.str fun c hc => ?_)
      rw [digs_num 13 n (Nat.lt_trans hn (by decide)) (by decide)] at hc
      exact numL_bnd hc
    · cases e
  · cases e
theorem opr_int : OprN K (fun xs H Q => (∃ i, xs = [.int i] ∧ Q (.int i) H) ∨ ∃ k, xs = [.bl k] ∧ Q (.int (if k then 1 else 0)) H) (on1 intV) := by
  intro F H xs as v Q le ss e q
  obtain ⟨a, rfl, e0⟩ := on1_some e; replace e := e0
  obtain ⟨w, rfl, sx⟩ := ss.one
  unfold intV at e
  split at e
  · cases e
    exact .inl ⟨_, by rw [sx.int], q.same le (.int _)⟩
  · cases e
    exact .inr ⟨_, by rw [sx.bl], q.same le (.int _)⟩
  · cases e
def Ty.nm : Ty → String
  | .int => "int"
  | .str => "str"
  | .bool => "bool"
  | .list => "list"
  | .tuple => "tuple"
theorem kits : ∀ T : Ty, kitB "NoneType" T.nm = some false ∧ kitB "bool" T.nm = some (match T with | .int => true | .bool => true | _ => false) ∧ kitB "int" T.nm = some (match T with | .int => true | _ => false) ∧
    kitB "str" T.nm = some (match T with | .str => true | _ => false) ∧ kitB "list" T.nm = some (match T with | .list => true | _ => false) ∧ kitB "tuple" T.nm = some (match T with | .tuple => true | _ => false) := by
  intro T
  cases T <;> exact ⟨by decide +kernel, by decide +kernel, by decide +kernel, by decide +kernel, by decide +kernel, by decide +kernel⟩
def rIsiX (K : PySem.W.Frag) (T : Ty) : V → Hp → VK → Prop := fun x H Q => ∃ (t : Value) (b : Bool), TyX K H x t ∧ PySem.W.kitOne K t (.type T.nm) = some b ∧ Q (.bl b) H
theorem scr_ty {p : Addr} {vs : List V} (h : SqL K H p vs) : TyX K H (.ref p) (.type "list") := by
  rcases h with (h | ⟨o, h⟩) | ⟨o, its, n, h1, h2, _⟩
  · exact .base (.lst h)
  · exact .base (.frz h)
  · exact .kList h1 h2
theorem tup_ty {p : Addr} {vs : List V} (h : SqT K H p vs) : TyX K H (.ref p) (.type "tuple") := by
  rcases h with (h | ⟨o, h⟩) | ⟨o, its, n, h1, h2, _⟩
  · exact .base (.tup h)
  · exact .fTuple h
  · exact .kTuple h1 h2
theorem opr_isi {T : Ty} : Opr1 K (rIsiX K T) (isiV T) := by
  intro F H x a v Q le sx e q
  obtain ⟨k1, k2, k3, k4, k5, k6⟩ := kits T
  cases a <;> (unfold isiV at e; try cases e)
  · rw [sx.non]; exact ⟨_, _, .base .non, kit_ty k1, q.same le (.bl _)⟩
  · rw [sx.bl]; exact ⟨_, _, .base (.bl _), kit_ty k2, q.same le (.bl _)⟩
  · rw [sx.int]; exact ⟨_, _, .base (.int _), kit_ty k3, q.same le (.bl _)⟩
  · rw [sx.str.1]; exact ⟨_, _, .base (.str _), kit_ty k4, q.same le (.bl _)⟩
  · obtain ⟨p, vs, rfl, h1, _⟩ := sx.lst le
    exact ⟨_, _, .base (.lst h1), kit_ty k5, q.same le (.bl _)⟩
  · obtain ⟨p, vs, rfl, h1, _⟩ := sx.tup
    exact ⟨_, _, tup_ty (seqT_mono le h1), kit_ty k6, q.same le (.bl _)⟩
  · obtain ⟨p, rfl, h1⟩ := sx.scr
    exact ⟨_, _, scr_ty (seqL_mono le h1), kit_ty k5, q.same le (.bl _)⟩
end
def prt (f : M PV) : M (Option Int) := bnd f fun v => match v with | .int i => ret (some i) | _ => fun _ => .bad
def noP : M (Option Int) := ret none
def slX (f : M Tk) (lo hi : M (Option Int)) : M PV := bnd f fun t => bnd lo fun l => bnd hi fun u => bnd (force t) fun a => lft (sliceV a l u)
section
variable (K : PySem.W.Frag) (Ex : Nat → Hp → Prop)
def tPO (f : M (Option Int)) : TO := fun σ H Q => ∃ F ρ, At K Ex (fun _ _ _ _ a b => a = b) F ρ f σ H Q
end
section
variable {K : PySem.W.Frag} {Ex : Nat → Hp → Prop} {F H : Hp} {σ : St} {ρ : Env}
theorem po_no {Q : Option Int → Hp → Prop} (h : tPO K Ex noP σ H Q) : tNoPart σ H Q := by
  obtain ⟨F, ρ, h⟩ := h
  exact h.ret rfl
theorem po_prt {f : M PV} {Q : Option Int → Hp → Prop} (h : tPO K Ex (prt f) σ H Q) : tPart (tX K Ex f) σ H Q := by
  obtain ⟨F, ρ, h⟩ := h
  refine ⟨F, ρ, (At.bnd (R := RV K) h).mono fun x H1 ⟨F1, ρ1, v, st, r, h1⟩ => ?_⟩
  cases v <;> first | exact h1.2.elim | skip
  cases r
  exact ⟨_, rfl, h1.ret rfl⟩
theorem x_slice {f : M Tk} {lo hi : M (Option Int)} {Q : VK} (h : tX K Ex (slX f lo hi) σ H Q) : tSl (rSlA K) (tO K Ex f) (tPO K Ex lo) (tPO K Ex hi) σ H Q := by
  obtain ⟨F, ρ, h⟩ := h
  refine ⟨F, ρ, (At.bnd h).mono fun x H1 ⟨F1, ρ1, t, st1, r1, h1⟩ => ?_⟩
  refine ⟨F1, ρ1, (At.bnd h1).mono fun l H2 ⟨F2, ρ2, l', st2, r2, h2⟩ => ?_⟩
  subst r2
  refine ⟨F2, ρ2, (At.bnd h2).mono fun u H3 ⟨F3, ρ3, u', st3, r3, h3⟩ => ?_⟩
  subst r3
  obtain ⟨a, sa, h4⟩ := At.force h3 (RT.mono (st2.le.trans st3.le) r1)
  obtain ⟨v, e, q⟩ := At.lft h4
  exact opr_slice F3 H3 x a l u v Q h4.1.le sa e (At.fin h4.1 q)
theorem x_rev {f : M Tk} {Q : VK} (h : tX K Ex (op1 backV f) σ H Q) : tRevL K (tO K Ex f) σ H Q := by
  refine x_op1 (r := fun x H1 Q => ∃ a xs, x = .ref a ∧ SqL K H1 a xs ∧ ∀ p, H1 p = none → Q (.ref p) (upd H1 p (.lst xs.reverse))) ?_ h
  intro F H x a v Q le sx e q
  unfold backV at e
  split at e
  · cases e
    obtain ⟨p, vs, rfl, h1, r1⟩ := sx.lst le
    exact ⟨p, vs, rfl, .of h1, fun n hn => q.newL le hn r1.rev⟩
  · cases e
end
section
variable {X : Cx} {Ex : Nat → Hp → Prop} {a b c e o : Expr} {es : List Expr} {pos p p2 : Pos} {f f2 : M Tk} {g1 g2 : M PV} {fa : M (List Tk)} {x : Str}
theorem dx_callB {id : String} {r : List V → Hp → VK → Prop} {g : List PV → Option PV} (hc : CallR X (.builtin id) r) (hgg : OprN X.K r g) (hg : Gl X x) (hm : X.mg x = none) (hv : bootBuiltins x = some (.builtin id)) (ha : PA X (e :: es) (tOA X.K Ex fa)) (hn : x ≠ "__name__" := by decide) (hdb : (x == ("__debug__" : Str)) = false := by decide)
    (he : starEach (e :: es) X.env = (false, eval e X.env) :: starEach es X.env := by rfl) (hpl : (backTo pos (starEach es X.env)).any (·.1) = false := by rfl) : PE X (.Call (.Name x p) (e :: es) [] pos) (tX X.K Ex (opn g fa)) :=
  pe_weak (pe_callB hc hg hm hv ha hn hdb he hpl) fun _ _ _ => x_opn hgg
theorem dx_callT {id : String} {r : List V → Hp → VK → Prop} {g : List PV → Option PV} (hc : CallR X (.type id) r) (hgg : OprN X.K r g) (hg : Gl X x) (hm : X.mg x = none) (hv : bootBuiltins x = some (.type id)) (ha : PA X (e :: es) (tOA X.K Ex fa)) (hn : x ≠ "__name__" := by decide) (hdb : (x == ("__debug__" : Str)) = false := by decide)
    (he : starEach (e :: es) X.env = (false, eval e X.env) :: starEach es X.env := by rfl) (hpl : (backTo pos (starEach es X.env)).any (·.1) = false := by rfl) : PE X (.Call (.Name x p) (e :: es) [] pos) (tX X.K Ex (opn g fa)) :=
  pe_weak (pe_callTy hc hg hm hv ha hn hdb he hpl) fun _ _ _ => x_opn hgg
theorem dx_ix (ha : PE X a (tO X.K Ex f)) (hb : PE X b (tO X.K Ex f2)) (hs : PlainIx b) : PE X (.Subscript a b pos) (tX X.K Ex (op2 getV f f2)) := pe_weak (pe_ix ix_A ha hb hs) fun _ _ _ => x_op2 opr_ix
theorem dp_no : PO X none (tPO X.K Ex noP) := ⟨fun pins s σ H Q I h => po_none.run pins s σ H Q I (po_no h)⟩
theorem dp_of (h : PE X e (tX X.K Ex g1)) : PO X (some e) (tPO X.K Ex (prt g1)) := ⟨fun pins s σ H Q I q => (po_some h).run pins s σ H Q I (po_prt q)⟩
theorem dx_slice {lo hi : Option Expr} {ml mh : M (Option Int)} (he : PE X e (tO X.K Ex f)) (hl : PO X lo (tPO X.K Ex ml)) (hu : PO X hi (tPO X.K Ex mh)) : PE X (.Subscript e (.Slice lo hi none p2) pos) (tX X.K Ex (slX f ml mh)) :=
  pe_weak (pe_slice sl_A he hl hu) fun _ _ _ => x_slice
theorem dx_rev {k : Nat} {p1 p3 : Pos} (he : PE X e (tO X.K Ex f)) : PE X (.Subscript e (.Slice none none (some (.UnaryOp .USub (.Constant (.int 1) k p1) p2)) p3) pos) (tX X.K Ex (op1 backV f)) := pe_weak (pe_revL he) fun _ _ _ => x_rev
theorem dx_meth {name : Str} {id : String} {apos cpos : Pos} {r : V → List V → Hp → VK → Prop} {g : PV → List PV → Option PV} (slot : Slot "str" name id) (hty : typeOf (.builtin id) = pure (.type "method_descriptor")) (hm : MtR X id r) (hgg : OprM X.K r g) (ho : PE X o (tO X.K Ex f)) (ha : PA X (e :: es) (tOA X.K Ex fa))
    (hbase : attributeBase o name X.env (eval o X.env) = eval o X.env := by rfl)
    (hfew : ((backTo cpos (starEach (e :: es) X.env)).all (fun x => !x.1) && (backToKw cpos (keywordEach [] X.env)).all (fun x => x.1.isSome)
      && decide ((e :: es).length + ([] : List Keyword).length + (if ([] : List Keyword).isEmpty then 0 else 1) < 30)) = true := by rfl)
    (hline : (apos.endLine == cpos.line) = true := by rfl) (hs : starEach (e :: es) X.env = (false, eval e X.env) :: starEach es X.env := by rfl) (hplain : (backTo cpos (starEach es X.env)).any (·.1) = false := by rfl) :
    PE X (.Call (.Attribute o name apos) (e :: es) [] cpos) (tX X.K Ex (methS g f fa)) :=
  pe_weak (pe_bm PySem.F.plainAttrs_str slot hty hm ho ha hbase hfew hline hs hplain) fun _ _ _ => x_meth hgg
/-- isinstance(e, T), T a built-in class by its name -/
theorem dx_isi {T : Ty} {n : Str} (hg : Gl X "isinstance") (hm : X.mg "isinstance" = none) (hgT : Gl X n) (hmT : X.mg n = none) (hvT : bootBuiltins n = some (.type T.nm)) (he : PE X e (tO X.K Ex f)) (hnT : n ≠ "__name__" := by decide) (hdT : (n == ("__debug__" : Str)) = false := by decide)
    (hs1 : starEach [e, .Name n p2] X.env = (false, eval e X.env) :: starEach [.Name n p2] X.env := by rfl) (hs2 : starEach [.Name n p2] X.env = (false, eval (.Name n p2) X.env) :: starEach [] X.env := by rfl) (hpl : (backTo pos (starEach [.Name n p2] X.env)).any (·.1) = false := by rfl) :
    PE X (.Call (.Name "isinstance" p) [e, .Name n p2] [] pos) (tX X.K Ex (op1 (isiV T) f)) := by
  refine pe_weak (pe_callB call_isi hg hm (by decide +kernel) (pa_cons he (pa_cons (pe_bltn (v := .ty T.nm) hgT hmT hvT rfl hnT hdT) pa_nil hs2) hs1) (by decide) (by decide) hs1 hpl) fun σ H Q h => ?_
  obtain ⟨F, ρ, h⟩ := x_op1 (opr_isi (T := T)) h
  refine ⟨F, ρ, h.mono fun x H1 ⟨t, b, h1, h2, h3⟩ => ?_⟩
  exact ⟨x, .ty T.nm, t, _, b, rfl, .ty _, h1, h2, h3⟩
/-- a module's constant -/
theorem dx_gint {i : Int} {u : Value} (hg : Gl X x) (hm : X.mg x = some u) (r : RelV (.int i) u) (hd : (x == ("__debug__" : Str)) = false := by decide) : PE X (.Name x pos) (tX X.K Ex (ret (.int i))) := pe_weak (pe_glob hg hm r hd) fun _ _ _ h => x_const h fun _ => .int i
theorem dx_gstr {l : List Nat} {u : Value} (hg : Gl X x) (hm : X.mg x = some u) (r : RelV (.str ⟨l.toArray⟩) u) (hb : (l.all fun c => decide (c < 1114112)) = true) (hd : (x == ("__debug__" : Str)) = false := by decide) : PE X (.Name x pos) (tX X.K Ex (ret (.str l))) :=
  pe_weak (pe_glob hg hm r hd) fun _ _ _ h => x_const h fun _ => .str fun c hc => of_decide_eq_true (List.all_eq_true.mp hb c hc)
theorem dx_gtup {as : List PV} {a : Addr} {u : Value} (hg : Gl X x) (hm : X.mg x = some u) (r : u = .ref a) (hr : ∀ F, Rep X.K F (.ref a) (.tup as)) (hd : (x == ("__debug__" : Str)) = false := by decide) : PE X (.Name x pos) (tX X.K Ex (ret (.tup as))) :=
  pe_weak (pe_glob (v := .ref a) hg hm r hd) fun _ _ _ h => x_const h hr
/-- a call of a def -/
theorem dx_call {CX : CXT} {k n : Nat} {fn : Addr} {fd : FuncData} {ps : List Str} {Fn : List PV → FR} {EE : XK → Nat → Hp → Prop} {E : XK} {ga : M (List PV)} (Ff : FnOk X.prog X.w X.K X.mg X.base CX k fn fd ps (spP X.K EE n Fn)) (hr : Room k X.A) (hg : Gl X x) (hm : X.mg x = some (.ref fn)) (hk : PySem.W.keepIn X.K (.ref fn) = true)
    (hb : Binds X.K fd ps []) (hx : Passes CX X E) (hE : ∀ c H', Ex c H' → EE E c H') (ha : PA X (e :: es) (tA X.K Ex ga)) (hn : ∀ ρ as ρ', ga ρ = .ok as ρ' → as.length = n) (hd : (x == ("__debug__" : Str)) = false := by decide)
    (he : starEach (e :: es) X.env = (false, eval e X.env) :: starEach es X.env := by rfl) (hpl : (backTo pos (starEach es X.env)).any (·.1) = false := by rfl) :
    PE X (.Call (.Name x p) (e :: es) [] pos) (tX X.K Ex (callP Fn ga)) :=
  pe_weak (pe_call Ff hr hg hm hk hb .nil hx ha hd he hpl) fun _ _ _ => x_callP hE hn
theorem len_nil {α : Type} (ρ : Env) (as : List α) (ρ' : Env) (h : (nil : M (List α)) ρ = .ok as ρ') : as.length = 0 := by cases h; rfl
theorem len_cns {α : Type} {m : M α} {ms : M (List α)} {n : Nat} (h : ∀ ρ as ρ', ms ρ = .ok as ρ' → as.length = n) (ρ : Env) (as : List α) (ρ' : Env) (q : cns m ms ρ = .ok as ρ') : as.length = n + 1 := by
  unfold cns bnd at q
  cases e1 : m ρ with
  | ok a r =>
    rw [e1] at q
    simp only at q
    cases e2 : ms r with
    | ok bs r2 =>
      rw [e2] at q
      cases q
      simp [h _ _ _ e2]
    | exc c r2 => rw [e2] at q; cases q
    | bad => rw [e2] at q; cases q
  | exc c r => rw [e1] at q; cases q
  | bad => rw [e1] at q; cases q
end
end G7

set_option Elab.async false
set_option linter.all false
set_option maxRecDepth 100000
set_option autoImplicit false
namespace G7
open PySem PySem.Spec PyProof.Rows L2
/-- a target's part: it raises nothing -/
def bndN {β : Type} (m : M Unit) (k : M β) : M β := fun r =>
  match m r with
  | .ok _ r' => k r'
  | _ => .bad
def nmT (i : Nat) : PV → M Unit := fun v => wr i (some (.val v))
def runT : List (PV → M Unit) → List PV → M Unit
  | [], [] => ret ()
  | g :: gs, x :: xs => bndN (g x) (runT gs xs)
  | _, _ => fun _ => .bad
def tupT (gs : List (PV → M Unit)) : PV → M Unit := fun v => match v with | .tup xs => runT gs xs | _ => fun _ => .bad
def aft (k : M Out) : Out → M Out
  | .nx => k
  | .ct => k
  | .bk => ret .nx
  | .rt v => ret (.rt v)
def loopM (tg : PV → M Unit) (body : M Out) : List PV → M Out
  | [] => ret .nx
  | x :: xs => bndN (tg x) (bnd body (aft (loopM tg body xs)))
def forM (it : M (List PV)) (tg : PV → M Unit) (body : M Out) : M Out := bnd it fun xs => loopM tg body xs
def whileM (c : M Bool) (body : M Out) : Nat → M Out
  | 0 => fun _ => .bad
  | n + 1 => bnd c fun b => if b then bnd body (aft (whileM c body n)) else ret .nx
def wipeE (ρ : Env) : List Nat → Env
  | [] => ρ
  | i :: is => (wipeE ρ is).set i none
def restE (ρ ρ' : Env) : List Nat → Env
  | [] => ρ'
  | i :: is => (restE ρ ρ' is).set i (ρ.getD i none)
def lcL (tg : PV → M Unit) (c : M Bool) (el : M PV) (own : List Nat) : List PV → M (List PV)
  | [] => fun ρ => .ok [] (wipeE ρ own)
  | x :: xs => fun ρ => bndN (tg x) (bnd c fun b => if b then bnd el fun y => bnd (lcL tg c el own xs) fun ys => ret (y :: ys) else lcL tg c el own xs) (wipeE ρ own)
def lcM (it : M (List PV)) (tg : PV → M Unit) (c : M Bool) (el : M PV) (own : List Nat) : M PV := bnd it fun xs ρ =>
  if xs.length ≤ LINE then
    match lcL tg c el own xs (wipeE ρ own) with
    | .ok ys ρ' => .ok (.lst ys) (restE ρ ρ' own)
    | _ => .bad
  else .bad
def yesM : M Bool := ret true

section
variable (K : PySem.W.Frag) (Ex : Nat → Hp → Prop) (J : List Nat)
def gX (gm : PV → M Unit) : TG := fun w σ H Q => ∃ F ρ v, RE K F σ H ρ ∧ Rep K F w v ∧ match gm v ρ with
  | .ok _ ρ' => ∀ F' σ' H', Step K F σ H ρ F' σ' H' ρ' → Keep J σ σ' → Q σ' H'
  | _ => False
def gsX (gm : List (PV → M Unit)) : TGs := fun ws σ H Q => ∃ F ρ vs, RE K F σ H ρ ∧ Reps K F ws vs ∧ match runT gm vs ρ with
  | .ok _ ρ' => ∀ F' σ' H', Step K F σ H ρ F' σ' H' ρ' → Keep J σ σ' → Q σ' H'
  | _ => False
/-- what J gives out, while what is fixed and what is pinned stands -/
def Walks (F : Hp) (I : It) (pins : List (Addr × HO)) (xs : List PV) : Prop := ∀ F1 H, Same F F1 → Same F1 H → (∀ p ∈ pins, H p.1 = some p.2) →
  (∀ (i : Nat) (x : PV), xs[i]? = some x → I.go i H ∧ ∀ w H', I.yld i H w H' → ∃ F2, Grow F1 H F2 H' ∧ Rep K F2 w x) ∧ I.stop xs.length H
def RI : Hp → Hp → St → Env → It → List PV → Prop := fun F H σ ρ I xs => ∃ pins, Walks K F I pins xs ∧ (∀ p ∈ pins, H p.1 = some p.2 ∧ ¬ OwnAt σ ρ p.1)
def tI (f : M (List PV)) : TI := fun σ H Q => ∃ F ρ, At K Ex (RI K) F ρ f σ H Q
end
section
variable {K : PySem.W.Frag} {Ex : Nat → Hp → Prop} {J : List Nat} {F F1 F' H H1 H' : Hp} {σ σ1 σ' : St} {ρ ρ1 : Env}
theorem g_name {i : Nat} (hi : i ∉ J) {w : V} {Q : St → Hp → Prop} (h : gX K J (nmT i) w σ H Q) : gName i w σ H Q := by
  obtain ⟨F, ρ, v, hr, rp, h⟩ := h
  exact h F _ H (hr.setV rp) (Keep.set hi)
theorem gs_nil {ws : List V} {Q : St → Hp → Prop} (h : gsX K J [] ws σ H Q) : gNil ws σ H Q := by
  obtain ⟨F, ρ, vs, hr, rp, h⟩ := h
  cases rp with
  | nil => exact ⟨rfl, h F σ H (Step.refl hr) Keep.refl⟩
  | cons _ _ => exact h.elim
theorem gs_cons {g : PV → M Unit} {gs : List (PV → M Unit)} {ws : List V} {Q : St → Hp → Prop} (h : gsX K J (g :: gs) ws σ H Q) : gCons (gX K J g) (gsX K J gs) ws σ H Q := by
  obtain ⟨F, ρ, vs, hr, rp, h⟩ := h
  cases rp with
  | nil => exact h.elim
  | @cons w ws x xs r1 r2 =>
    refine ⟨w, ws, rfl, F, ρ, x, hr, r1, ?_⟩
    unfold runT bndN at h
    cases e : g x ρ with
    | ok u ρ1 =>
      rw [e] at h
      intro F1 σ1 H1 st kp
      refine ⟨F1, ρ1, xs, st.re, r2.mono st.le, ?_⟩
      simp only at h
      cases e2 : runT gs xs ρ1 with
      | ok u ρ2 => rw [e2] at h; exact fun F' σ' H' s k => h F' σ' H' (st.trans s) (kp.trans k)
      | exc c ρ2 => rw [e2] at h; exact h
      | bad => rw [e2] at h; exact h
    | exc c ρ1 => rw [e] at h; exact h
    | bad => rw [e] at h; exact h
theorem runT_len : ∀ {gs : List (PV → M Unit)} {xs : List PV} {ρ : Env} {u : Unit} {ρ' : Env}, runT gs xs ρ = .ok u ρ' → xs.length = gs.length
  | [], [], _, _, _, _ => rfl
  | [], _ :: _, _, _, _, h => by cases h
  | _ :: _, [], _, _, _, h => by cases h
  | g :: gs, x :: xs, ρ, u, ρ', h => by
    unfold runT bndN at h
    cases e : g x ρ with
    | ok u ρ1 => rw [e] at h; exact congrArg (· + 1) (runT_len h)
    | exc c ρ1 => rw [e] at h; cases h
    | bad => rw [e] at h; cases h
theorem g_tup {gs : List (PV → M Unit)} {n : Nat} (hn : gs.length = n) {w : V} {Q : St → Hp → Prop} (h : gX K J (tupT gs) w σ H Q) : gTup K n (gsX K J gs) w σ H Q := by
  obtain ⟨F, ρ, v, hr, rp, h⟩ := h
  cases v <;> first | exact h.elim | skip
  rename_i xs
  obtain ⟨p, vs, rfl, h1, r1⟩ := (SRep.up (H := H) rp).tup
  refine ⟨p, vs, rfl, seqT_mono hr.le h1, ?_, F, ρ, xs, hr, r1, h⟩
  unfold tupT at h
  cases e : runT gs xs ρ with
  | ok u ρ' => rw [r1.len, runT_len e, hn]
  | exc c r => simp only [e] at h
  | bad => simp only [e] at h
theorem Walks.mono (h : Same F F') {I : It} {pins : List (Addr × HO)} {xs : List PV} (w : Walks K F I pins xs) : Walks K F' I pins xs := fun F1 H a b => w F1 H (h.trans a) b
theorem s_for {it : M (List PV)} {tg : PV → M Unit} {body : M Out} {D : Ends} (h : sX K Ex J (forM it tg body) D σ H) : tFor (tI K Ex it) (gX K J tg) (sX K Ex J body) D σ H := by
  obtain ⟨F, ρ, h⟩ := h
  refine ⟨F, ρ, (SAt.bnd h).mono fun I H1 ⟨F1, ρ1, xs, st, ⟨pins, wk, pn⟩, h1⟩ => ?_⟩
  clear h st
  refine ⟨fun i m σ2 H2 => m = xs.length - i ∧ i ≤ xs.length ∧ ∃ F2 ρ2, Same F1 F2 ∧ (∀ p ∈ pins, H2 p.1 = some p.2 ∧ ¬ OwnAt σ2 ρ2 p.1) ∧ SAt K Ex J F2 ρ2 (loopM tg body (xs.drop i)) σ2 H2 D,
    ⟨xs.length, by simp, Nat.zero_le _, F1, ρ1, Same.refl _, pn, h1⟩, ?_⟩
  rintro i m σ2 H2 ⟨rfl, hi, F2, ρ2, sm, pn2, h2⟩
  obtain ⟨w1, w2⟩ := wk F2 H2 sm h2.1.le fun p hp => (pn2 p hp).1
  by_cases hlt : i < xs.length
  · have ex : xs[i]? = some xs[i] := List.getElem?_eq_getElem hlt
    obtain ⟨go, yl⟩ := w1 i _ ex
    rw [List.drop_eq_getElem_cons hlt] at h2
    refine .inr ⟨go, fun σ3 H3 => ∃ F3 ρ3, Same F1 F3 ∧ (∀ p ∈ pins, H3 p.1 = some p.2 ∧ ¬ OwnAt σ3 ρ3 p.1) ∧ SAt K Ex J F3 ρ3 (loopM tg body (xs.drop (i + 1))) σ3 H3 D, ?_, ?_⟩
    · rintro σ3 H3 ⟨F3, ρ3, s3, p3, h3⟩
      exact ⟨xs.length - (i + 1), by omega, rfl, hlt, F3, ρ3, s3, p3, h3⟩
    · intro w H3 hy
      obtain ⟨F3, gr, rp⟩ := yl w H3 hy
      have st3 := gr.step h2.1
      obtain ⟨hr2, h2⟩ := h2
      refine ⟨F3, ρ2, xs[i], hr2.grow gr, rp, ?_⟩
      unfold loopM bndN bnd at h2
      cases e : tg xs[i] ρ2 with
      | ok u ρ4 =>
        rw [e] at h2
        intro F4 σ4 H4 st4 kp4
        refine ⟨F4, ρ4, st4.re, ?_⟩
        have st := st3.trans st4
        simp only at h2
        have pins_keep : ∀ {F5 : Hp} {σ5 : St} {H5 : Hp} {ρ5 : Env}, Step K F2 σ2 H2 ρ2 F5 σ5 H5 ρ5 → ∀ p ∈ pins, H5 p.1 = some p.2 ∧ ¬ OwnAt σ5 ρ5 p.1 := fun s p hp => by
          obtain ⟨q1, q2⟩ := pn2 p hp
          refine ⟨s.frm _ _ q1 q2, fun z => ?_⟩
          rcases s.sub _ z with y | y
          · exact q2 y
          · rw [q1] at y; cases y
        cases e2 : body ρ4 with
        | ok o ρ5 =>
          rw [e2] at h2
          cases o with
          | nx => exact fun F5 σ5 H5 st5 kp5 => ⟨F5, ρ5, sm.trans (st.trans st5).le, pins_keep (st.trans st5), SAt.shift (st.trans st5) (kp4.trans kp5) h2⟩
          | ct => exact fun F5 σ5 H5 st5 kp5 => ⟨F5, ρ5, sm.trans (st.trans st5).le, pins_keep (st.trans st5), SAt.shift (st.trans st5) (kp4.trans kp5) h2⟩
          | bk => exact fun F5 σ5 H5 st5 kp5 => h2 F5 σ5 H5 (st.trans st5) (kp4.trans kp5)
          | rt v => exact fun w F5 σ5 H5 st5 kp5 rp => h2 w F5 σ5 H5 (st.trans st5) (kp4.trans kp5) rp
        | exc c ρ5 => rw [e2] at h2; exact fun F5 σ5 H5 st5 kp5 => h2 F5 σ5 H5 (st.trans st5) (kp4.trans kp5)
        | bad => rw [e2] at h2; exact h2
      | exc c ρ4 => rw [e] at h2; exact h2
      | bad => rw [e] at h2; exact h2
  · have e : i = xs.length := by omega
    subst e
    rw [List.drop_length] at h2
    exact .inl ⟨w2, h2.nx⟩
theorem s_while {c : M Bool} {body : M Out} {n : Nat} {D : Ends} (h : sX K Ex J (whileM c body n) D σ H) : tWhile (tT K Ex c) (sX K Ex J body) D σ H := by
  refine ⟨fun m σ2 H2 => sX K Ex J (whileM c body m) D σ2 H2, ⟨n, h⟩, ?_⟩
  clear h
  rintro m σ2 H2 ⟨F, ρ, h⟩
  cases m with
  | zero => exact h.2.elim
  | succ m =>
    refine ⟨F, ρ, (SAt.bnd (R := RB) h).mono fun b H1 ⟨F1, ρ1, b', st, r, h1⟩ => ?_⟩
    cases r
    cases b with
    | false => exact h1.nx
    | true =>
      refine ⟨fun σ3 H3 => sX K Ex J (whileM c body m) D σ3 H3, fun σ' H' z => ⟨m, by omega, z⟩, F1, ρ1, h1.1, ?_⟩
      obtain ⟨hr, h1⟩ := h1
      have h1 : match G7.bnd body (aft (whileM c body m)) ρ1 with
        | .ok .nx ρ' => ∀ F' σ' H', Step K F1 σ2 H1 ρ1 F' σ' H' ρ' → Keep J σ2 σ' → D.nx σ' H'
        | .ok .bk ρ' => ∀ F' σ' H', Step K F1 σ2 H1 ρ1 F' σ' H' ρ' → Keep J σ2 σ' → D.bk σ' H'
        | .ok .ct ρ' => ∀ F' σ' H', Step K F1 σ2 H1 ρ1 F' σ' H' ρ' → Keep J σ2 σ' → D.ct σ' H'
        | .ok (.rt v) ρ' => ∀ w F' σ' H', Step K F1 σ2 H1 ρ1 F' σ' H' ρ' → Keep J σ2 σ' → Rep K F' w v → D.rt w H'
        | .exc c ρ' => ∀ F' σ' H', Step K F1 σ2 H1 ρ1 F' σ' H' ρ' → Keep J σ2 σ' → Ex c H'
        | .bad => False := h1
      unfold bnd at h1
      cases e2 : body ρ1 with
      | ok o ρ5 =>
        rw [e2] at h1
        cases o with
        | nx => exact fun F5 σ5 H5 st5 kp5 => ⟨F5, ρ5, SAt.shift st5 kp5 h1⟩
        | ct => exact fun F5 σ5 H5 st5 kp5 => ⟨F5, ρ5, SAt.shift st5 kp5 h1⟩
        | bk => exact fun F5 σ5 H5 st5 kp5 => h1 F5 σ5 H5 st5 kp5
        | rt v => exact fun w F5 σ5 H5 st5 kp5 rp => h1 w F5 σ5 H5 st5 kp5 rp
      | exc c ρ5 => rw [e2] at h1; exact fun F5 σ5 H5 st5 kp5 => h1 F5 σ5 H5 st5 kp5
      | bad => rw [e2] at h1; exact h1
theorem wipeE_len (ρ : Env) : ∀ own : List Nat, (wipeE ρ own).length = ρ.length
  | [] => rfl
  | _ :: is => by rw [wipeE, List.length_set, wipeE_len ρ is]
theorem restE_len {ρ ρ' : Env} (h : ρ'.length = ρ.length) : ∀ own : List Nat, (restE ρ ρ' own).length = ρ.length
  | [] => h
  | _ :: is => by rw [restE, List.length_set, restE_len h is]
theorem wipeE_get {ρ : Env} {j : Nat} {s : Sl} : ∀ {own : List Nat}, (wipeE ρ own)[j]? = some (some s) → j ∉ own ∧ ρ[j]? = some (some s)
  | [], h => ⟨by simp, h⟩
  | i :: is, h => by
    rw [wipeE] at h
    rcases set_len h with ⟨_, _, z⟩ | ⟨nj, z⟩
    · cases z
    · obtain ⟨h1, h2⟩ := wipeE_get z
      exact ⟨by simp [nj, h1], h2⟩
theorem wipe_get {σ : St} {j : Nat} : ∀ {own : List Nat}, j ∉ own → (L2.wipe σ own)[j]? = σ[j]? := L2.wipe_out
theorem restE_get {ρ ρ' : Env} (hl : ρ'.length = ρ.length) {j : Nat} : ∀ {own : List Nat}, (restE ρ ρ' own)[j]? = if j ∈ own then ρ[j]? else ρ'[j]?
  | [] => by simp [restE]
  | i :: is => by
    rw [restE]
    by_cases e : i = j
    · subst e
      by_cases hi : i < ρ.length
      · rw [List.getElem?_set_self (by rw [restE_len hl]; exact hi), if_pos (by simp), List.getD_eq_getElem?_getD, List.getElem?_eq_getElem hi]
        rfl
      · rw [List.getElem?_eq_none (by rw [List.length_set, restE_len hl]; omega), if_pos (by simp), List.getElem?_eq_none (by omega)]
    · rw [List.getElem?_set_ne e, restE_get hl]
      by_cases hm : j ∈ is
      · rw [if_pos hm, if_pos (List.mem_cons_of_mem _ hm)]
      · rw [if_neg hm, if_neg (by simp only [List.mem_cons, not_or]; exact ⟨Ne.symm e, hm⟩)]
theorem RE.wiped (r : RE K F σ H ρ) (own : List Nat) : Step K F σ H ρ F (L2.wipe σ own) H (wipeE ρ own) := by
  refine ⟨Same.refl _, fun _ _ e _ => e, fun _ n => n, fun a z => ?_, fun _ _ e => .inl e, L2.wipe_length σ own, ⟨r.le, fun j u q => ?_, fun j u q => ?_, fun j k u u' a q q' e e' => ?_, by rw [L2.wipe_length, wipeE_len]; exact r.len⟩⟩
  · obtain ⟨j, u, q1, q2⟩ := z
    obtain ⟨nj, q1⟩ := wipeE_get q1
    rw [wipe_get nj] at q2
    exact .inl ⟨j, u, q1, q2⟩
  · obtain ⟨nj, q⟩ := wipeE_get q
    rw [wipe_get nj]
    exact r.val j u q
  · obtain ⟨nj, q⟩ := wipeE_get q
    rw [wipe_get nj]
    exact r.own j u q
  · obtain ⟨nj, q⟩ := wipeE_get q
    obtain ⟨nk, q'⟩ := wipeE_get q'
    rw [wipe_get nj] at e
    rw [wipe_get nk] at e'
    exact r.inj j k u u' a q q' e e'
/-- behind a block: its own names as they were -/
theorem Step.rest {own : List Nat} {ρ' : Env} (hr : RE K F σ H ρ) (s : Step K F (L2.wipe σ own) H (wipeE ρ own) F' (L2.wipe σ own) H' ρ') : Step K F σ H ρ F' σ H' (restE ρ ρ' own) := by
  have hl : ρ'.length = ρ.length := by rw [← s.re.len, L2.wipe_length]; exact hr.len
  have no : ∀ j u a, j ∈ own → ρ[j]? = some (some (Sl.own u)) → σ[j]? = some (some (V.ref a)) → ¬ OwnAt (L2.wipe σ own) (wipeE ρ own) a := fun j u a hj q e ⟨k, u', q1, q2⟩ => by
    obtain ⟨nk, q1⟩ := wipeE_get q1
    rw [wipe_get nk] at q2
    exact nk (hr.inj j k u u' a q q1 e q2 ▸ hj)
  have sub : ∀ a, OwnAt (L2.wipe σ own) (wipeE ρ own) a → OwnAt σ ρ a := fun a ⟨k, u', q1, q2⟩ => by
    obtain ⟨nk, q1⟩ := wipeE_get q1
    rw [wipe_get nk] at q2
    exact ⟨k, u', q1, q2⟩
  have cases_ : ∀ (j : Nat) (x : Sl), (restE ρ ρ' own)[j]? = some (some x) → (j ∈ own ∧ ρ[j]? = some (some x)) ∨ (j ∉ own ∧ ρ'[j]? = some (some x)) := fun j x q => by
    rw [restE_get hl] at q
    by_cases hm : j ∈ own
    · rw [if_pos hm] at q; exact .inl ⟨hm, q⟩
    · rw [if_neg hm] at q; exact .inr ⟨hm, q⟩
  have keepO : ∀ j u a, j ∈ own → ρ[j]? = some (some (Sl.own u)) → σ[j]? = some (some (V.ref a)) → F' a = none ∧ Own K F' H' a u ∧ ¬ OwnAt (L2.wipe σ own) ρ' a := fun j u a hj q e => by
    obtain ⟨b, h1, h2, h3⟩ := hr.own j u q
    rw [e] at h1; cases h1
    obtain ⟨o, ho⟩ := h3.some
    have n0 := no j u a hj q e
    refine ⟨?_, h3.mono s.le ((s.frm a o ho n0).trans ho.symm), fun z => ?_⟩
    · cases qq : F' a with
      | none => rfl
      | some x =>
        rcases s.fz a x qq with y | y | y
        · rw [h2] at y; cases y
        · rw [ho] at y; cases y
        · exact absurd y n0
    · rcases s.sub a z with y | y
      · exact n0 y
      · rw [ho] at y; cases y
  refine ⟨s.le, fun a o e n => s.frm a o e fun z => n (sub a z), s.dom, fun a z => ?_, fun a o e => ?_, rfl, ⟨s.re.le, fun j u q => ?_, fun j u q => ?_, fun j k u u' a q q' e e' => ?_, by rw [restE_len hl]; exact hr.len⟩⟩
  · obtain ⟨j, u, q1, q2⟩ := z
    rcases cases_ j _ q1 with ⟨hm, q⟩ | ⟨hm, q⟩
    · exact .inl ⟨j, u, q, q2⟩
    · rcases s.sub a ⟨j, u, q, by rw [wipe_get hm]; exact q2⟩ with y | y
      · exact .inl (sub a y)
      · exact .inr y
  · rcases s.fz a o e with y | y | y
    · exact .inl y
    · exact .inr (.inl y)
    · exact .inr (.inr (sub a y))
  · rcases cases_ j _ q with ⟨hm, q⟩ | ⟨hm, q⟩
    · obtain ⟨w, h1, h2⟩ := hr.val j u q
      exact ⟨w, h1, h2.mono s.le⟩
    · obtain ⟨w, h1, h2⟩ := s.re.val j u q
      rw [wipe_get hm] at h1
      exact ⟨w, h1, h2⟩
  · rcases cases_ j _ q with ⟨hm, q⟩ | ⟨hm, q⟩
    · obtain ⟨a, h1, h2, h3⟩ := hr.own j u q
      obtain ⟨k1, k2, _⟩ := keepO j u a hm q h1
      exact ⟨a, h1, k1, k2⟩
    · obtain ⟨w, h1, h2⟩ := s.re.own j u q
      rw [wipe_get hm] at h1
      exact ⟨w, h1, h2⟩
  · rcases cases_ j _ q with ⟨hm, q⟩ | ⟨hm, q⟩
    · rcases cases_ k _ q' with ⟨hm', q'⟩ | ⟨hm', q'⟩
      · exact hr.inj j k u u' a q q' e e'
      · exact absurd ⟨k, u', q', by rw [wipe_get hm']; exact e'⟩ (keepO j u a hm q e).2.2
    · rcases cases_ k _ q' with ⟨hm', q'⟩ | ⟨hm', q'⟩
      · exact absurd ⟨j, u, q, by rw [wipe_get hm]; exact e⟩ (keepO k u' a hm' q' e').2.2
      · exact s.re.inj j k u u' a q q' (by rw [wipe_get hm]; exact e) (by rw [wipe_get hm']; exact e')
theorem wipeE_in {ρ : Env} {j : Nat} (hj : j < ρ.length) : ∀ {own : List Nat}, j ∈ own → (wipeE ρ own)[j]? = some none
  | i :: is, h => by
    rw [wipeE]
    by_cases e : i = j
    · subst e; rw [List.getElem?_set_self (by rw [wipeE_len]; exact hj)]
    · rw [List.getElem?_set_ne e]
      rcases List.mem_cons.mp h with z | z
      · exact absurd z.symm e
      · exact wipeE_in hj z
  | [], h => by simp at h
theorem wipeE_out {ρ : Env} {j : Nat} : ∀ {own : List Nat}, j ∉ own → (wipeE ρ own)[j]? = ρ[j]?
  | [], _ => rfl
  | i :: is, h => by
    simp only [List.mem_cons, not_or] at h
    rw [wipeE, List.getElem?_set_ne (Ne.symm h.1), wipeE_out h.2]
theorem wipeE_idem (ρ : Env) (own : List Nat) : wipeE (wipeE ρ own) own = wipeE ρ own := by
  refine List.ext_getElem? fun j => ?_
  by_cases hj : j < ρ.length
  · by_cases hm : j ∈ own
    · rw [wipeE_in (by rw [wipeE_len]; exact hj) hm, wipeE_in hj hm]
    · rw [wipeE_out hm]
  · rw [List.getElem?_eq_none (by rw [wipeE_len, wipeE_len]; omega), List.getElem?_eq_none (by rw [wipeE_len]; omega)]
theorem wipe_in {σ : St} {j : Nat} (hj : j < σ.length) : ∀ {own : List Nat}, j ∈ own → (L2.wipe σ own)[j]? = some none
  | i :: is, h => by
    rw [L2.wipe]
    by_cases e : i = j
    · subst e; rw [List.getElem?_set_self (by rw [L2.wipe_length]; exact hj)]
    · rw [List.getElem?_set_ne e]
      rcases List.mem_cons.mp h with z | z
      · exact absurd z.symm e
      · exact wipe_in hj z
  | [], h => by simp at h
/-- the slots that a block does not own -/
def others (n : Nat) (own : List Nat) : List Nat := (List.range n).filter fun j => !own.contains j
theorem wipe_same {own : List Nat} {n : Nat} (hn : σ.length = n) (hl : σ1.length = σ.length) (hk : Keep (others n own) (L2.wipe σ own) σ1) : L2.wipe σ1 own = L2.wipe σ own := by
  refine List.ext_getElem? fun j => ?_
  by_cases hj : j < n
  · by_cases hm : j ∈ own
    · rw [wipe_in (by omega) hm, wipe_in (by omega) hm]
    · rw [wipe_get hm]
      exact hk j (by unfold others; simp [hj, hm])
  · rw [List.getElem?_eq_none (by rw [L2.wipe_length]; omega), List.getElem?_eq_none (by rw [L2.wipe_length]; omega)]
theorem wipe_idem (σ : St) (own : List Nat) : L2.wipe (L2.wipe σ own) own = L2.wipe σ own :=
  wipe_same (n := σ.length) rfl (L2.wipe_length σ own) fun _ _ => rfl
theorem lcL_wipe (tg : PV → M Unit) (c : M Bool) (el : M PV) (own : List Nat) (ρ : Env) : ∀ xs, lcL tg c el own xs (wipeE ρ own) = lcL tg c el own xs ρ
  | [] => by show Res.ok [] (wipeE (wipeE ρ own) own) = _; rw [wipeE_idem]; rfl
  | x :: xs => by
    show bndN (tg x) _ (wipeE (wipeE ρ own) own) = _
    rw [wipeE_idem]; rfl
/-- a thing that the start did not have is changed -/
theorem Step.put {ρ' : Env} {D : Addr} {o : HO} (s : Step K F σ H ρ F' σ' H' ρ') (h0 : H D = none) (nf : F' D = none) (no : ¬ OwnAt σ' ρ' D) : Step K F σ H ρ F' σ' (upd H' D o) ρ' := by
  refine ⟨s.le, fun a u e n => ?_, fun a n => ?_, s.sub, s.fz, s.len, ⟨fun a u e => ?_, s.re.val, fun i v e => ?_, s.re.inj, s.re.len⟩⟩
  · rw [upd_ne (ne_of_none e h0)]; exact s.frm a u e n
  · by_cases h : a = D
    · subst h; exact absurd h0 n
    · rw [upd_ne h]; exact s.dom a n
  · rw [upd_ne (ne_of_none e nf)]; exact s.re.le a u e
  · obtain ⟨a, h1, h2, h3⟩ := s.re.own i v e
    have : a ≠ D := fun z => no ⟨i, v, e, by rw [← z]; exact h1⟩
    exact ⟨a, h1, h2, h3.mono (Same.refl _) (upd_ne this)⟩
/-- a thing that the start did not have is fixed -/
theorem Step.fix {ρ' : Env} {D : Addr} {o : HO} (s : Step K F σ H ρ F' σ' H' ρ') (h0 : H D = none) (nf : F' D = none) (hD : H' D = some o) (no : ¬ OwnAt σ' ρ' D) : Step K F σ H ρ (upd F' D o) σ' H' ρ' := by
  have sm : Same F' (upd F' D o) := fun a u e => by rw [upd_ne (ne_of_none e nf)]; exact e
  refine ⟨s.le.trans sm, s.frm, s.dom, s.sub, fun a u e => ?_, s.len, ⟨fun a u e => ?_, fun i v e => ?_, fun i v e => ?_, s.re.inj, s.re.len⟩⟩
  · by_cases h : a = D
    · subst h; exact .inr (.inl h0)
    · rw [upd_ne h] at e; exact s.fz a u e
  · by_cases h : a = D
    · subst h; rw [upd_same] at e; cases e; exact hD
    · rw [upd_ne h] at e; exact s.re.le a u e
  · obtain ⟨w, h1, h2⟩ := s.re.val i v e
    exact ⟨w, h1, h2.mono sm⟩
  · obtain ⟨a, h1, h2, h3⟩ := s.re.own i v e
    have : a ≠ D := fun z => no ⟨i, v, e, by rw [← z]; exact h1⟩
    exact ⟨a, h1, by rw [upd_ne this]; exact h2, h3.mono sm rfl⟩
theorem not_own_of (s : Step K F σ H ρ F' σ' H' ρ1) {D : Addr} {o : HO} (h : H D = some o) (n : ¬ OwnAt σ ρ D) (nf : F D = none) : ¬ OwnAt σ' ρ1 D ∧ F' D = none ∧ H' D = some o := by
  refine ⟨fun z => ?_, ?_, s.frm D o h n⟩
  · rcases s.sub D z with y | y
    · exact n y
    · rw [h] at y; cases y
  · cases q : F' D with
    | none => rfl
    | some u =>
      rcases s.fz D u q with y | y | y
      · rw [nf] at y; cases y
      · rw [h] at y; cases y
      · exact absurd y n
/-- what the law of a comprehension gives at its end -/
theorem lc_run {it : M (List PV)} {tg : PV → M Unit} {c : M Bool} {el : M PV} {own : List Nat} {n : Nat} {Q : VK} {R : Hp → Hp → St → Env → V → PV → Prop} (hn : σ.length = n) (h : At K Ex R F ρ (lcM it tg c el own) σ H Q)
    (fin : ∀ ys F' H' ρ' D vs, Step K F σ H ρ F' σ H' ρ' → H D = none → F' D = none → H' D = some (.lst vs) → Reps K F' vs ys → ¬ OwnAt σ ρ' D → (∀ w F' H', Step K F σ H ρ F' σ H' ρ' → R F' H' σ ρ' w (.lst ys) → Q w H') → Q (.ref D) H') :
    tLc (tI K Ex it) (gX K (others n own) tg) (tT K Ex0 c) (tX K Ex0 el) own σ H Q := by
  obtain ⟨h0, h⟩ := h
  refine ⟨F, ρ, h0, ?_⟩
  unfold lcM bnd at h
  cases ei : it ρ with
  | exc cc r => rw [ei] at h; exact h
  | bad => rw [ei] at h; exact h
  | ok xs ρ1 =>
  rw [ei] at h
  intro I F1 H1 st1 ⟨pins, wk, pn⟩ D hD
  simp only at h
  by_cases hsz : xs.length ≤ LINE
  case neg => rw [if_neg hsz] at h; exact h.elim
  rw [if_pos hsz] at h
  cases el1 : lcL tg c el own xs (wipeE ρ1 own) with
  | exc cc r => rw [el1] at h; exact h.elim
  | bad => rw [el1] at h; exact h.elim
  | ok zs ρe =>
  rw [el1] at h
  simp only at h
  have hr1 := st1.re
  have stw := hr1.wiped own
  have hn1 : σ.length = n := hn
  refine ⟨fun i m H2 => m = xs.length - i ∧ i ≤ xs.length ∧ ∃ F2 ρ2 vs ys yr, Step K F1 (L2.wipe σ own) H1 (wipeE ρ1 own) F2 (L2.wipe σ own) H2 ρ2 ∧ wipeE ρ2 own = ρ2 ∧ H2 D = some (.lst vs) ∧ F2 D = none ∧ ¬ OwnAt (L2.wipe σ own) ρ2 D ∧
      Reps K F2 vs ys ∧ ys.length ≤ i ∧ lcL tg c el own (xs.drop i) ρ2 = .ok yr ρe ∧ ys ++ yr = zs, ?_, ?_⟩
  · obtain ⟨s0, nf, no⟩ := (stw.re).fresh hD (.lst [])
    exact ⟨xs.length, by simp, Nat.zero_le _, F1, wipeE ρ1 own, [], [], zs, s0, wipeE_idem _ _, upd_same, nf, no, .nil, Nat.le_refl _, el1, rfl⟩
  · rintro i m H2 ⟨rfl, hi, F2, ρ2, vs, ys, yr, s2, wi2, hD2, nf2, no2, rv, hyl, el2, ez⟩
    have pin2 : ∀ p ∈ pins, H2 p.1 = some p.2 := fun p hp => s2.frm _ _ (pn p hp).1 fun z => (pn p hp).2 (by
      rcases stw.sub _ z with y | y
      · exact y
      · rw [(pn p hp).1] at y; cases y)
    obtain ⟨w1, w2⟩ := wk F2 H2 s2.le s2.re.le pin2
    by_cases hlt : i < xs.length
    · have ex : xs[i]? = some xs[i] := List.getElem?_eq_getElem hlt
      obtain ⟨go, yl⟩ := w1 i _ ex
      rw [List.drop_eq_getElem_cons hlt] at el2
      refine .inr ⟨go, fun H3 => ∃ F3 ρ3 vs ys yr, Step K F1 (L2.wipe σ own) H1 (wipeE ρ1 own) F3 (L2.wipe σ own) H3 ρ3 ∧ wipeE ρ3 own = ρ3 ∧ H3 D = some (.lst vs) ∧ F3 D = none ∧ ¬ OwnAt (L2.wipe σ own) ρ3 D ∧
        Reps K F3 vs ys ∧ ys.length ≤ i + 1 ∧ lcL tg c el own (xs.drop (i + 1)) ρ3 = .ok yr ρe ∧ ys ++ yr = zs, ?_, ?_⟩
      · rintro H3 z
        exact ⟨xs.length - (i + 1), by omega, rfl, hlt, z⟩
      · intro w H3 hy
        obtain ⟨F3, gr, rp⟩ := yl w H3 hy
        have s3 := s2.trans (gr.step s2.re)
        obtain ⟨no3, nf3, hD3⟩ := not_own_of (gr.step s2.re) hD2 no2 nf2
        refine ⟨F3, ρ2, xs[i], s3.re, rp, ?_⟩
        unfold lcL bndN at el2
        rw [wi2] at el2
        cases et : tg xs[i] ρ2 with
        | exc cc r => rw [et] at el2; cases el2
        | bad => rw [et] at el2; cases el2
        | ok u ρ4 =>
        rw [et] at el2
        simp only at el2
        intro F4 σ4 H4 s34 kp
        have s4 := s3.trans s34
        have hl4 : σ4.length = σ.length := by rw [s34.len, L2.wipe_length]
        have hw : L2.wipe σ4 own = L2.wipe σ own := wipe_same hn1 hl4 kp
        refine ⟨hw, F4, ρ4, s34.re, ?_⟩
        obtain ⟨no4, nf4, hD4⟩ := not_own_of s34 hD3 no3 nf3
        unfold bnd at el2
        cases ec : c ρ4 with
        | exc cc r => rw [ec] at el2; cases el2
        | bad => rw [ec] at el2; cases el2
        | ok b ρ5 =>
        rw [ec] at el2
        simp only at el2
        intro b' F5 H5 s45 eb
        cases eb
        have s5 := s4.trans s45
        obtain ⟨no5, nf5, hD5⟩ := not_own_of s45 hD4 no4 nf4
        have fz : ∀ {F6 H6 : Hp} {ρ6 : Env}, Step K F1 (L2.wipe σ own) H1 (wipeE ρ1 own) F6 σ4 H6 ρ6 → Step K F1 (L2.wipe σ own) H1 (wipeE ρ1 own) F6 (L2.wipe σ own) H6 (wipeE ρ6 own) := fun {F6 H6 ρ6} s => by
          have q := s.trans (s.re.wiped own)
          rw [hw] at q
          exact q
        have nw : ∀ {ρ6 : Env}, ¬ OwnAt σ4 ρ6 D → ¬ OwnAt (L2.wipe σ own) (wipeE ρ6 own) D := fun {ρ6} z ⟨j, u, q1, q2⟩ => by
          obtain ⟨nj, q1⟩ := wipeE_get q1
          rw [← hw, wipe_get nj] at q2
          exact z ⟨j, u, q1, q2⟩
        cases b with
        | false =>
          rw [if_neg (by decide)]
          rw [if_neg (by decide)] at el2
          exact ⟨F5, wipeE ρ5 own, vs, ys, yr, fz s5, wipeE_idem _ _, hD5, nf5, nw no5, rv.mono ((gr.f.trans s34.le).trans s45.le), by omega, by rw [lcL_wipe]; exact el2, ez⟩
        | true =>
          rw [if_pos rfl]
          rw [if_pos rfl] at el2
          refine ⟨F5, ρ5, s45.re, ?_⟩
          cases ee : el ρ5 with
          | exc cc r => rw [ee] at el2; cases el2
          | bad => rw [ee] at el2; cases el2
          | ok y ρ6 =>
          rw [ee] at el2
          simp only at el2
          intro wy F6 H6 s56 ry
          have s6 := s5.trans s56
          obtain ⟨no6, nf6, hD6⟩ := not_own_of s56 hD5 no5 nf5
          have rv6 : Reps K F6 vs ys := rv.mono (((gr.f.trans s34.le).trans s45.le).trans s56.le)
          refine ⟨vs, hD6, ?_, ?_⟩
          · rw [line_eq, rv6.len]; omega
          · cases e7 : lcL tg c el own (xs.drop (i + 1)) ρ6 with
            | exc cc r => rw [e7] at el2; cases el2
            | bad => rw [e7] at el2; cases el2
            | ok yt ρ7 =>
            rw [e7] at el2
            cases el2
            refine ⟨F6, wipeE ρ6 own, vs ++ [wy], ys ++ [y], yt, (fz s6).put hD nf6 (nw no6), wipeE_idem _ _, upd_same, nf6, nw no6, rv6.app (.cons ry .nil), ?_, ?_, ?_⟩
            · rw [List.length_append]; simp; omega
            · rw [lcL_wipe]; exact e7
            · rw [List.append_assoc]; exact ez
    · have e : i = xs.length := by omega
      subst e
      rw [List.drop_length] at el2
      refine .inl ⟨w2, ?_⟩
      have el3 : Res.ok [] (wipeE ρ2 own) = Res.ok yr ρe := el2
      rw [wi2] at el3
      injection el3 with e1 e2
      subst e1 e2
      rw [List.append_nil] at ez
      subst ez
      have sr := st1.trans (Step.rest hr1 s2)
      have nor : ¬ OwnAt σ (restE ρ1 ρ2 own) D := fun z => by
        rcases (Step.rest hr1 s2).sub D z with y | y
        · obtain ⟨j, u, q1, q2⟩ := y
          obtain ⟨a, q3, _, q4⟩ := hr1.own j u q1
          rw [q2] at q3; cases q3
          obtain ⟨o, ho⟩ := q4.some
          rw [hD] at ho; cases ho
        · obtain ⟨j, u, q1, q2⟩ := z
          have hl : ρ2.length = ρ1.length := by rw [← s2.re.len, L2.wipe_length]; exact hr1.len
          rw [restE_get hl] at q1
          by_cases hm : j ∈ own
          · rw [if_pos hm] at q1
            obtain ⟨a, q3, _, q4⟩ := hr1.own j u q1
            rw [q2] at q3; cases q3
            obtain ⟨o, ho⟩ := q4.some
            rw [hD] at ho; cases ho
          · rw [if_neg hm] at q1
            exact no2 ⟨j, u, q1, by rw [wipe_get hm]; exact q2⟩
      exact fin ys F2 H2 _ D vs sr (st1.none_of hD) nf2 hD2 rv nor h
theorem x_lc {it : M (List PV)} {tg : PV → M Unit} {c : M Bool} {el : M PV} {own : List Nat} {n : Nat} {Q : VK} (hn : σ.length = n) (h : tX K Ex (lcM it tg c el own) σ H Q) : tLc (tI K Ex it) (gX K (others n own) tg) (tT K Ex0 c) (tX K Ex0 el) own σ H Q := by
  obtain ⟨F, ρ, h⟩ := h
  refine lc_run hn h fun ys F' H' ρ' D vs st n0 nf hD rv no q => ?_
  exact q _ _ _ (st.fix n0 nf hD no) (.lst upd_same (rv.mono fun a u e => by rw [upd_ne (ne_of_none e nf)]; exact e))
theorem f_lc {it : M (List PV)} {tg : PV → M Unit} {c : M Bool} {el : M PV} {own : List Nat} {n : Nat} {Q : VK} (hn : σ.length = n) (h : tF K Ex (lcM it tg c el own) σ H Q) : tLc (tI K Ex it) (gX K (others n own) tg) (tT K Ex0 c) (tX K Ex0 el) own σ H Q := by
  obtain ⟨F, ρ, h⟩ := h
  refine lc_run hn h fun ys F' H' ρ' D vs st n0 nf hD rv no q => ?_
  exact q _ _ _ st ⟨D, rfl, nf, ⟨vs, hD, rv⟩, no, n0⟩
end
end G7

set_option Elab.async false
set_option linter.all false
set_option maxRecDepth 100000
set_option autoImplicit false
namespace G7
open PySem PySem.Spec PyProof.Rows L2
def iterV : PV → Option (List PV)
  | .lst xs => some xs
  | .tup xs => some xs
  | .scr ns => some (ns.map .int)
  | .str l => some (l.map fun c => .str [c])
  | .dct kvs => some (kvs.map (·.1))
  | _ => none
def itX (f : M PV) : M (List PV) := bnd f fun v => lft (iterV v)
/-- over a slot's own list, which is out of reach meanwhile -/
def rng1 (f : M (List PV)) : M (List PV) := bnd f fun as => lft (match as with | [.int j] => if near 1000000000 j then some (rangeL 0 j.toNat) else none | _ => none)
def rng2 (f : M (List PV)) : M (List PV) := bnd f fun as => lft (match as with | [.int i, .int j] => if near 1000000000 i && near 1000000000 j then some (rangeL i (j - i).toNat) else none | _ => none)
def rangeD (lo : Int) : Nat → List PV
  | 0 => []
  | n + 1 => .int lo :: rangeD (lo - 1) n
def rng3 (f : M (List PV)) : M (List PV) := bnd f fun as => lft (match as with | [.int i, .int j, .int (-1)] => if near 1000000000 i && near 1000000000 j then some (rangeD i (i - j).toNat) else none | _ => none)
theorem rangeL_len : ∀ (n : Nat) (lo : Int), (rangeL lo n).length = n
  | 0, _ => rfl
  | n + 1, lo => congrArg (· + 1) (rangeL_len n (lo + 1))
theorem rangeL_get : ∀ (n : Nat) (lo : Int) (i : Nat), i < n → (rangeL lo n)[i]? = some (.int (lo + i))
  | 0, _, _, h => absurd h (Nat.not_lt_zero _)
  | n + 1, lo, 0, _ => by simp [rangeL]
  | n + 1, lo, i + 1, h => by
    rw [rangeL, List.getElem?_cons_succ, rangeL_get n (lo + 1) i (by omega)]
    congr 2; omega
theorem rangeD_len : ∀ (n : Nat) (lo : Int), (rangeD lo n).length = n
  | 0, _ => rfl
  | n + 1, lo => congrArg (· + 1) (rangeD_len n (lo - 1))
theorem rangeD_get : ∀ (n : Nat) (lo : Int) (i : Nat), i < n → (rangeD lo n)[i]? = some (.int (lo - i))
  | 0, _, _, h => absurd h (Nat.not_lt_zero _)
  | n + 1, lo, 0, _ => by simp [rangeD]
  | n + 1, lo, i + 1, h => by
    rw [rangeD, List.getElem?_cons_succ, rangeD_get n (lo - 1) i (by omega)]
    congr 2; omega
section
variable {K : PySem.W.Frag} {Ex : Nat → Hp → Prop} {F F' H H' : Hp} {σ : St} {ρ : Env}
theorem Walks.list {a : Addr} {vs : List V} {xs : List PV} (h : F a = some (.lst vs)) (r : Reps K F vs xs) : Walks K F (Itl K a) [] xs := by
  intro F1 H s1 s2 _
  have hq : SqL K H a vs := .of (s2 _ _ (s1 _ _ h))
  refine ⟨fun i x e => ?_, ⟨vs, hq, Nat.le_of_eq r.len⟩⟩
  obtain ⟨w, e1, rw'⟩ := r.get e
  refine ⟨⟨vs, w, hq, e1⟩, fun w' H' hy => ?_⟩
  obtain ⟨rfl, hy⟩ := hy
  have : w' = w := Option.some.inj ((hy vs hq).symm.trans e1)
  subst this
  exact ⟨F1, Grow.refl s2, rw'.mono s1⟩
/-- a list that is pinned, not fixed -/
theorem Walks.listP {a : Addr} {vs : List V} {xs : List PV} (r : Reps K F vs xs) : Walks K F (Itl K a) [(a, .lst vs)] xs := by
  intro F1 H s1 s2 hp
  have hq : SqL K H a vs := .of (hp (a, .lst vs) (by simp))
  refine ⟨fun i x e => ?_, ⟨vs, hq, Nat.le_of_eq r.len⟩⟩
  obtain ⟨w, e1, rw'⟩ := r.get e
  refine ⟨⟨vs, w, hq, e1⟩, fun w' H' hy => ?_⟩
  obtain ⟨rfl, hy⟩ := hy
  have : w' = w := Option.some.inj ((hy vs hq).symm.trans e1)
  subst this
  exact ⟨F1, Grow.refl s2, rw'.mono s1⟩
theorem Walks.scr {a : Addr} {ns : List Int} (h : SqL K F a (ns.map V.int)) : Walks K F (Itl K a) [] (ns.map .int) := by
  intro F1 H s1 s2 _
  have hq : SqL K H a (ns.map V.int) := seqL_mono s2 (seqL_mono s1 h)
  refine ⟨fun i x e => ?_, ⟨_, hq, by simp⟩⟩
  rw [List.getElem?_map] at e
  cases en : ns[i]? with
  | none => rw [en] at e; cases e
  | some n =>
    rw [en] at e; cases e
    have e1 : (ns.map V.int)[i]? = some (V.int n) := by rw [List.getElem?_map, en]; rfl
    refine ⟨⟨_, _, hq, e1⟩, fun w' H' hy => ?_⟩
    obtain ⟨rfl, hy⟩ := hy
    have : w' = .int n := Option.some.inj ((hy _ hq).symm.trans e1)
    subst this
    exact ⟨F1, Grow.refl s2, .int n⟩
theorem Walks.tuple {a : Addr} {vs : List V} {xs : List PV} (h : SqT K F a vs) (r : Reps K F vs xs) : Walks K F (Itt K a) [] xs := by
  intro F1 H s1 s2 _
  have hq : SqT K H a vs := seqT_mono s2 (seqT_mono s1 h)
  refine ⟨fun i x e => ?_, ⟨vs, hq, Nat.le_of_eq r.len⟩⟩
  obtain ⟨w, e1, rw'⟩ := r.get e
  refine ⟨⟨vs, w, hq, e1⟩, fun w' H' hy => ?_⟩
  obtain ⟨rfl, hy⟩ := hy
  have : w' = w := Option.some.inj ((hy vs hq).symm.trans e1)
  subst this
  exact ⟨F1, Grow.refl s2, rw'.mono s1⟩
theorem Walks.str {l : List Nat} (h : ∀ c ∈ l, c < 1114112) : Walks K F (Its ⟨l.toArray⟩) [] (l.map fun c => .str [c]) := by
  intro F1 H s1 s2 _
  refine ⟨fun i x e => ?_, by show (l.toArray).size ≤ _; simp⟩
  rw [List.getElem?_map] at e
  cases en : l[i]? with
  | none => rw [en] at e; cases e
  | some n =>
    rw [en] at e; cases e
    refine ⟨by show i < l.toArray.size; simpa using (List.getElem?_eq_some_iff.mp en).1, fun w' H' hy => ?_⟩
    obtain ⟨rfl, c, hc, rfl⟩ := hy
    have : c = n := by
      have : l[i]? = some c := by simpa using hc
      rw [en] at this; exact (Option.some.inj this).symm
    subst this
    exact ⟨F1, Grow.refl s2, .str (l := [c]) fun d hd => by
      have : d = c := by simpa using hd
      rw [this]; exact h c (List.mem_of_getElem? en)⟩
theorem Walks.range (lo : Int) (n : Nat) : Walks K F (Itr lo n) [] (rangeL lo n) := by
  intro F1 H s1 s2 _
  refine ⟨fun i x e => ?_, by show n ≤ _; rw [rangeL_len]; exact Nat.le_refl _⟩
  have hi : i < n := by
    have := (List.getElem?_eq_some_iff.mp e).1
    rw [rangeL_len] at this; exact this
  rw [rangeL_get n lo i hi] at e
  cases e
  refine ⟨hi, fun w' H' hy => ?_⟩
  obtain ⟨rfl, rfl⟩ := hy
  exact ⟨F1, Grow.refl s2, .int _⟩
theorem Walks.rangeD (lo : Int) (n : Nat) : Walks K F (Itc lo (-1) n) [] (G7.rangeD lo n) := by
  intro F1 H s1 s2 _
  refine ⟨fun i x e => ?_, by show n ≤ _; rw [rangeD_len]; exact Nat.le_refl _⟩
  have hi : i < n := by
    have := (List.getElem?_eq_some_iff.mp e).1
    rw [rangeD_len] at this; exact this
  rw [rangeD_get n lo i hi] at e
  cases e
  refine ⟨hi, fun w' H' hy => ?_⟩
  obtain ⟨rfl, rfl⟩ := hy
  have : lo + (i : Int) * -1 = lo - i := by omega
  rw [this]
  exact ⟨F1, Grow.refl s2, .int _⟩
theorem Walks.keys {d : Addr} {o : Obj} {ks : List (L2.Key × V)} {kvs : List (PV × PV)} (h : F d = some (.frz o (.dK ks))) (r : RepD K F ks kvs) : Walks K F (Itk d o ks) [] (kvs.map (·.1)) := by
  intro F1 H s1 s2 _
  have hq : H d = some (.frz o (.dK ks)) := s2 _ _ (s1 _ _ h)
  have rk := r.keys
  have hl : ks.length = kvs.length := r.len
  refine ⟨fun i x e => ?_, hq, by rw [List.length_map]; omega⟩
  obtain ⟨w, e1, rw'⟩ := rk.get e
  have hi : i < ks.length := by
    have := (List.getElem?_eq_some_iff.mp e1).1
    simpa using this
  refine ⟨⟨hq, hi⟩, fun w' H' hy => ?_⟩
  obtain ⟨rfl, k, v, e2, rfl⟩ := hy
  rw [List.getElem?_map, e2] at e1
  cases e1
  exact ⟨F1, Grow.refl s2, rw'.mono s1⟩
/-- what may be walked, by its value -/
def iAny (K : PySem.W.Frag) (te : TE) : TI := fun σ H R => te σ H fun x H1 => (∃ a xs, x = .ref a ∧ SqL K H1 a xs ∧ R (Itl K a) H1) ∨ (∃ a xs, x = .ref a ∧ SqT K H1 a xs ∧ R (Itt K a) H1) ∨
  (∃ z, x = .str z ∧ R (Its z) H1) ∨ (∃ d o kvs, x = .ref d ∧ H1 d = some (.frz o (.dK kvs)) ∧ R (Itk d o kvs) H1)
theorem i_any {f : M PV} {R : It → Hp → Prop} (h : tI K Ex (itX f) σ H R) : iAny K (tX K Ex f) σ H R := by
  obtain ⟨F, ρ, h⟩ := h
  refine ⟨F, ρ, (At.bnd (R := RV K) h).mono fun x H1 ⟨F1, ρ1, v, st, r, h1⟩ => ?_⟩
  obtain ⟨xs, e, q⟩ := At.lft h1
  have q' : ∀ I, Walks K F1 I [] xs → R I H1 := fun I w => q I F1 H1 (Step.refl h1.1) ⟨[], w, fun p hp => by simp at hp⟩
  have le := h1.1.le
  have r : Rep K F1 x v := r
  unfold iterV at e
  split at e
  · cases e
    cases r with | lst a b => exact .inl ⟨_, _, rfl, .of (le _ _ a), q' _ (Walks.list a b)⟩
  · cases e
    cases r with | tup a b => exact .inr (.inl ⟨_, _, rfl, seqT_mono le a, q' _ (Walks.tuple a b)⟩)
  · cases e
    cases r with | scr a => exact .inl ⟨_, _, rfl, seqL_mono le a, q' _ (Walks.scr a)⟩
  · cases e
    cases r with | str a => exact .inr (.inr (.inl ⟨_, rfl, q' _ (Walks.str a)⟩))
  · cases e
    cases r with | dct a b => exact .inr (.inr (.inr ⟨_, _, _, rfl, le _ _ a, q' _ (Walks.keys a b)⟩))
  · cases e
theorem i_rng1 {f : M (List PV)} {R : It → Hp → Prop} (h : tI K Ex (rng1 f) σ H R) : iRng1 (tA K Ex f) σ H R := by
  obtain ⟨F, ρ, h⟩ := h
  refine ⟨F, ρ, (At.bnd (R := RVs K) h).mono fun x H1 ⟨F1, ρ1, v, st, r, h1⟩ => ?_⟩
  obtain ⟨xs, e, q⟩ := At.lft h1
  split at e
  · split at e
    · rename_i j hj
      cases e
      cases r with | cons a b => cases a; cases b; exact ⟨j, rfl, (near62 hj).1, (near62 hj).2, q _ F1 H1 (Step.refl h1.1) ⟨[], Walks.range _ _, fun p hp => by simp at hp⟩⟩
    · cases e
  · cases e
theorem i_rng2 {f : M (List PV)} {R : It → Hp → Prop} (h : tI K Ex (rng2 f) σ H R) : iRng2 (tA K Ex f) σ H R := by
  obtain ⟨F, ρ, h⟩ := h
  refine ⟨F, ρ, (At.bnd (R := RVs K) h).mono fun x H1 ⟨F1, ρ1, v, st, r, h1⟩ => ?_⟩
  obtain ⟨xs, e, q⟩ := At.lft h1
  split at e
  · split at e
    · rename_i i j hj
      cases e
      simp only [Bool.and_eq_true, decide_eq_true_eq] at hj
      cases r with
      | cons a b =>
        cases a
        cases b with
        | cons a b => cases a; cases b; exact ⟨i, j, rfl, ⟨(near62 hj.1).1, (near62 hj.1).2, (near62 hj.2).1, (near62 hj.2).2⟩, q _ F1 H1 (Step.refl h1.1) ⟨[], Walks.range _ _, fun p hp => by simp at hp⟩⟩
    · cases e
  · cases e
theorem i_rng3 {f : M (List PV)} {R : It → Hp → Prop} (h : tI K Ex (rng3 f) σ H R) : iRng3 (tA K Ex f) σ H R := by
  obtain ⟨F, ρ, h⟩ := h
  refine ⟨F, ρ, (At.bnd (R := RVs K) h).mono fun x H1 ⟨F1, ρ1, v, st, r, h1⟩ => ?_⟩
  obtain ⟨xs, e, q⟩ := At.lft h1
  split at e
  · split at e
    · rename_i i j hj
      cases e
      simp only [Bool.and_eq_true, decide_eq_true_eq] at hj
      cases r with
      | cons a b =>
        cases a
        cases b with
        | cons a b =>
          cases a
          cases b with
          | cons a b =>
            cases a; cases b
            exact ⟨i, j, -1, (i - j).toNat, rfl, RgC.neg (near62 hj.1).1 (near62 hj.1).2 (near62 hj.2).1 (near62 hj.2).2, q _ F1 H1 (Step.refl h1.1) ⟨[], Walks.rangeD _ _, fun p hp => by simp at hp⟩⟩
    · cases e
  · cases e
end
section
variable {X : Cx} {Ex : Nat → Hp → Prop} {J : List Nat} {e e2 e3 tg : Expr} {pos p : Pos} {g1 : M PV} {ga : M (List PV)}
theorem pi_weak {t t' : TI} (h : PI X tg e t) (m : ∀ σ H R, t' σ H R → t σ H R) : PI X tg e t' := ⟨fun pins s σ H R I q => h.run pins s σ H R I (m σ H R q)⟩
theorem pi_any {te : TE} (he : PE X e te) : PI X tg e (iAny X.K te) := by
  refine ⟨fun pins s σ H R I h => ?_⟩
  refine thn (he.run pins s σ H _ I h) fun v s1 ⟨x, H1, I1, r1, q1⟩ => ?_
  rcases q1 with ⟨a, xs, ex, hq, q⟩ | ⟨a, xs, ex, hq, q⟩ | ⟨z, ex, q⟩ | ⟨d, o, kvs, ex, hd, q⟩
  · subst ex; cases r1
    obtain ⟨its, rv, p, hz⟩ := I1.list hq
    exact wpAny_pyIter_list p.isList (pi_one (tk := s1.toks) I1 _ (turn_list a _) ⟨_, Heap.get?_push_size _ rfl, rfl, rfl⟩ q)
  · subst ex; cases r1
    obtain ⟨its, rv, p, hz⟩ := I1.tuple hq
    exact wpAny_pyIter_tuple (show s1.heap.IsTuple a its.toArray from p) (pi_one (tk := s1.toks) I1 _ (turn_tuple a _) ⟨_, Heap.get?_push_size _ rfl, rfl, rfl⟩ q)
  · subst ex
    obtain ⟨t, rfl⟩ := r1
    cases ha : z.cps.all (· < 128)
    · exact wpAny_pyIter_wide ha (pi_one (tk := s1.toks) I1 _ (turn_str _ z t "str_iterator" (.inr rfl)) ⟨_, Heap.get?_push_size _ rfl, rfl, rfl⟩ q)
    · exact wpAny_pyIter_ascii ha (pi_one (tk := s1.toks) I1 _ (turn_str _ z t "str_ascii_iterator" (.inl rfl)) ⟨_, Heap.get?_push_size _ rfl, rfl, rfl⟩ q)
  · subst ex; cases r1
    obtain ⟨y1, y2, y3, es, ep, vs, y4, y5, y6, y7⟩ := I1.frzK hd
    exact iter_keys y1 y2 y3 y4 (pi_one (tk := s1.toks) I1 _ (turn_keys _ y4) ⟨_, Heap.get?_push_size _ rfl, rfl, by rw [y5] <;> rfl⟩ q)
theorem di_any (he : PE X e (tX X.K Ex g1)) : PI X tg e (tI X.K Ex (itX g1)) := pi_weak (pi_any he) fun _ _ _ => i_any
theorem di_rng1 (hg : Gl X "range") (hm : X.mg "range" = none) (ha : PA X [e] (tA X.K Ex ga)) (hs : starEach [e] X.env = [(false, eval e X.env)] := by rfl) : PI X tg (.Call (.Name "range" p) [e] [] pos) (tI X.K Ex (rng1 ga)) := pi_weak (pi_range1 hg hm ha hs) fun _ _ _ => i_rng1
theorem di_rng2 (hg : Gl X "range") (hm : X.mg "range" = none) (ha : PA X [e, e2] (tA X.K Ex ga)) (hs : starEach [e, e2] X.env = [(false, eval e X.env), (false, eval e2 X.env)] := by rfl) (hs2 : starEach [e2] X.env = [(false, eval e2 X.env)] := by rfl) :
    PI X tg (.Call (.Name "range" p) [e, e2] [] pos) (tI X.K Ex (rng2 ga)) := pi_weak (pi_range2 hg hm ha hs hs2) fun _ _ _ => i_rng2
theorem di_rng3 (hg : Gl X "range") (hm : X.mg "range" = none) (ha : PA X [e, e2, e3] (tA X.K Ex ga)) (hs : starEach [e, e2, e3] X.env = (false, eval e X.env) :: starEach [e2, e3] X.env := by rfl) (hpl : (backTo pos (starEach [e2, e3] X.env)).any (·.1) = false := by rfl) :
    PI X tg (.Call (.Name "range" p) [e, e2, e3] [] pos) (tI X.K Ex (rng3 ga)) := pi_weak (pi_range3 hg hm ha hs hpl) fun _ _ _ => i_rng3
theorem pg_weak {t t' : TG} (h : PG X tg t) (m : ∀ w σ H Q, t' w σ H Q → t w σ H Q) : PG X tg t' := ⟨fun pins s σ H v u Q I r q => h.run pins s σ H v u Q I r (m v σ H Q q)⟩
theorem pgs_weak {es : List Expr} {t t' : TGs} (h : PGs X es t) (m : ∀ w σ H Q, t' w σ H Q → t w σ H Q) : PGs X es t' := ⟨fun pins s σ H v u Q I r q => h.run pins s σ H v u Q I r (m v σ H Q q)⟩
theorem dg_name {i : Nat} {x : Str} (hi' : i ∉ J) (hN : X.N.Nodup) (hi : X.N[i]? = some x) (hx : Loc X.env.scope x) (hf : X.fn x = true ∨ X.env.scope.names.lookup x = some .local := by first | exact .inl rfl | exact .inr rfl | assumption) : PG X (.Name x pos) (gX X.K J (nmT i)) :=
  pg_weak (pg_name hN hi hx hf) fun _ _ _ _ => g_name hi'
theorem dgs_nil : PGs X [] (gsX X.K J []) := pgs_weak pgs_nil fun _ _ _ _ => gs_nil
theorem dgs_cons {es : List Expr} {g : PV → M Unit} {gs : List (PV → M Unit)} (h1 : PG X e (gX X.K J g)) (h2 : PGs X es (gsX X.K J gs)) (hs : (assignEach (e :: es) X.env).map (·.2) = assign e X.env :: (assignEach es X.env).map (·.2) := by rfl) : PGs X (e :: es) (gsX X.K J (g :: gs)) :=
  pgs_weak (pgs_cons h1 h2 hs) fun _ _ _ _ => gs_cons
theorem dg_tup {es : List Expr} {k n : Nat} {gs : List (PV → M Unit)} (hn' : gs.length = n) (hc : X.calm = true) (h : PGs X es (gsX X.K J gs)) (hn : (assignEach es X.env).length = n := by rfl) (hst : (assignEach es X.env).findIdx? (·.1) = none := by rfl) : PG X (.Tuple es k pos) (gX X.K J (tupT gs)) :=
  pg_weak (pg_tup hc h hn hst) fun _ _ _ _ => g_tup hn'
theorem ds_for {iter : Expr} {body : List Stmt} {it : M (List PV)} {tgm : PV → M Unit} {b : M Out} (hp : PassesOwn (model X.prog X.w) X.A X.env X.xe) (hc : X.calm = true) (hi : PI X tg iter (tI X.K Ex it)) (hg : PG X tg (gX X.K J tgm)) (hb : PSs X body (sX X.K Ex J b))
    (hs : ∀ x, foldedSetIterable iter X.env x = pure x := by intro _; rfl) : PS X (.For tg iter body [] pos) (sX X.K Ex J (forM it tgm b)) := ps_weak (ps_for hp hc hi hg hb hs) fun _ _ _ => s_for
theorem ds_while {c : Expr} {body : List Stmt} {cm : M Bool} {b : M Out} (n : Nat) (hp : PassesOwn (model X.prog X.w) X.A X.env X.xe) (hc : PT X c (tT X.K Ex cm)) (hb : PSs X body (sX X.K Ex J b)) : PS X (.While c body [] pos) (sX X.K Ex J (whileM cm b n)) :=
  ps_weak (ps_while hp hc hb) fun _ _ _ => s_while
theorem pe_weakN {t t' : TE} (h : PE X e t) (m : ∀ σ H Q, σ.length = X.N.length → t' σ H Q → t σ H Q) : PE X e t' := ⟨fun pins s σ H Q I q => h.run pins s σ H Q I (m σ H Q I.len q)⟩
theorem ps_weakN {st : Stmt} {t t' : TS} (h : PS X st t) (m : ∀ D σ H, σ.length = X.N.length → t' D σ H → t D σ H) : PS X st t' := ⟨fun pins s σ H D I q => h.run pins s σ H D I (m D σ H I.len q)⟩
theorem dts_nil {Y : Cx} : PTs Y [] (tT Y.K Ex yesM) := ⟨fun pins s σ H Q I h => pts_nil.run pins s σ H Q I (by obtain ⟨F, ρ, h⟩ := h; exact h.ret rfl)⟩
theorem dts_one {Y : Cx} {c : Expr} {m : M Bool} (h : PT Y c (tT Y.K Ex m)) : PTs Y [c] (tT Y.K Ex m) := pts_one h
section lc
variable {elt iter : Expr} {ifs : List Expr} {scope : Scope} {own : List (Str × Nat)} {it : M (List PV)} {tgm : PV → M Unit} {cm : M Bool} {el : M PV} {n : Nat}
theorem dx_lc (hn : X.N.length = n) (hc : X.calm = true) (hN : X.N.Nodup) (hi : PI X tg iter (tI X.K Ex it)) (ok : BlkOk X.N X.env.scope scope own)
    (hg : ∀ (s : Shared) (H : Hp) (C : Addr) (cl : List (Str × Addr)) (fp : List Addr), PG (X.blk s H scope (compEnvC scope cl C X.env) fp) tg (gX X.K (others n (own.map (·.2))) tgm)) (ht : ∀ (s : Shared) (H : Hp) (C : Addr) (cl : List (Str × Addr)) (fp : List Addr), PTs (X.blk s H scope (compEnvC scope cl C X.env) fp) ifs (tT X.K Ex0 cm))
    (he : ∀ (s : Shared) (H : Hp) (C : Addr) (cl : List (Str × Addr)) (fp : List Addr), PE (X.blk s H scope (compEnvC scope cl C X.env) fp) elt (tX X.K Ex0 el)) (hs : ∀ x, foldedSetIterable iter X.env x = pure x := by intro _; rfl) :
    PE X (.ListComp elt [⟨tg, iter, ifs, 0⟩] scope pos) (tX X.K Ex (lcM it tgm cm el (own.map (·.2)))) := pe_weakN (pe_lc hc hN hi ok hg ht he hs) fun σ H Q hl h => x_lc (hl.trans hn) h
theorem df_lc (hn : X.N.length = n) (hc : X.calm = true) (hN : X.N.Nodup) (hi : PI X tg iter (tI X.K Ex it)) (ok : BlkOk X.N X.env.scope scope own)
    (hg : ∀ (s : Shared) (H : Hp) (C : Addr) (cl : List (Str × Addr)) (fp : List Addr), PG (X.blk s H scope (compEnvC scope cl C X.env) fp) tg (gX X.K (others n (own.map (·.2))) tgm)) (ht : ∀ (s : Shared) (H : Hp) (C : Addr) (cl : List (Str × Addr)) (fp : List Addr), PTs (X.blk s H scope (compEnvC scope cl C X.env) fp) ifs (tT X.K Ex0 cm))
    (he : ∀ (s : Shared) (H : Hp) (C : Addr) (cl : List (Str × Addr)) (fp : List Addr), PE (X.blk s H scope (compEnvC scope cl C X.env) fp) elt (tX X.K Ex0 el)) (hs : ∀ x, foldedSetIterable iter X.env x = pure x := by intro _; rfl) :
    PE X (.ListComp elt [⟨tg, iter, ifs, 0⟩] scope pos) (tF X.K Ex (lcM it tgm cm el (own.map (·.2)))) := pe_weakN (pe_lc hc hN hi ok hg ht he hs) fun σ H Q hl h => f_lc (hl.trans hn) h
/-- name = [..] on one line, the name a local -/
theorem ds_setLc {i : Nat} {y : Str} {py spos : Pos} (hi' : i ∉ J) (hn : X.N.length = n) (hc : X.calm = true) (hN : X.N.Nodup) (hy : X.N[i]? = some y) (hyl : X.env.scope.names.lookup y = some .local)
    (hsw : swapsWith (.ListComp elt [⟨tg, iter, ifs, 0⟩] scope pos) (some (.Name y py)) spos.line X.env = pure true) (hi : PI X tg iter (tI X.K Ex it)) (ok : BlkOk X.N X.env.scope scope own)
    (hg : ∀ (s : Shared) (H : Hp) (C : Addr) (cl : List (Str × Addr)) (fp : List Addr), PG (X.blk s H scope (compEnvC scope cl C X.env) fp) tg (gX X.K (others n (own.map (·.2))) tgm)) (ht : ∀ (s : Shared) (H : Hp) (C : Addr) (cl : List (Str × Addr)) (fp : List Addr), PTs (X.blk s H scope (compEnvC scope cl C X.env) fp) ifs (tT X.K Ex0 cm))
    (he : ∀ (s : Shared) (H : Hp) (C : Addr) (cl : List (Str × Addr)) (fp : List Addr), PE (X.blk s H scope (compEnvC scope cl C X.env) fp) elt (tX X.K Ex0 el)) (hs : ∀ x, foldedSetIterable iter X.env x = pure x := by intro _; rfl) :
    PS X (.Assign [.Name y py] (.ListComp elt [⟨tg, iter, ifs, 0⟩] scope pos) spos) (sX X.K Ex J (setV i (lcM it tgm cm el (own.map (·.2))))) :=
  ps_weakN (ps_setLc hc hN hy hyl hsw hi ok hg ht he hs) fun D σ H hl h => x_lc (hl.trans hn) (s_setV hi' h)
theorem ds_setLcO {i : Nat} {y : Str} {py spos : Pos} (hi' : i ∉ J) (hn : X.N.length = n) (hc : X.calm = true) (hN : X.N.Nodup) (hy : X.N[i]? = some y) (hyl : X.env.scope.names.lookup y = some .local)
    (hsw : swapsWith (.ListComp elt [⟨tg, iter, ifs, 0⟩] scope pos) (some (.Name y py)) spos.line X.env = pure true) (hi : PI X tg iter (tI X.K Ex it)) (ok : BlkOk X.N X.env.scope scope own)
    (hg : ∀ (s : Shared) (H : Hp) (C : Addr) (cl : List (Str × Addr)) (fp : List Addr), PG (X.blk s H scope (compEnvC scope cl C X.env) fp) tg (gX X.K (others n (own.map (·.2))) tgm)) (ht : ∀ (s : Shared) (H : Hp) (C : Addr) (cl : List (Str × Addr)) (fp : List Addr), PTs (X.blk s H scope (compEnvC scope cl C X.env) fp) ifs (tT X.K Ex0 cm))
    (he : ∀ (s : Shared) (H : Hp) (C : Addr) (cl : List (Str × Addr)) (fp : List Addr), PE (X.blk s H scope (compEnvC scope cl C X.env) fp) elt (tX X.K Ex0 el)) (hs : ∀ x, foldedSetIterable iter X.env x = pure x := by intro _; rfl) :
    PS X (.Assign [.Name y py] (.ListComp elt [⟨tg, iter, ifs, 0⟩] scope pos) spos) (sX X.K Ex J (setO i (lcM it tgm cm el (own.map (·.2))))) :=
  ps_weakN (ps_setLc hc hN hy hyl hsw hi ok hg ht he hs) fun D σ H hl h => f_lc (hl.trans hn) (s_setO hi' h)
end lc
end
end G7

set_option Elab.async false
set_option linter.all false
set_option maxRecDepth 100000
set_option autoImplicit false
namespace G7
open PySem PySem.Spec PyProof.Rows L2
/-- what an iterator walks -/
inductive Src where
  | L (a : Addr)
  | T (a : Addr)
  | S (z : Str)
def SrcAt (K : PySem.W.Frag) (H : Hp) : Src → List V → Prop
  | .L a, xs => SqL K H a xs
  | .T a, xs => SqT K H a xs
  | .S z, xs => xs = z.cps.toList.map fun c => V.str ⟨#[c]⟩
def SrcV : Src → V → Prop
  | .L a, w => w = .ref a
  | .T a, w => w = .ref a
  | .S z, w => w = .str z
/-- the iterator's own cell -/
def Cell (it : Addr) (i : Nat) (h : Heap) : Src → Prop
  | .L a => h.IsListIter it a i
  | .T a => h.IsTupleIter it a i
  | .S z => ∃ t, h.IsStrIter it (strIterType z) z t i
section
variable {K : PySem.W.Frag} {H H' : Hp} {it : Addr} {i : Nat} {h h' : Heap} {sr : Src}
theorem SrcAt.mono (e : Same H H') : ∀ {sr : Src} {xs : List V}, SrcAt K H sr xs → SrcAt K H' sr xs
  | .L _, _, q => seqL_mono e q
  | .T _, _, q => seqT_mono e q
  | .S _, _, q => q
theorem Cell.obj (c : Cell it i h sr) : ∃ o, h.get? it = some o ∧ ∀ v, o.data ≠ .cell v := by
  cases sr with
  | L a => obtain ⟨o, e, _, d⟩ := c; exact ⟨o, e, fun v z => by rw [d] at z; cases z⟩
  | T a => obtain ⟨o, e, _, d⟩ := c; exact ⟨o, e, fun v z => by rw [d] at z; cases z⟩
  | S z => obtain ⟨t, o, e, _, d⟩ := c; exact ⟨o, e, fun v z => by rw [d] at z; cases z⟩
theorem Cell.keep (c : Cell it i h sr) (k : ∀ o, h.get? it = some o → h'.get? it = some o) : Cell it i h' sr := by
  cases sr with
  | L a => exact Heap.IsListIter.at c k
  | T a => exact Heap.IsTupleIter.at c k
  | S z => obtain ⟨t, o, e, q⟩ := c; exact ⟨t, o, k o e, q⟩
end
section
variable {X : Cx} {pins : List (Addr × Obj)} {σ : St} {H : Hp} {s : Shared}
theorem src_inj (I : Inv X pins σ H s) : ∀ {sr : Src} {xs ys : List V}, SrcAt X.K H sr xs → SrcAt X.K H sr ys → xs = ys
  | .L _, _, _, a, b => I.list_inj a b
  | .T _, _, _, a, b => I.tuple_inj a b
  | .S _, _, _, a, b => by cases a; cases b; rfl
/-- an iterator's cell is not what is walked -/
theorem fp_ne (I : Inv X pins σ H s) {b a : Addr} (f : FpOk X pins H b) (h : (∃ xs, SqL X.K H a xs) ∨ ∃ xs, SqT X.K H a xs) : a ≠ b := by
  obtain ⟨f0, _, _, f3, _⟩ := f
  have key : (∃ o, H a = some o) ∨ ∃ o, X.K.lookup a = some o := by
    rcases h with ⟨xs, (h | ⟨o, h⟩) | ⟨o, its, n, h1, _⟩⟩ | ⟨xs, (h | ⟨o, h⟩) | ⟨o, its, n, h1, _⟩⟩
    · exact .inl ⟨_, h⟩
    · exact .inl ⟨_, h⟩
    · exact .inr ⟨_, h1⟩
    · exact .inl ⟨_, h⟩
    · exact .inl ⟨_, h⟩
    · exact .inr ⟨_, h1⟩
  rintro rfl
  rcases key with ⟨o, q⟩ | ⟨o, q⟩
  · rw [f0] at q; cases q
  · have e := I.mod.kin a o q
    rcases f3 with z | z
    · exact I.ok.noex a o e z
    · exact absurd (Nat.lt_of_lt_of_le (Heap.lt_size (I.ok.bs a o e).1) z) (Nat.lt_irrefl _)
/-- what the iterator draws, as it stands -/
theorem src_draws (I : Inv X pins σ H s) (hh : X.A.in1.handled = none) {it : Addr} {i : Nat} : ∀ {sr : Src} {xs : List V}, SrcAt X.K H sr xs → Cell it i s.heap sr → (∀ a, (∃ xs, SqL X.K H a xs) ∨ (∃ xs, SqT X.K H a xs) → a ≠ it) →
    ∃ (fp : List Addr) (P : Nat → Value → Prop) (St : Nat → Heap → Prop), Draws X.prog X.w X.A.in1 it fp xs.length P St ∧ St i s.heap ∧ (∀ h', St (i + 1) h' → Cell it (i + 1) h' sr) ∧ (∀ u, P i u → ∃ x, xs[i]? = some x ∧ RelV x u) ∧
      it ∈ fp ∧ ∀ b ∈ fp, b = it ∨ (∃ xs, SqL X.K H b xs) ∨ ∃ xs, SqT X.K H b xs
  | .L a, xs, h, c, ne => by
    obtain ⟨its, rv, p, hz⟩ := I.list h
    have D := Draws.list (prog := X.prog) (w := X.w) hh it a (ne a (.inl ⟨xs, h⟩)) its.toArray
    rw [List.size_toArray, ← rv.length] at D
    refine ⟨_, _, _, D, ⟨c, p.isList⟩, fun h' st => st.1, fun u hu => ?_, by simp, fun b hb => ?_⟩
    · have hu : its[i]? = some u := by simpa using hu
      cases e : xs[i]? with
      | none => rw [rv.none_of e] at hu; cases hu
      | some x =>
        obtain ⟨u', e1, r⟩ := rv.get e
        rw [e1] at hu; cases hu
        exact ⟨x, rfl, r⟩
    · rcases (by simpa using hb : b = it ∨ b = a) with z | z
      · exact .inl z
      · rw [z]; exact .inr (.inl ⟨xs, h⟩)
  | .T a, xs, h, c, ne => by
    obtain ⟨its, rv, p, hz⟩ := I.tuple h
    have D := Draws.tuple (prog := X.prog) (w := X.w) hh it a (ne a (.inr ⟨xs, h⟩)) its.toArray
    rw [List.size_toArray, ← rv.length] at D
    refine ⟨_, _, _, D, ⟨c, p⟩, fun h' st => st.1, fun u hu => ?_, by simp, fun b hb => ?_⟩
    · have hu : its[i]? = some u := by simpa using hu
      cases e : xs[i]? with
      | none => rw [rv.none_of e] at hu; cases hu
      | some x =>
        obtain ⟨u', e1, r⟩ := rv.get e
        rw [e1] at hu; cases hu
        exact ⟨x, rfl, r⟩
    · rcases (by simpa using hb : b = it ∨ b = a) with z | z
      · exact .inl z
      · rw [z]; exact .inr (.inr ⟨xs, h⟩)
  | .S z, xs, h, c, ne => by
    obtain ⟨t, c⟩ := c
    cases h
    refine ⟨_, _, _, by rw [List.length_map, Array.length_toList]; exact Draws.text hh it z t, c, fun h' st => ⟨t, st⟩, fun u hu => ?_, by simp, fun b hb => ?_⟩
    · obtain ⟨c, u', e1, rfl⟩ := hu
      exact ⟨.str ⟨#[c]⟩, by rw [List.getElem?_map]; simp [e1], ⟨u', rfl⟩⟩
    · exact .inl (by simpa using hb)
end
/-- pairs of the items of two sources -/
def ItZ (K : PySem.W.Frag) (s1 s2 : Src) : It :=
  ⟨fun i H => ∃ (xs ys : List V) (x y : V), SrcAt K H s1 xs ∧ SrcAt K H s2 ys ∧ xs[i]? = some x ∧ ys[i]? = some y,
    fun i H v H' => ∃ T x y, v = .ref T ∧ H T = none ∧ H' = upd H T (.tup [x, y]) ∧ (∀ xs, SrcAt K H s1 xs → xs[i]? = some x) ∧ ∀ ys, SrcAt K H s2 ys → ys[i]? = some y,
    fun i H => ∃ xs ys : List V, SrcAt K H s1 xs ∧ SrcAt K H s2 ys ∧ i ≤ xs.length ∧ i ≤ ys.length ∧ (i = xs.length ∨ i = ys.length)⟩
structure Five (z TI TO i1 i2 : Addr) : Prop where
  a : TI ≠ z
  b : TO ≠ z
  c : TI ≠ TO
  d : TI ≠ i1
  e : TI ≠ i2
  f : z ≠ i1
  g : z ≠ i2
  h : TO ≠ i1
  i : TO ≠ i2
  j : i1 ≠ i2
def stZ (z TI TO i1 i2 : Addr) (s1 s2 : Src) (i : Nat) (h : Heap) : Prop := IsZip h z TI TO .none ∧ IsTupOf2 h TI (.ref i1) (.ref i2) ∧ (∃ x y, IsTupOf2 h TO x y) ∧ Cell i1 i h s1 ∧ Cell i2 i h s2
theorem sep_of {X : Cx} {pins : List (Addr × Obj)} {σ : St} {H : Hp} {s : Shared} (I : Inv X pins σ H s) {z TI TO i1 i2 : Addr} (D : Five z TI TO i1 i2) (hf : ∀ b ∈ [z, TI, TO, i1, i2], FpOk X pins H b) {fp1 fp2 : List Addr} (m1 : i1 ∈ fp1) (m2 : i2 ∈ fp2)
    (h1 : ∀ b ∈ fp1, b = i1 ∨ (∃ xs, SqL X.K H b xs) ∨ ∃ xs, SqT X.K H b xs) (h2 : ∀ b ∈ fp2, b = i2 ∨ (∃ xs, SqL X.K H b xs) ∨ ∃ xs, SqT X.K H b xs) : ZipSep2 z TI TO i1 i2 fp1 fp2 := by
  have out : ∀ {q : Addr} {fp : List Addr} {k : Addr}, q ∈ [z, TI, TO, i1, i2] → q ≠ k → (∀ b ∈ fp, b = k ∨ (∃ xs, SqL X.K H b xs) ∨ ∃ xs, SqT X.K H b xs) → q ∉ fp := fun {q fp k} hq hk hh hm => by
    rcases hh q hm with y | y
    · exact hk y
    · exact fp_ne I (hf q hq) y rfl
  exact { TIz := D.a, TOz := D.b, TITO := D.c, TIi1 := D.d, mem1 := m1, zf1 := out (by simp) D.f h1, Tf1 := out (by simp) D.h h1,
          TIi2 := D.e, mem2 := m2, zf2 := out (by simp) D.g h2, Tf2 := out (by simp) D.i h2, sep1_2 := out (by simp) D.j h2, sep2_1 := out (by simp) (Ne.symm D.j) h1 }
theorem turn_Z {P : Program} {w : World} {K : PySem.W.Frag} {elts : List Expr} {kk : Nat} {tpos : Pos} {z TI TO i1 i2 : Addr} {s1 s2 : Src} (D : Five z TI TO i1 i2) :
    Turn P w K (.Tuple elts kk tpos) (ItZ K s1 s2) [z, TI, TO, i1, i2] z (stZ z TI TO i1 i2 s1 s2) where
  mem := by simp
  obj := fun i h st c hc => by
    obtain ⟨hz, hTI, ⟨x, y, hTO⟩, c1, c2⟩ := st
    have e' : c = z ∨ c = TI ∨ c = TO ∨ c = i1 ∨ c = i2 := by simpa using hc
    rcases e' with rfl | rfl | rfl | rfl | rfl
    · exact ⟨_, hz, fun v q => nomatch q⟩
    · exact ⟨_, hTI, fun v q => nomatch q⟩
    · exact ⟨_, hTO, fun v q => nomatch q⟩
    · exact c1.obj
    · exact c2.obj
  keep := fun i h h' st k => by
    obtain ⟨hz, hTI, ⟨x, y, hTO⟩, c1, c2⟩ := st
    exact ⟨k z (by simp) _ hz, k TI (by simp) _ hTI, ⟨x, y, k TO (by simp) _ hTO⟩, c1.keep fun o q => k i1 (by simp) o q, c2.keep fun o q => k i2 (by simp) o q⟩
  item := by
    intro X hP hw hK hc i pins s σ H E I hf st hg
    subst hP hw hK
    obtain ⟨hz, hTI, ⟨x0, y0, hTO⟩, c1, c2⟩ := st
    obtain ⟨xs, ys, x, y, hx1, hy1, hx, hy⟩ := hg
    have hh : X.A.in1.handled = none := I.ok.hd hc
    obtain ⟨fp1, P1, St1, D1, t1, n1, p1, m1, b1⟩ := src_draws I hh hx1 c1 fun a q => fp_ne I (hf i1 (by simp)) q
    obtain ⟨fp2, P2, St2, D2, t2, n2, p2, m2, b2⟩ := src_draws I hh hy1 c2 fun a q => fp_ne I (hf i2 (by simp)) q
    have S := sep_of I D hf m1 m2 b1 b2
    have hzl : z < s.heap.objs.size := Heap.lt_size hz
    refine wpAny_pyNext_zipD2_item S D1 D2 hz hTI hTO t1 t2 (List.getElem?_eq_some_iff.mp hx).1 (List.getElem?_eq_some_iff.mp hy).1 fun u u2 h' tk q1 q2 z' TO' t1' t2' hT hsz hk => ?_
    obtain ⟨x', ex, ru⟩ := p1 u q1
    rw [hx] at ex; cases ex
    obtain ⟨y', ey, ru2⟩ := p2 u2 q2
    rw [hy] at ey; cases ey
    refine ⟨_, rfl, wpAny_letOwnedTupleGo_zip (s := { s with heap := h', toks := tk }) z' fun h'' z'' sb => ?_⟩
    have hT2 : h''.get? s.heap.objs.size = some { cls := .type "tuple", data := .seq #[u, u2] } := (sb.2 _ (Nat.ne_of_gt hzl)).trans hT
    have new : ObjOk X.prog X.w (upd H s.heap.objs.size (.tup [x, y])) h'' s.heap.objs.size (.tup [x, y]) :=
      ⟨by rw [sizeLine_eq]; show 2 ≤ 16777216; decide, [u, u2], .cons ru (.cons ru2 .nil), ⟨_, hT2, rfl, _, rfl⟩⟩
    have ho : ∀ c o, c ∉ [z, TI, TO, i1, i2] → s.heap.get? c = some o → h''.get? c = some o := fun c o hb q => by
      have nz : c ≠ z := fun e => hb (by simp [e])
      exact (sb.2 c nz).trans (hk c o nz (fun e => hb (by simp [e])) (fun e => hb (by simp [e])) (fun e => hb (by simp [e])) q)
    have I1 := I.turnedNew (t' := tk) ho hf (Nat.le_refl _) new
    refine ⟨.ref s.heap.objs.size, _, I1, rfl, ⟨_, x, y, rfl, I.hok.fresh (Nat.le_refl _), rfl, fun l hl => by rw [src_inj I hl hx1]; exact hx, fun l hl => by rw [src_inj I hl hy1]; exact hy⟩, ⟨z'', ?_, ⟨u, u2, ?_⟩, ?_, ?_⟩, fun c hcm => ?_⟩
    · exact (sb.2 _ D.a).trans (hk _ _ D.a D.c D.d D.e hTI)
    · exact (sb.2 _ D.b).trans TO'
    · exact (n1 h' t1').keep fun o q => (sb.2 _ (Ne.symm D.f)).trans q
    · exact (n2 h' t2').keep fun o q => (sb.2 _ (Ne.symm D.g)).trans q
    · obtain ⟨o1, g1, _⟩ := c1.obj
      obtain ⟨o2, g2, _⟩ := c2.obj
      have hlt : c < s.heap.objs.size := by
        have e' : c = z ∨ c = TI ∨ c = TO ∨ c = i1 ∨ c = i2 := by simpa using hcm
        rcases e' with rfl | rfl | rfl | rfl | rfl
        · exact hzl
        · exact Heap.lt_size hTI
        · exact Heap.lt_size hTO
        · exact Heap.lt_size g1
        · exact Heap.lt_size g2
      rw [upd_ne (Nat.ne_of_lt hlt)]
      exact (hf c hcm).1
  done := by
    intro X hP hw hK hc i pins s σ H E I hf st hg
    subst hP hw hK
    obtain ⟨hz, hTI, ⟨x0, y0, hTO⟩, c1, c2⟩ := st
    obtain ⟨xs, ys, hx1, hy1, l1, l2, hend⟩ := hg
    have hh : X.A.in1.handled = none := I.ok.hd hc
    obtain ⟨fp1, P1, St1, D1, t1, n1, p1, m1, b1⟩ := src_draws I hh hx1 c1 fun a q => fp_ne I (hf i1 (by simp)) q
    obtain ⟨fp2, P2, St2, D2, t2, n2, p2, m2, b2⟩ := src_draws I hh hy1 c2 fun a q => fp_ne I (hf i2 (by simp)) q
    have S := sep_of I D hf m1 m2 b1 b2
    refine wpAny_pyNext_zipD2_end S D1 D2 hz hTI hTO t1 t2 l1 l2 hend fun h' tk hk => ⟨rfl, I.turnedL (t' := tk) (ch := [z, TI, TO, i1, i2]) (fun c o hb q => ?_) hf⟩
    exact hk c o (fun e => hb (by simp [e])) (fun e => hb (by simp [e])) (fun e => hb (by simp [e])) (fun e => hb (by simp [e])) q
  self := fun A i s Q E st h => wpAny_pyIter_zip st.1 h
/-- iter(v) of a source -/
theorem src_begins {X : Cx} {pins : List (Addr × Obj)} {σ : St} {H : Hp} {s : Shared} (I : Inv X pins σ H s) {sr : Src} {xs : List V} {w : V} {u : Value} (h : SrcAt X.K H sr xs) (hv : SrcV sr w) (r : RelV w u) :
    ∃ (o : Obj) (Hh : Heap → Prop), Begins u o Hh ∧ Hh s.heap ∧ ∀ (h' : Heap) (it : Addr), h'.get? it = some o → Cell it 0 h' sr := by
  cases sr with
  | L a =>
    have hv : w = .ref a := hv
    subst hv
    cases r
    obtain ⟨its, rv, p, hz⟩ := I.list h
    exact ⟨_, _, begins_list a its.toArray, p.isList, fun h' it e => ⟨_, e, rfl, rfl⟩⟩
  | T a =>
    have hv : w = .ref a := hv
    subst hv
    cases r
    obtain ⟨its, rv, p, hz⟩ := I.tuple h
    exact ⟨_, _, begins_tuple a its.toArray, p, fun h' it e => ⟨_, e, rfl, rfl⟩⟩
  | S z =>
    have hv : w = .str z := hv
    subst hv
    obtain ⟨t, rfl⟩ := r
    exact ⟨_, _, begins_text z t, trivial, fun h' it e => ⟨t, _, e, rfl, rfl⟩⟩
def iZipG (K : PySem.W.Frag) (ta : TA) : TI := fun σ H R => ta σ H fun vs H1 => ∃ w1 w2 s1 s2 xs ys, vs = [w1, w2] ∧ SrcV s1 w1 ∧ SrcV s2 w2 ∧ SrcAt K H1 s1 xs ∧ SrcAt K H1 s2 ys ∧ R (ItZ K s1 s2) H1
theorem pi_zipG {X : Cx} {e e2 : Expr} {ta : TA} {p pos tpos : Pos} {elts : List Expr} {kk : Nat} (hg : Gl X "zip") (hm : X.mg "zip" = none) (ha : PA X [e, e2] ta)
    (hs : starEach [e, e2] X.env = (false, eval e X.env) :: starEach [e2] X.env := by rfl) (hpl : (backTo pos (starEach [e2] X.env)).any (·.1) = false := by rfl) :
    PI X (.Tuple elts kk tpos) (.Call (.Name "zip" p) [e, e2] [] pos) (iZipG X.K ta) := by
  refine ⟨fun pins s σ H R I h => Call_ (ld_blt I hg hm PyProof.Rows.boot_zip (PyProof.Rows.callWith_type1 (thn (ha.run pos pins s σ H _ I h) fun us t ⟨vs, H1, I1, r1, q1⟩ => ?_) hs hpl))⟩
  obtain ⟨w1, w2, s1, s2, xs, ys, rfl, v1, v2, a1, a2, q⟩ := q1
  obtain ⟨u1, u2, rfl, ru1, ru2⟩ := vals2 r1
  obtain ⟨o1, G1, B1, g1, c1⟩ := src_begins I1 a1 v1 ru1
  obtain ⟨o2, G2, B2, g2, c2⟩ := src_begins I1 a2 v2 ru2
  refine zip_begins2 B1 B2 g1 g2 fun h' hz hTI hTO e1 e2 hsz hk => wpAny_pyIter_zip hz ?_
  generalize hn : t.heap.objs.size = n at *
  have D : Five (n + 4) (n + 2) (n + 3) n (n + 1) := by
    constructor <;> (intro z; have z : (_ : Nat) = _ := z; omega)
  refine ⟨n + 4, [n + 4, n + 2, n + 3, n, n + 1], _, _, H1, rfl, I1.kept (t' := t.toks) hk, turn_Z (s1 := s1) (s2 := s2) D, ⟨hz, hTI, ⟨_, _, hTO⟩, c1 h' n e1, c2 h' (n + 1) e2⟩, fun c hcm => ?_, q⟩
  have hle : t.heap.objs.size ≤ c := by
    have e' : c = n + 4 ∨ c = n + 2 ∨ c = n + 3 ∨ c = n ∨ c = n + 1 := by simpa using hcm
    rw [hn]
    rcases e' with z | z | z | z | z <;> (rw [z]; first | exact Nat.le_add_right _ _ | exact Nat.le_refl _)
  exact I1.fpOk hle (I1.hok.fresh hle)
end G7

set_option Elab.async false
set_option linter.all false
set_option maxRecDepth 100000
set_option autoImplicit false
namespace G7
open PySem PySem.Spec PyProof.Rows L2
set_option maxHeartbeats 1000000 in
/-- enumerate(v) is made, whatever v's iterator is -/
theorem enum_new1 {v : Value} {o : Obj} {G : Heap → Prop} (B : Begins v o G) : Meets (Builtin.«enumerate.__new__» ⟨[.type "enumerate", v], []⟩) fun _ R s => G s.heap ∧
    R (.ok (.ret (.ref (s.heap.push o).objs.size))) { s with heap := (s.heap.push o).push { cls := .type "enumerate", data := .fields #[.none, .bool false, .ref s.heap.objs.size, rawInt 0, .none, .none] } } := by
  refine .of_wp fun prog w A R s hs => ?_
  obtain ⟨hp, g, d, tk, os⟩ := s
  obtain ⟨g1, hR⟩ := hs
  have hsub := sub_enumerate
  have step : ∀ {A' : Around} {E : Value → Shared → Prop} {Q : Value → Shared → Prop}, Q (.ref hp.objs.size) ⟨hp.push o, g, d, tk, os⟩ → wpAny (model prog w) A' (pyIter v) Q E ⟨hp, g, d, tk, os⟩ := fun q =>
    B.iter prog w _ _ ⟨hp, g, d, tk, os⟩ _ g1 q
  wp_walk using step
  refine wpAny_stack_any fun st => wpAny_pure ?_
  split
  · rename_i c _ _ _ _ _
    cases (c == Value.type "enumerate") <;> (wp_walk using step) <;> exact ⟨_, rfl, hR⟩
  · wp_walk using step
    exact ⟨_, rfl, hR⟩
theorem enum_begins1 {prog : Program} {w : World} {A : Around} {E : Value → Shared → Prop} {s : Shared} {v : Value} {o : Obj} {G : Heap → Prop} {Q : Value → Shared → Prop} (B : Begins v o G) (g1 : G s.heap)
    (h : ∀ h', IsEnum h' (s.heap.objs.size + 1) s.heap.objs.size 0 .none → h'.get? s.heap.objs.size = some o → (∀ b o, s.heap.get? b = some o → h'.get? b = some o) → Q (.ref (s.heap.objs.size + 1)) { s with heap := h' }) :
    wpAny (model prog w) A (call (.type "enumerate") [v]) Q E s := by
  refine callType_new PySem.F.called_enumerate (by decide) (PySem.F.typeCall_enumerate_1 _) (PySem.F.newCall_enumerate_1 _) (fun obj => PySem.F.args_object_init_2 obj _) PySem.F.entry_enumerate_new (enum_new1 B) ⟨g1, ?_⟩
  have hz : (s.heap.push o).objs.size = s.heap.objs.size + 1 := Heap.size_push ..
  show _ ∧ _
  rw [hz]
  have he := Heap.get?_push_size (s.heap.push o) (o := { cls := .type "enumerate", data := .fields #[.none, .bool false, .ref s.heap.objs.size, rawInt 0, .none, .none] }) rfl
  rw [hz] at he
  exact ⟨⟨_, he, rfl⟩, h _ he (Heap.get?_push_of_some _ (Heap.get?_push_size _ B.free)) fun b o x => Heap.get?_push_of_some _ (Heap.get?_push_of_some _ x)⟩
/-- an index and an item -/
def ItE (K : PySem.W.Frag) (sr : Src) : It :=
  ⟨fun i H => ∃ (xs : List V) (x : V), SrcAt K H sr xs ∧ xs[i]? = some x,
    fun i H v H' => ∃ T x, v = .ref T ∧ H T = none ∧ H' = upd H T (.tup [.int (i : Nat), x]) ∧ ∀ xs, SrcAt K H sr xs → xs[i]? = some x,
    fun i H => ∃ xs : List V, SrcAt K H sr xs ∧ i = xs.length⟩
def stE (e it : Addr) (sr : Src) (i : Nat) (h : Heap) : Prop := (∃ old, IsEnum h e it ((i : Nat) : Int) old) ∧ Cell it i h sr
theorem turn_E {P : Program} {w : World} {K : PySem.W.Frag} {elts : List Expr} {kk : Nat} {tpos : Pos} {e it : Addr} {sr : Src} (ne : e ≠ it) : Turn P w K (.Tuple elts kk tpos) (ItE K sr) [e, it] e (stE e it sr) where
  mem := by simp
  obj := fun i h st c hc => by
    obtain ⟨⟨old, he⟩, c1⟩ := st
    rcases (by simpa using hc : c = e ∨ c = it) with rfl | rfl
    · exact ⟨_, he, fun v q => nomatch q⟩
    · exact c1.obj
  keep := fun i h h' st k => by
    obtain ⟨⟨old, he⟩, c1⟩ := st
    exact ⟨⟨old, k e (by simp) _ he⟩, c1.keep fun o q => k it (by simp) o q⟩
  item := by
    intro X hP hw hK hc i pins s σ H E I hf st hg
    subst hP hw hK
    obtain ⟨⟨old, he⟩, c1⟩ := st
    obtain ⟨xs, x, hx1, hx⟩ := hg
    have hh : X.A.in1.handled = none := I.ok.hd hc
    obtain ⟨fp1, P1, St1, D1, t1, n1, p1, m1, b1⟩ := src_draws I hh hx1 c1 fun a q => fp_ne I (hf it (by simp)) q
    have nf : e ∉ fp1 := fun hm => by
      rcases b1 e hm with y | y
      · exact ne y
      · exact fp_ne I (hf e (by simp)) y rfl
    have hel : e < s.heap.objs.size := Heap.lt_size he
    refine wpAny_pyNext_enum_itemC D1 he t1 (List.getElem?_eq_some_iff.mp hx).1 ne nf fun u h' tk q1 ho t1' hT hsz hk => ?_
    obtain ⟨x', ex, ru⟩ := p1 u q1
    rw [hx] at ex; cases ex
    refine ⟨_, rfl, wpAny_letOwnedTupleGo_enum (s := { s with heap := h', toks := tk + 1 }) ho fun h'' e'' sb => ?_⟩
    have hT2 : h''.get? s.heap.objs.size = some { cls := .type "tuple", data := .seq #[.int ((i : Nat) : Int) tk, u] } := (sb.2 _ (Nat.ne_of_gt hel)).trans hT
    have new : ObjOk X.prog X.w (upd H s.heap.objs.size (.tup [.int (i : Nat), x])) h'' s.heap.objs.size (.tup [.int (i : Nat), x]) :=
      ⟨by rw [sizeLine_eq]; show 2 ≤ 16777216; decide, [.int ((i : Nat) : Int) tk, u], .cons ⟨_, rfl⟩ (.cons ru .nil), ⟨_, hT2, rfl, _, rfl⟩⟩
    have ho2 : ∀ c o, c ∉ [e, it] → s.heap.get? c = some o → h''.get? c = some o := fun c o hb q => by
      have nz : c ≠ e := fun z => hb (by simp [z])
      exact (sb.2 c nz).trans (hk c o nz (fun z => hb (by simp [z])) q)
    have I1 := I.turnedNew (t' := tk + 1) ho2 hf (Nat.le_refl _) new
    refine ⟨.ref s.heap.objs.size, _, I1, rfl, ⟨_, x, rfl, I.hok.fresh (Nat.le_refl _), rfl, fun l hl => by rw [src_inj I hl hx1]; exact hx⟩, ⟨⟨u, ?_⟩, ?_⟩, fun c hcm => ?_⟩
    · exact e''
    · exact (n1 h' t1').keep fun o q => (sb.2 _ (Ne.symm ne)).trans q
    · obtain ⟨o1, g1, _⟩ := c1.obj
      have hlt : c < s.heap.objs.size := by
        rcases (by simpa using hcm : c = e ∨ c = it) with rfl | rfl
        · exact hel
        · exact Heap.lt_size g1
      rw [upd_ne (Nat.ne_of_lt hlt)]
      exact (hf c hcm).1
  done := by
    intro X hP hw hK hc i pins s σ H E I hf st hg
    subst hP hw hK
    obtain ⟨⟨old, he⟩, c1⟩ := st
    obtain ⟨xs, hx1, rfl⟩ := hg
    have hh : X.A.in1.handled = none := I.ok.hd hc
    obtain ⟨fp1, P1, St1, D1, t1, n1, p1, m1, b1⟩ := src_draws I hh hx1 c1 fun a q => fp_ne I (hf it (by simp)) q
    exact wpAny_pyNext_enum_endD D1 he t1 fun h' hx => ⟨rfl, I.turnedL (t' := s.toks) (ch := [e, it]) (fun c o hb q => hx c o (fun z => hb (by simp [z])) q) hf⟩
  self := fun A i s Q E st h => by
    obtain ⟨⟨old, he⟩, _⟩ := st
    exact wpAny_pyIter_enum he h
def iEnumG (K : PySem.W.Frag) (ta : TA) : TI := fun σ H R => ta σ H fun vs H1 => ∃ w1 s1 xs, vs = [w1] ∧ SrcV s1 w1 ∧ SrcAt K H1 s1 xs ∧ R (ItE K s1) H1
theorem pi_enumG {X : Cx} {e : Expr} {ta : TA} {p pos tpos : Pos} {elts : List Expr} {kk : Nat} (hg : Gl X "enumerate") (hm : X.mg "enumerate" = none) (ha : PA X [e] ta) (hs : starEach [e] X.env = [(false, eval e X.env)] := by rfl) :
    PI X (.Tuple elts kk tpos) (.Call (.Name "enumerate" p) [e] [] pos) (iEnumG X.K ta) := by
  refine ⟨fun pins s σ H R I h => Call_ (ld_blt I hg hm boot_enumerate (PyProof.Rows.callWith_type1 (thn (ha.run pos pins s σ H _ I h) fun us t ⟨vs, H1, I1, r1, q1⟩ => ?_) hs rfl))⟩
  obtain ⟨w1, s1, xs, rfl, v1, a1, q⟩ := q1
  obtain ⟨u1, rfl, ru1⟩ := vals1 r1
  obtain ⟨o1, G1, B1, g1, c1⟩ := src_begins I1 a1 v1 ru1
  refine enum_begins1 B1 g1 fun h' he e1 hk => wpAny_pyIter_enum he ?_
  generalize hn : t.heap.objs.size = n at *
  refine ⟨n + 1, [n + 1, n], _, _, H1, rfl, I1.kept (t' := t.toks) hk, turn_E (sr := s1) (fun z => by have z : (n + 1 : Nat) = n := z; omega), ⟨⟨_, he⟩, c1 h' n e1⟩, fun c hcm => ?_, q⟩
  have hle : t.heap.objs.size ≤ c := by
    rw [hn]
    rcases (by simpa using hcm : c = n + 1 ∨ c = n) with z | z <;> (rw [z]; first | exact Nat.le_add_right _ _ | exact Nat.le_refl _)
  exact I1.fpOk hle (I1.hok.fresh hle)
def seqV : PV → Option (List PV)
  | .lst xs => some xs
  | .tup xs => some xs
  | .scr ns => some (ns.map .int)
  | .str l => some (l.map fun c => .str [c])
  | _ => none
def zipL : List PV → List PV → List PV
  | x :: xs, y :: ys => .tup [x, y] :: zipL xs ys
  | _, _ => []
def enumL (i : Nat) : List PV → List PV
  | [] => []
  | x :: xs => .tup [.int (i : Nat), x] :: enumL (i + 1) xs
def zip2 (f : M (List PV)) : M (List PV) := bnd f fun as => lft (match as with | [a, b] => (seqV a).bind fun xs => (seqV b).map fun ys => zipL xs ys | _ => none)
def enum1 (f : M (List PV)) : M (List PV) := bnd f fun as => lft (match as with | [a] => (seqV a).map (enumL 0) | _ => none)
theorem zipL_len : ∀ xs ys : List PV, (zipL xs ys).length = min xs.length ys.length
  | [], _ => by simp [zipL]
  | _ :: _, [] => by simp [zipL]
  | x :: xs, y :: ys => by
    show (zipL xs ys).length + 1 = min (xs.length + 1) (ys.length + 1)
    rw [zipL_len xs ys]; omega
theorem zipL_get : ∀ {xs ys : List PV} {i : Nat} {v : PV}, (zipL xs ys)[i]? = some v → ∃ x y, xs[i]? = some x ∧ ys[i]? = some y ∧ v = .tup [x, y]
  | [], _, _, _, h => by simp [zipL] at h
  | _ :: _, [], _, _, h => by simp [zipL] at h
  | x :: xs, y :: ys, 0, v, h => by simp [zipL] at h; exact ⟨x, y, rfl, rfl, h.symm⟩
  | x :: xs, y :: ys, i + 1, v, h => by
    rw [zipL, List.getElem?_cons_succ] at h
    exact zipL_get (xs := xs) (ys := ys) (i := i) (v := v) h
theorem enumL_len : ∀ (xs : List PV) (i : Nat), (enumL i xs).length = xs.length
  | [], _ => rfl
  | x :: xs, i => congrArg (· + 1) (enumL_len xs (i + 1))
theorem enumL_get : ∀ {xs : List PV} {k i : Nat} {v : PV}, (enumL k xs)[i]? = some v → ∃ x, xs[i]? = some x ∧ v = .tup [.int ((k + i : Nat) : Int), x]
  | [], _, _, _, h => by simp [enumL] at h
  | x :: xs, k, 0, v, h => by simp [enumL] at h; exact ⟨x, rfl, h.symm⟩
  | x :: xs, k, i + 1, v, h => by
    rw [enumL, List.getElem?_cons_succ] at h
    obtain ⟨y, h1, h2⟩ := enumL_get (xs := xs) (k := k + 1) (i := i) (v := v) h
    exact ⟨y, h1, by rw [h2]; congr 4; omega⟩
section
variable {K : PySem.W.Frag} {Ex : Nat → Hp → Prop} {F H : Hp} {σ : St} {ρ : Env}
theorem reps_ints : ∀ ns : List Int, Reps K F (ns.map V.int) (ns.map .int)
  | [] => .nil
  | n :: ns => .cons (.int n) (reps_ints ns)
theorem reps_signs : ∀ {l : List Nat}, (∀ c ∈ l, c < 1114112) → Reps K F (l.map fun c => V.str ⟨#[c]⟩) (l.map fun c => .str [c])
  | [], _ => .nil
  | n :: ns, q => .cons (.str (l := [n]) fun c hc => q c (by simp at hc; simp [hc])) (reps_signs fun c hc => q c (List.mem_cons_of_mem _ hc))
theorem rep_src {w : V} {v : PV} {xs : List PV} (r : Rep K F w v) (e : seqV v = some xs) : ∃ sr vs, SrcV sr w ∧ SrcAt K F sr vs ∧ Reps K F vs xs := by
  unfold seqV at e
  split at e
  · cases e
    cases r with | lst a b => exact ⟨.L _, _, rfl, .of a, b⟩
  · cases e
    cases r with | tup a b => exact ⟨.T _, _, rfl, a, b⟩
  · cases e
    cases r with | scr q => exact ⟨.L _, _, rfl, q, reps_ints _⟩
  · cases e
    cases r with | str q => exact ⟨.S _, _, rfl, rfl, reps_signs q⟩
  · cases e
theorem Walks.zip {s1 s2 : Src} {vs us : List V} {xs ys : List PV} (h1 : SrcAt K F s1 vs) (h2 : SrcAt K F s2 us) (r1 : Reps K F vs xs) (r2 : Reps K F us ys) : Walks K F (ItZ K s1 s2) [] (zipL xs ys) := by
  intro F1 H a b _
  have q1 := (h1.mono a).mono b
  have q2 := (h2.mono a).mono b
  refine ⟨fun i x e => ?_, vs, us, q1, q2, ?_, ?_, ?_⟩
  · obtain ⟨x', y', ex, ey, rfl⟩ := zipL_get e
    obtain ⟨w, ew, rw'⟩ := r1.get ex
    obtain ⟨u, eu, ru⟩ := r2.get ey
    refine ⟨⟨vs, us, w, u, q1, q2, ew, eu⟩, fun z H' hy => ?_⟩
    obtain ⟨T, w', u', rfl, nT, rfl, k1, k2⟩ := hy
    have e1 : w' = w := Option.some.inj ((k1 _ q1).symm.trans ew)
    have e2 : u' = u := Option.some.inj ((k2 _ q2).symm.trans eu)
    subst e1 e2
    have g := Grow.new (o := .tup [w', u']) b nT
    exact ⟨_, g, .tup (.of upd_same) (.cons (rw'.mono (a.trans g.f)) (.cons (ru.mono (a.trans g.f)) .nil))⟩
  · rw [zipL_len, r1.len]; omega
  · rw [zipL_len, r2.len]; omega
  · rw [zipL_len, r1.len, r2.len]; omega
theorem Walks.enum {s1 : Src} {vs : List V} {xs : List PV} (h1 : SrcAt K F s1 vs) (r1 : Reps K F vs xs) : Walks K F (ItE K s1) [] (enumL 0 xs) := by
  intro F1 H a b _
  have q1 := (h1.mono a).mono b
  refine ⟨fun i x e => ?_, vs, q1, ?_⟩
  · obtain ⟨x', ex, rfl⟩ := enumL_get e
    obtain ⟨w, ew, rw'⟩ := r1.get ex
    refine ⟨⟨vs, w, q1, ew⟩, fun z H' hy => ?_⟩
    obtain ⟨T, w', rfl, nT, rfl, k1⟩ := hy
    have e1 : w' = w := Option.some.inj ((k1 _ q1).symm.trans ew)
    subst e1
    have g := Grow.new (o := .tup [.int (i : Nat), w']) b nT
    rw [Nat.zero_add]
    exact ⟨_, g, .tup (.of upd_same) (.cons (.int _) (.cons (rw'.mono (a.trans g.f)) .nil))⟩
  · rw [enumL_len, r1.len]
theorem i_zip {f : M (List PV)} {R : It → Hp → Prop} (h : tI K Ex (zip2 f) σ H R) : iZipG K (tA K Ex f) σ H R := by
  obtain ⟨F, ρ, h⟩ := h
  refine ⟨F, ρ, (At.bnd (R := RVs K) h).mono fun x H1 ⟨F1, ρ1, v, st, r, h1⟩ => ?_⟩
  obtain ⟨xs, e, q⟩ := At.lft h1
  split at e
  · rename_i a b
    cases ea : seqV a with
    | none => rw [ea] at e; cases e
    | some as =>
      cases eb : seqV b with
      | none => rw [ea, eb] at e; cases e
      | some bs =>
        rw [ea, eb] at e; cases e
        have r : Reps K F1 x [a, b] := r
        cases r with
        | cons ra r =>
          cases r with
          | cons rb r =>
            cases r
            obtain ⟨s1, vs, v1, a1, r1⟩ := rep_src ra ea
            obtain ⟨s2, us, v2, a2, r2⟩ := rep_src rb eb
            exact ⟨_, _, s1, s2, vs, us, rfl, v1, v2, a1.mono h1.1.le, a2.mono h1.1.le, q _ F1 H1 (Step.refl h1.1) ⟨[], Walks.zip a1 a2 r1 r2, fun p hp => by simp at hp⟩⟩
  · cases e
theorem i_enum {f : M (List PV)} {R : It → Hp → Prop} (h : tI K Ex (enum1 f) σ H R) : iEnumG K (tA K Ex f) σ H R := by
  obtain ⟨F, ρ, h⟩ := h
  refine ⟨F, ρ, (At.bnd (R := RVs K) h).mono fun x H1 ⟨F1, ρ1, v, st, r, h1⟩ => ?_⟩
  obtain ⟨xs, e, q⟩ := At.lft h1
  split at e
  · rename_i a
    cases ea : seqV a with
    | none => rw [ea] at e; cases e
    | some as =>
      rw [ea] at e; cases e
      have r : Reps K F1 x [a] := r
      cases r with
      | cons ra r =>
        cases r
        obtain ⟨s1, vs, v1, a1, r1⟩ := rep_src ra ea
        exact ⟨_, s1, vs, rfl, v1, a1.mono h1.1.le, q _ F1 H1 (Step.refl h1.1) ⟨[], Walks.enum a1 r1, fun p hp => by simp at hp⟩⟩
  · cases e
end
section
variable {X : Cx} {Ex : Nat → Hp → Prop} {e e2 : Expr} {pos p tpos : Pos} {elts : List Expr} {kk : Nat} {ga : M (List PV)}
theorem di_zip (hg : Gl X "zip") (hm : X.mg "zip" = none) (ha : PA X [e, e2] (tA X.K Ex ga)) (hs : starEach [e, e2] X.env = (false, eval e X.env) :: starEach [e2] X.env := by rfl) (hpl : (backTo pos (starEach [e2] X.env)).any (·.1) = false := by rfl) :
    PI X (.Tuple elts kk tpos) (.Call (.Name "zip" p) [e, e2] [] pos) (tI X.K Ex (zip2 ga)) := pi_weak (pi_zipG hg hm ha hs hpl) fun _ _ _ => i_zip
theorem di_enum (hg : Gl X "enumerate") (hm : X.mg "enumerate" = none) (ha : PA X [e] (tA X.K Ex ga)) (hs : starEach [e] X.env = [(false, eval e X.env)] := by rfl) :
    PI X (.Tuple elts kk tpos) (.Call (.Name "enumerate" p) [e] [] pos) (tI X.K Ex (enum1 ga)) := pi_weak (pi_enumG hg hm ha hs) fun _ _ _ => i_enum
end
end G7

set_option Elab.async false
set_option linter.all false
set_option maxRecDepth 100000
set_option autoImplicit false
namespace G7
open PySem PySem.Spec PyProof.Rows L2
def ownL (i : Nat) : M (List PV) := fun ρ => match ρ[i]? with | some (some (.own (.lst xs))) => .ok xs ρ | _ => .bad
def ownD (i : Nat) : M (List (PV × PV)) := fun ρ => match ρ[i]? with | some (some (.own (.dct xs))) => .ok xs ρ | _ => .bad
def putL (i : Nat) (xs : List PV) : M Unit := wr i (some (.own (.lst xs)))
def appM (i : Nat) (f : M PV) : M Out := bnd (ownL i) fun _ => bnd f fun v => bnd (ownL i) fun xs => if xs.length < LINE then bnd (putL i (xs ++ [v])) fun _ => ret .nx else fun _ => .bad
def extM (i : Nat) (f : M PV) : M Out := bnd (ownL i) fun _ => bnd f fun v => bnd (ownL i) fun xs => match v with | .lst ys => if xs.length + ys.length ≤ LINE then bnd (putL i (xs ++ ys)) fun _ => ret .nx else fun _ => .bad | _ => fun _ => .bad
def popM (i : Nat) : M PV := bnd (ownL i) fun xs => match xs.getLast? with | some y => bnd (putL i xs.dropLast) fun _ => ret y | none => fun _ => .bad
def popAtM (i : Nat) (f : M PV) : M PV := bnd (ownL i) fun _ => bnd f fun v => bnd (ownL i) fun xs => match v with
  | .int (.ofNat k) => if k < xs.length && decide (k < LINE) then (match xs[k]? with | some y => bnd (putL i (xs.eraseIdx k)) fun _ => ret y | none => fun _ => .bad) else fun _ => .bad
  | _ => fun _ => .bad
def setItM (i : Nat) (fk fv : M PV) : M Out := bnd (ownL i) fun _ => bnd fv fun v => bnd fk fun k => bnd (ownL i) fun xs => match k with
  | .int k => (match ixN xs.length k with | some j => bnd (putL i (xs.set j v)) fun _ => ret .nx | none => fun _ => .bad)
  | _ => fun _ => .bad
def augItM (i : Nat) (fk fv : M PV) : M Out := bnd (ownL i) fun _ => bnd fk fun k => bnd (ownL i) fun xs0 => bnd (lft (getV (.lst xs0) k)) fun old => bnd fv fun v => bnd (lft (match old, v with | .int a, .int b => some (PV.int (a + b)) | _, _ => none)) fun new => bnd (ownL i) fun xs => match k with
  | .int k => (match ixN xs.length k with | some j => bnd (putL i (xs.set j new)) fun _ => ret .nx | none => fun _ => .bad)
  | _ => fun _ => .bad
def putDM (i : Nat) (fk fv : M PV) : M Out := bnd (ownD i) fun _ => bnd fv fun v => bnd fk fun k => bnd (ownD i) fun kvs => if keyOk k && decide (kvs.length < LINE) then bnd (wr i (some (.own (.dct (putD k v kvs))))) fun _ => ret .nx else fun _ => .bad

section
variable {K : PySem.W.Frag} {Ex : Nat → Hp → Prop} {J : List Nat} {F F1 F' H H1 H' : Hp} {σ σ1 σ' : St} {ρ ρ1 : Env}
theorem RE.putO (r : RE K F σ H ρ) {i : Nat} {v v' : PV} {a : Addr} {o : HO} (e : ρ[i]? = some (some (Sl.own v))) (ea : σ[i]? = some (some (V.ref a))) (ow : Own K F (upd H a o) a v') :
    Step K F σ H ρ F σ (upd H a o) (ρ.set i (some (.own v'))) := by
  obtain ⟨a', h1, h2, h3⟩ := r.own i v e
  rw [ea] at h1; cases h1
  have hi : i < ρ.length := (List.getElem?_eq_some_iff.mp e).1
  refine ⟨Same.refl _, fun b u q n => ?_, fun b q => ?_, fun b z => ?_, fun b u q => .inl q, rfl, ⟨fun b u q => ?_, fun j u q => ?_, fun j u q => ?_, fun j k u u' b q q' q3 q4 => ?_, by rw [List.length_set]; exact r.len⟩⟩
  · rw [upd_ne (fun z => n ⟨i, v, e, by rw [z]; exact ea⟩)]; exact q
  · by_cases hb : b = a
    · subst hb; rw [upd_same]; simp
    · rw [upd_ne hb]; exact q
  · obtain ⟨j, u, q1, q2⟩ := z
    rcases set_len q1 with ⟨rfl, _, _⟩ | ⟨_, q1⟩
    · exact .inl ⟨j, v, e, q2⟩
    · exact .inl ⟨j, u, q1, q2⟩
  · rw [upd_ne (ne_of_none q h2)]; exact r.le b u q
  · rcases set_len q with ⟨rfl, _, z⟩ | ⟨nj, q⟩
    · cases z
    · exact r.val j u q
  · rcases set_len q with ⟨rfl, _, z⟩ | ⟨nj, q⟩
    · cases z
      exact ⟨a, ea, h2, ow⟩
    · obtain ⟨b, q1, q2, q3⟩ := r.own j u q
      have nb : b ≠ a := fun z => by subst z; exact nj (r.inj j i u v b q e q1 ea)
      exact ⟨b, q1, q2, q3.mono (Same.refl _) (upd_ne nb)⟩
  · rcases set_len q with ⟨rfl, _, _⟩ | ⟨nj, q0⟩
    · rcases set_len q' with ⟨rfl, _, _⟩ | ⟨nk, q'⟩
      · rfl
      · exact r.inj j k v u' b e q' q3 q4
    · rcases set_len q' with ⟨rfl, _, _⟩ | ⟨nk, q'⟩
      · exact r.inj j k u v b q0 e q3 q4
      · exact r.inj j k u u' b q0 q' q3 q4
theorem ownL_ok {i : Nat} {xs : List PV} {ρ' : Env} (h : ownL i ρ = .ok xs ρ') : ρ' = ρ ∧ ρ[i]? = some (some (Sl.own (.lst xs))) := by
  unfold ownL at h
  split at h
  · rename_i ys q; cases h; exact ⟨rfl, q⟩
  · cases h
theorem ownD_ok {i : Nat} {xs : List (PV × PV)} {ρ' : Env} (h : ownD i ρ = .ok xs ρ') : ρ' = ρ ∧ ρ[i]? = some (some (Sl.own (.dct xs))) := by
  unfold ownD at h
  split at h
  · rename_i ys q; cases h; exact ⟨rfl, q⟩
  · cases h
theorem ownL_no {i c : Nat} {ρ' : Env} : ownL i ρ ≠ .exc c ρ' := fun h => by
  unfold ownL at h
  split at h <;> cases h
theorem ownD_no {i c : Nat} {ρ' : Env} : ownD i ρ ≠ .exc c ρ' := fun h => by
  unfold ownD at h
  split at h <;> cases h
/-- the slot's list, as it stands -/
theorem SAt.ownL {i : Nat} {k : List PV → M Out} {D : Ends} (h : SAt K Ex J F ρ (G7.bnd (G7.ownL i) k) σ H D) : ∃ xs a vs, ρ[i]? = some (some (Sl.own (.lst xs))) ∧ σ[i]? = some (some (V.ref a)) ∧ F a = none ∧ H a = some (.lst vs) ∧ Reps K F vs xs ∧ SAt K Ex J F ρ (k xs) σ H D := by
  obtain ⟨hr, h⟩ := h
  unfold G7.bnd at h
  cases e : G7.ownL i ρ with
  | ok xs ρ' =>
    obtain ⟨e1, q⟩ := ownL_ok e
    subst e1
    rw [e] at h
    obtain ⟨a, h1, h2, vs, h3, h4⟩ := hr.own i _ q
    exact ⟨xs, a, vs, q, h1, h2, h3, h4, hr, h⟩
  | exc c r => exact absurd e ownL_no
  | bad => rw [e] at h; exact h.elim
theorem SAt.ownD {i : Nat} {k : List (PV × PV) → M Out} {D : Ends} (h : SAt K Ex J F ρ (G7.bnd (G7.ownD i) k) σ H D) : ∃ xs a vs, ρ[i]? = some (some (Sl.own (.dct xs))) ∧ σ[i]? = some (some (V.ref a)) ∧ F a = none ∧ H a = some (.dK vs) ∧ RepD K F vs xs ∧ SAt K Ex J F ρ (k xs) σ H D := by
  obtain ⟨hr, h⟩ := h
  unfold G7.bnd at h
  cases e : G7.ownD i ρ with
  | ok xs ρ' =>
    obtain ⟨e1, q⟩ := ownD_ok e
    subst e1
    rw [e] at h
    obtain ⟨a, h1, h2, vs, h3, h4⟩ := hr.own i _ q
    exact ⟨xs, a, vs, q, h1, h2, h3, h4, hr, h⟩
  | exc c r => exact absurd e ownD_no
  | bad => rw [e] at h; exact h.elim
theorem At.ownL {α β : Type} {R : Hp → Hp → St → Env → β → α → Prop} {i : Nat} {k : List PV → M α} {Q : β → Hp → Prop} (h : At K Ex R F ρ (G7.bnd (G7.ownL i) k) σ H Q) : ∃ xs a vs, ρ[i]? = some (some (Sl.own (.lst xs))) ∧ σ[i]? = some (some (V.ref a)) ∧ F a = none ∧ H a = some (.lst vs) ∧ Reps K F vs xs ∧ At K Ex R F ρ (k xs) σ H Q := by
  obtain ⟨hr, h⟩ := h
  unfold G7.bnd at h
  cases e : G7.ownL i ρ with
  | ok xs ρ' =>
    obtain ⟨e1, q⟩ := ownL_ok e
    subst e1
    rw [e] at h
    obtain ⟨a, h1, h2, vs, h3, h4⟩ := hr.own i _ q
    exact ⟨xs, a, vs, q, h1, h2, h3, h4, hr, h⟩
  | exc c r => exact absurd e ownL_no
  | bad => rw [e] at h; exact h.elim
/-- a change of the slot's list ends a statement -/
theorem SAt.put {i : Nat} {xs : List PV} {v : PV} {a : Addr} {o : HO} {D : Ends} (h : SAt K Ex J F ρ (G7.bnd (wr i (some (.own v))) fun _ => G7.ret .nx) σ H D) (e : ρ[i]? = some (some (Sl.own (.lst xs)))) (ea : σ[i]? = some (some (V.ref a))) (ow : Own K F (upd H a o) a v) : D.nx σ (upd H a o) :=
  h.2 F σ _ (h.1.putO e ea ow) Keep.refl
theorem SAt.putD {i : Nat} {xs : List (PV × PV)} {v : PV} {a : Addr} {o : HO} {D : Ends} (h : SAt K Ex J F ρ (G7.bnd (wr i (some (.own v))) fun _ => G7.ret .nx) σ H D) (e : ρ[i]? = some (some (Sl.own (.dct xs)))) (ea : σ[i]? = some (some (V.ref a))) (ow : Own K F (upd H a o) a v) : D.nx σ (upd H a o) :=
  h.2 F σ _ (h.1.putO e ea ow) Keep.refl
theorem s_app {i : Nat} {f : M PV} {D : Ends} (h : sX K Ex J (appM i f) D σ H) : tDrop (tBM K "list" rAppend (tVar i) (tCons (tX K Ex f) tNil)) D σ H := by
  obtain ⟨F, ρ, h⟩ := h
  obtain ⟨xs, a, vs, e1, e2, e3, e4, e5, h1⟩ := SAt.ownL h
  refine ⟨.ref a, e2, .inl ⟨rfl, vs, .of e4⟩, F, ρ, (SAt.bnd (R := RV K) h1).mono fun w H1 ⟨F1, ρ1, v, st, r, h2⟩ => ?_⟩
  obtain ⟨ys, b, us, q1, q2, q3, q4, q5, h3⟩ := SAt.ownL h2
  rw [e2] at q2; cases q2
  by_cases hl : ys.length < LINE
  · rw [if_pos hl] at h3
    exact ⟨a, us, w, rfl, rfl, q4, by rw [q5.len, line_eq]; exact hl, SAt.put (xs := ys) h3 q1 e2 ⟨_, upd_same, q5.app (.cons r .nil)⟩⟩
  · rw [if_neg hl] at h3; exact h3.2.elim
theorem s_ext {i : Nat} {f : M PV} {D : Ends} (h : sX K Ex J (extM i f) D σ H) : tDrop (tBM K "list" rExtend (tVar i) (tCons (tX K Ex f) tNil)) D σ H := by
  obtain ⟨F, ρ, h⟩ := h
  obtain ⟨xs, a, vs, e1, e2, e3, e4, e5, h1⟩ := SAt.ownL h
  refine ⟨.ref a, e2, .inl ⟨rfl, vs, .of e4⟩, F, ρ, (SAt.bnd (R := RV K) h1).mono fun w H1 ⟨F1, ρ1, v, st, r, h2⟩ => ?_⟩
  obtain ⟨ys, b, us, q1, q2, q3, q4, q5, h3⟩ := SAt.ownL h2
  rw [e2] at q2; cases q2
  cases v <;> first | exact h3.2.elim | skip
  rename_i zs
  by_cases hl : ys.length + zs.length ≤ LINE
  · simp only at h3
    rw [if_pos hl] at h3
    have r : Rep K F1 w (.lst zs) := r
    cases r with
    | @lst b ws _ r1 r2 => exact ⟨a, b, us, ws, rfl, rfl, q4, h2.1.le _ _ r1, by rw [q5.len, r2.len, line_eq]; exact hl, SAt.put (xs := ys) h3 q1 e2 ⟨_, upd_same, q5.app r2⟩⟩
  · simp only at h3
    rw [if_neg hl] at h3; exact h3.2.elim
theorem s_setIt {i : Nat} {fk fv : M PV} {D : Ends} (h : sX K Ex J (setItM i fk fv) D σ H) : tAsg (tX K Ex fv) (gSub (tVar i) (tX K Ex fk) rSetL) D σ H := by
  obtain ⟨F, ρ, h⟩ := h
  obtain ⟨xs, a, vs, e1, e2, e3, e4, e5, h1⟩ := SAt.ownL h
  refine ⟨F, ρ, (SAt.bnd (R := RV K) h1).mono fun w H1 ⟨F1, ρ1, v, st, r, h2⟩ => ?_⟩
  refine ⟨.ref a, e2, F1, ρ1, (SAt.bnd (R := RV K) h2).mono fun wk H2 ⟨F2, ρ2, k, st2, rk, h3⟩ => ?_⟩
  obtain ⟨ys, b, us, q1, q2, q3, q4, q5, h4⟩ := SAt.ownL h3
  rw [e2] at q2; cases q2
  cases k <;> first | exact h4.2.elim | skip
  rename_i k
  have rk : Rep K F2 wk (.int k) := rk
  cases rk
  simp only at h4
  cases ei : ixN ys.length k with
  | none => rw [ei] at h4; exact h4.2.elim
  | some j =>
    rw [ei] at h4
    exact ⟨a, us, k, j, rfl, rfl, q4, by rw [q5.len]; exact ei, SAt.put (xs := ys) h4 q1 e2 ⟨_, upd_same, q5.set j (Rep.mono st2.le r)⟩⟩
theorem s_augIt {i : Nat} {fk fv : M PV} {D : Ends} (h : sX K Ex J (augItM i fk fv) D σ H) :
    tAugS (tVar i) (tX K Ex fk) (tX K Ex fv) (fun o ix H Q => rIxL K o ix H Q) (ipI fun i j => i + j) rSetL D σ H := by
  obtain ⟨F, ρ, h⟩ := h
  obtain ⟨xs, a, vs, e1, e2, e3, e4, e5, h1⟩ := SAt.ownL h
  refine ⟨.ref a, e2, F, ρ, (SAt.bnd (R := RV K) h1).mono fun wk H1 ⟨F1, ρ1, k, st, rk, h2⟩ => ?_⟩
  obtain ⟨ys, b, us, q1, q2, q3, q4, q5, h3⟩ := SAt.ownL h2
  rw [e2] at q2; cases q2
  cases k <;> first | exact h3.2.elim | skip
  rename_i k
  have rk : Rep K F1 wk (.int k) := rk
  cases rk
  have h3' : SAt K Ex J F1 ρ1 (G7.bnd (G7.lft (atI ys k)) fun old => G7.bnd fv fun v => G7.bnd (G7.lft (match old, v with | .int a, .int b => some (PV.int (a + b)) | _, _ => none)) fun new => G7.bnd (G7.ownL i) fun xs =>
      (match ixN xs.length k with | some j => G7.bnd (putL i (xs.set j new)) fun _ => G7.ret .nx | none => fun _ => .bad)) σ H1 D := h3
  cases eo : atI ys k with
  | none => rw [eo] at h3'; exact h3'.2.elim
  | some old =>
    rw [eo] at h3'
    obtain ⟨wo, ew, ro⟩ := atI_rep q5 eo
    refine ⟨a, us, k, wo, rfl, rfl, .of q4, ew, ?_⟩
    have h5 : SAt K Ex J F1 ρ1 (G7.bnd fv fun v => G7.bnd (G7.lft (match old, v with | .int a, .int b => some (PV.int (a + b)) | _, _ => none)) fun new => G7.bnd (G7.ownL i) fun xs =>
      (match ixN xs.length k with | some j => G7.bnd (putL i (xs.set j new)) fun _ => G7.ret .nx | none => fun _ => .bad)) σ H1 D := h3'
    refine ⟨F1, ρ1, (SAt.bnd (R := RV K) h5).mono fun wv H2 ⟨F2, ρ2, v, st2, rv, h6⟩ => ?_⟩
    cases old with
    | int x =>
      cases v with
      | int y =>
        cases ro
        have rv : Rep K F2 wv (.int y) := rv
        cases rv
        refine ⟨x, y, rfl, rfl, ?_⟩
        have h7 : SAt K Ex J F2 ρ2 (G7.bnd (G7.ownL i) fun xs => (match ixN xs.length k with | some j => G7.bnd (putL i (xs.set j (.int (x + y)))) fun _ => G7.ret .nx | none => fun _ => .bad)) σ H2 D := h6
        obtain ⟨zs, b, ws, p1, p2, p3, p4, p5, h8⟩ := SAt.ownL h7
        rw [e2] at p2; cases p2
        cases ei : ixN zs.length k with
        | none => rw [ei] at h8; exact h8.2.elim
        | some j =>
          rw [ei] at h8
          exact ⟨a, ws, k, j, rfl, rfl, p4, by rw [p5.len]; exact ei, SAt.put (xs := zs) h8 p1 e2 ⟨_, upd_same, p5.set j (.int _)⟩⟩
      | _ => exact h6.2.elim
    | _ => exact h6.2.elim
theorem s_putD {i : Nat} {fk fv : M PV} {D : Ends} (h : sX K Ex J (putDM i fk fv) D σ H) : sDPut (tVar i) (tX K Ex fk) (tX K Ex fv) D σ H := by
  obtain ⟨F, ρ, h⟩ := h
  obtain ⟨xs, a, vs, e1, e2, e3, e4, e5, h1⟩ := SAt.ownD h
  refine ⟨F, ρ, (SAt.bnd (R := RV K) h1).mono fun w H1 ⟨F1, ρ1, v, st, r, h2⟩ => ?_⟩
  refine ⟨.ref a, e2, F1, ρ1, (SAt.bnd (R := RV K) h2).mono fun wk H2 ⟨F2, ρ2, k, st2, rk, h3⟩ => ?_⟩
  obtain ⟨ys, b, us, q1, q2, q3, q4, q5, h4⟩ := SAt.ownD h3
  rw [e2] at q2; cases q2
  by_cases hk : (keyOk k && decide (ys.length < LINE)) = true
  · rw [if_pos hk] at h4
    rw [Bool.and_eq_true, decide_eq_true_eq] at hk
    obtain ⟨kk, rfl, kp⟩ := SRep.key (SRep.up (H := H2) rk) hk.1
    exact ⟨a, _, rfl, DPut.k q4 (by rw [q5.len, line_eq]; exact hk.2), SAt.putD (xs := ys) h4 q1 e2 ⟨_, upd_same, q5.put kp (Rep.mono st2.le r)⟩⟩
  · rw [if_neg hk] at h4; exact h4.2.elim
theorem x_pop {i : Nat} {Q : VK} (h : tX K Ex (popM i) σ H Q) : tBM0 K "list" rPop (tVar i) σ H Q := by
  obtain ⟨F, ρ, h⟩ := h
  obtain ⟨xs, a, vs, e1, e2, e3, e4, e5, h1⟩ := At.ownL h
  refine ⟨.ref a, e2, .inl ⟨rfl, vs, .of e4⟩, ?_⟩
  cases el : xs.getLast? with
  | none => rw [el] at h1; exact h1.2.elim
  | some y =>
    rw [el] at h1
    have hl : xs[xs.length - 1]? = some y := by rw [← List.getLast?_eq_getElem?]; exact el
    obtain ⟨w, ew, rw'⟩ := e5.get hl
    refine ⟨a, vs, w, rfl, rfl, e4, by rw [e5.len]; exact ew, ?_⟩
    have dl : Reps K F vs.dropLast xs.dropLast := by
      rw [List.dropLast_eq_take, List.dropLast_eq_take, e5.len]
      exact e5.take _
    exact h1.2 w F _ (h1.1.putO e1 e2 ⟨_, upd_same, dl⟩) rw'
theorem Reps.erase {F : Hp} : ∀ {vs : List V} {xs : List PV} (k : Nat), Reps K F vs xs → Reps K F (vs.eraseIdx k) (xs.eraseIdx k)
  | _, _, _, .nil => .nil
  | _, _, 0, .cons _ t => t
  | _, _, k + 1, .cons r t => .cons r (Reps.erase k t)
theorem x_popAt {i : Nat} {f : M PV} {Q : VK} (h : tX K Ex (popAtM i f) σ H Q) : tBM K "list" rPopAt (tVar i) (tCons (tX K Ex f) tNil) σ H Q := by
  obtain ⟨F, ρ, h⟩ := h
  obtain ⟨xs, a, vs, e1, e2, e3, e4, e5, h1⟩ := At.ownL h
  refine ⟨.ref a, e2, .inl ⟨rfl, vs, .of e4⟩, F, ρ, (At.bnd (R := RV K) h1).mono fun w H1 ⟨F1, ρ1, v, st, r, h2⟩ => ?_⟩
  obtain ⟨ys, b, us, q1, q2, q3, q4, q5, h3⟩ := At.ownL h2
  rw [e2] at q2; cases q2
  cases v <;> first | exact h3.2.elim | skip
  rename_i k
  cases k with
  | negSucc k => exact h3.2.elim
  | ofNat k =>
    have r : Rep K F1 w (.int (Int.ofNat k)) := r
    cases r
    simp only at h3
    by_cases hk : (decide (k < ys.length) && decide (k < LINE)) = true
    · rw [if_pos hk] at h3
      rw [Bool.and_eq_true, decide_eq_true_eq, decide_eq_true_eq] at hk
      cases ey : ys[k]? with
      | none => rw [ey] at h3; exact h3.2.elim
      | some y =>
        rw [ey] at h3
        obtain ⟨wy, ew, rw'⟩ := q5.get ey
        exact ⟨a, us, Int.ofNat k, k, wy, rfl, rfl, q4, by have := Int.natCast_nonneg k; show -(2 ^ 63) ≤ ((k : Nat) : Int); omega, by show ((k : Nat) : Int) < 2 ^ 63; have hk2 : k < 16777216 := hk.2; omega, by rw [q5.len]; exact seqIndex_of (Int.natCast_nonneg k) (by show ((k : Nat) : Int) < _; omega), ew, h3.2 wy F1 _ (h3.1.putO q1 e2 ⟨_, upd_same, q5.erase k⟩) rw'⟩
    · rw [if_neg hk] at h3; exact h3.2.elim
end
section
variable {X : Cx} {Ex : Nat → Hp → Prop} {J : List Nat} {o e ek ev : Expr} {pos apos cpos tpos : Pos} {f fk fv : M PV} {i : Nat}
theorem ds_app (ho : PE X o (tVar i)) (he : PE X e (tX X.K Ex f)) (hbase : attributeBase o "append" X.env (eval o X.env) = eval o X.env := by rfl)
    (hfew : ((backTo cpos (starEach [e] X.env)).all (fun x => !x.1) && (backToKw cpos (keywordEach [] X.env)).all (fun x => x.1.isSome) && decide ([e].length + ([] : List Keyword).length + (if ([] : List Keyword).isEmpty then 0 else 1) < 30)) = true := by rfl)
    (hline : (apos.endLine == cpos.line) = true := by rfl) (hs : starEach [e] X.env = (false, eval e X.env) :: starEach [] X.env := by rfl) (hplain : (backTo cpos (starEach [] X.env)).any (·.1) = false := by rfl)
    (hsw : swapsWith (.Call (.Attribute o "append" apos) [e] [] cpos) none pos.line X.env = pure false := by rfl) : PS X (.Expr (.Call (.Attribute o "append" apos) [e] [] cpos) pos) (sX X.K Ex J (appM i f)) :=
  ps_weak (ps_expr (pe_bm PySem.F.plainAttrs_list PySem.F.slot_list_append PySem.F.type_list_append mt_append ho (pa_cons he pa_nil hs) hbase hfew hline hs hplain) hsw) fun _ _ _ => s_app
theorem ds_ext (ho : PE X o (tVar i)) (he : PE X e (tX X.K Ex f)) (hbase : attributeBase o "extend" X.env (eval o X.env) = eval o X.env := by rfl)
    (hfew : ((backTo cpos (starEach [e] X.env)).all (fun x => !x.1) && (backToKw cpos (keywordEach [] X.env)).all (fun x => x.1.isSome) && decide ([e].length + ([] : List Keyword).length + (if ([] : List Keyword).isEmpty then 0 else 1) < 30)) = true := by rfl)
    (hline : (apos.endLine == cpos.line) = true := by rfl) (hs : starEach [e] X.env = (false, eval e X.env) :: starEach [] X.env := by rfl) (hplain : (backTo cpos (starEach [] X.env)).any (·.1) = false := by rfl)
    (hsw : swapsWith (.Call (.Attribute o "extend" apos) [e] [] cpos) none pos.line X.env = pure false := by rfl) : PS X (.Expr (.Call (.Attribute o "extend" apos) [e] [] cpos) pos) (sX X.K Ex J (extM i f)) :=
  ps_weak (ps_expr (pe_bm PySem.F.plainAttrs_list PySem.F.slot_list_extend PySem.F.type_list_extend mt_extend ho (pa_cons he pa_nil hs) hbase hfew hline hs hplain) hsw) fun _ _ _ => s_ext
theorem dx_popAt (ho : PE X o (tVar i)) (he : PE X e (tX X.K Ex f)) (hbase : attributeBase o "pop" X.env (eval o X.env) = eval o X.env := by rfl)
    (hfew : ((backTo cpos (starEach [e] X.env)).all (fun x => !x.1) && (backToKw cpos (keywordEach [] X.env)).all (fun x => x.1.isSome) && decide ([e].length + ([] : List Keyword).length + (if ([] : List Keyword).isEmpty then 0 else 1) < 30)) = true := by rfl)
    (hline : (apos.endLine == cpos.line) = true := by rfl) (hs : starEach [e] X.env = (false, eval e X.env) :: starEach [] X.env := by rfl) (hplain : (backTo cpos (starEach [] X.env)).any (·.1) = false := by rfl) :
    PE X (.Call (.Attribute o "pop" apos) [e] [] cpos) (tX X.K Ex (popAtM i f)) :=
  pe_weak (pe_bm PySem.F.plainAttrs_list PySem.F.slot_list_pop PySem.F.type_list_pop mt_popAt ho (pa_cons he pa_nil hs) hbase hfew hline hs hplain) fun _ _ _ => x_popAt
theorem ds_setIt (ho : PE X o (tVar i)) (hk : PE X ek (tX X.K Ex fk)) (hv : PE X ev (tX X.K Ex fv)) (ha : ∀ v, assign (.Subscript o ek tpos) X.env v = (do
      let ov ← holding [v] (eval o X.env)
      let iv ← holding [v, ov] (eval ek X.env)
      standAt tpos
      holding [v, ov, iv] (setItem ov iv v)
      release [v, ov, iv] []) := by intro _; rfl) (hs : swapsWithSole [.Subscript o ek tpos] ev pos.line X.env = pure false := by rfl) (hw : swappedStores [.Subscript o ek tpos] ev X.env = pure none := by rfl)
    (h1 : (assignEach [.Subscript o ek tpos] X.env).map (·.2) = [assign (.Subscript o ek tpos) X.env] := by rfl) : PS X (.Assign [.Subscript o ek tpos] ev pos) (sX X.K Ex J (setItM i fk fv)) :=
  ps_weak (ps_asg hv (pg_sub ho hk set_list ha) hs hw h1) fun _ _ _ => s_setIt
theorem pget_list : PGet X (fun o ix H Q => rIxL X.K o ix H Q) := by
  intro pins s σ H o ix ov iv Q I ro ri h
  obtain ⟨p, xs, k, v, rfl, rfl, hq, he, q⟩ := h
  cases ro
  obtain ⟨t, rfl⟩ := ri
  obtain ⟨its, r, pl, hz⟩ := I.list hq
  obtain ⟨j, h1, h2, h3, h4, h5⟩ := atI_get he
  obtain ⟨w, ew, rw'⟩ := r.get h2
  have hl := r.length
  have hn := line63
  have fin : EP X pins σ Q w s := ⟨v, H, I, rw', q⟩
  by_cases h0 : 0 ≤ k
  · have hj : k.toNat = j := by
      rw [seqIndex_of h0 h5] at h1
      exact Option.some.inj h1
    exact wpAny_getItem_list pl.isList h0 (by omega) (by rw [hj]; simpa using ew) fin
  · have hj : (k + (its.toArray.size : Int)).toNat = j := by
      rw [seqIndex_neg (by omega) h4] at h1
      rw [List.size_toArray, ← hl]
      exact Option.some.inj h1
    exact wpAny_getItem_list_neg pl.isList (by omega) (by rw [List.size_toArray] <;> omega) (by omega) (by rw [hj]; simpa using ew) fin
theorem ds_augIt (ho : PE X o (tVar i)) (hk : PE X ek (tX X.K Ex fk)) (hv : PE X ev (tX X.K Ex fv)) (ha : ∀ ov iv new, augStore ek ov iv new = (do holding [new, ov, iv] (setItem ov iv new); release [new, ov, iv] []; pure .next) := by intros; rfl) :
    PS X (.AugAssign (.Subscript o ek tpos) .Add ev pos) (sX X.K Ex J (augItM i fk fv)) := ps_weak (ps_augS ho hk pget_list hv ip_add set_list ha) fun _ _ _ => s_augIt
theorem ds_putD (hu : X.A.units + 1 < cLine) (ho : PE X o (tVar i)) (hk : PE X ek (tX X.K Ex fk)) (hv : PE X ev (tX X.K Ex fv)) (hs : swapsWith ev (some (.Subscript o ek tpos)) pos.line X.env = pure false := by rfl) :
    PS X (.Assign [.Subscript o ek tpos] ev pos) (sX X.K Ex J (putDM i fk fv)) := ps_weak (ps_dput hu ho hk hv hs) fun _ _ _ => s_putD
end
end G7

set_option Elab.async false
set_option linter.all false
set_option maxRecDepth 100000
set_option autoImplicit false
namespace G7
open PySem PySem.Spec PyProof.Rows L2
theorem nin {J : List Nat} {i : Nat} (h : J.contains i = false) : i ∉ J := fun hm => by rw [List.contains_iff_mem.mpr hm] at h; cases h
def argsV : List Tk → Option (List PV)
  | [] => some []
  | .v a :: ts => (argsV ts).map (a :: ·)
  | _ => none
def argsR (u : PV) : Nat → List Tk → Option (Nat × List PV)
  | 0, .s i :: ts => (argsV ts).map fun as => (i, u :: as)
  | j + 1, .v a :: ts => (argsR u j ts).map fun p => (p.1, a :: p.2)
  | _, _ => none
def slotR : Nat → List Tk → Option Nat
  | 0, .s i :: _ => some i
  | j + 1, _ :: ts => slotR j ts
  | _, _ => none
def callR (Fn : List PV → FR) (j : Nat) (fa : M (List Tk)) : M PV := bnd fa fun ts ρ =>
  match slotR j ts with
  | none => .bad
  | some i => match ρ[i]? with
    | some (some (.own u)) => (match argsR u j ts with
      | none => .bad
      | some p => (match Fn p.2 with
        | .ok r u' => .ok r (ρ.set i (some (.own u')))
        | .exc c u' => .exc c (ρ.set i (some (.own u')))
        | .bad => .bad))
    | _ => .bad
def envR (n j : Nat) (as : List PV) : Env := (envP n as).set j (some (.own (as.getD j .non)))
def ownAt (ρ : Env) (j : Nat) : Option PV := match ρ[j]? with | some (some (.own u)) => some u | _ => none
def runR (n j : Nat) (fb : M Out) (as : List PV) : FR :=
  match fb (envR n j as) with
  | .ok (.rt v) ρ => (match ownAt ρ j with | some u => .ok v u | none => .bad)
  | .ok .nx ρ => (match ownAt ρ j with | some u => .ok .non u | none => .bad)
  | .exc c ρ => (match ownAt ρ j with | some u => .exc c u | none => .bad)
  | _ => .bad
structure GrowR (a : Addr) (F H F' H' : Hp) : Prop where
  f : Same F F'
  h : ∀ b o, b ≠ a → H b = some o → H' b = some o
  dom : ∀ b, H b ≠ none → H' b ≠ none
  le : Same F' H'
  na : F' a = none
  fz : ∀ b o, F' b = some o → F b = some o ∨ H b = none
/-- all arguments but the one at j are fixed values -/
structure ArgsR (K : PySem.W.Frag) (F H : Hp) (j : Nat) (vs : List V) (as : List PV) (a : Addr) (u : PV) : Prop where
  len : vs.length = as.length
  at_ : vs[j]? = some (.ref a)
  av : as[j]? = some u
  nf : F a = none
  ow : Own K F H a u
  rest : ∀ (i : Nat) (x : PV), i ≠ j → as[i]? = some x → ∃ w, vs[i]? = some w ∧ Rep K F w x
def spR (K : PySem.W.Frag) (EE : XK → Nat → Hp → Prop) (n j : Nat) (Fn : List PV → FR) : Sp := fun vs H Q E => ∃ F as a u, Same F H ∧ vs.length = n ∧ ArgsR K F H j vs as a u ∧
  match Fn as with
  | .ok r u' => ∀ w F' H', GrowR a F H F' H' → Own K F' H' a u' → Rep K F' w r → Q w H'
  | .exc c u' => ∀ F' H', GrowR a F H F' H' → Own K F' H' a u' → EE E c H'
  | .bad => False
section
variable {K : PySem.W.Frag} {Ex : Nat → Hp → Prop} {F F' H H' : Hp} {σ σ' : St} {ρ : Env} {EE : XK → Nat → Hp → Prop} {E : XK}
theorem argsV_rep : ∀ {ts : List Tk} {as : List PV} {vs : List V}, argsV ts = some as → RTs K F σ vs ts → Reps K F vs as
  | [], _, [], e, _ => by cases e; exact .nil
  | .v a :: ts, as, w :: ws, e, ⟨r1, r2⟩ => by
    rw [argsV] at e
    cases e2 : argsV ts with
    | none => rw [e2] at e; cases e
    | some bs => rw [e2] at e; cases e; exact .cons r1 (argsV_rep e2 r2)
  | .s i :: ts, as, w :: ws, e, _ => by cases e
  | [], _, _ :: _, _, r => r.elim
  | _ :: _, _, [], _, r => by cases r
theorem argsR_rep {u : PV} : ∀ {j : Nat} {ts : List Tk} {p : Nat × List PV} {vs : List V}, argsR u j ts = some p → RTs K F σ vs ts →
    vs.length = p.2.length ∧ p.2[j]? = some u ∧ (∃ w, vs[j]? = some w ∧ σ[p.1]? = some (some w)) ∧ (∀ (i : Nat) (x : PV), i ≠ j → p.2[i]? = some x → ∃ w, vs[i]? = some w ∧ Rep K F w x) ∧ slotR j ts = some p.1
  | 0, .s i :: ts, p, w :: ws, e, ⟨r1, r2⟩ => by
    rw [argsR] at e
    cases e2 : argsV ts with
    | none => rw [e2] at e; cases e
    | some bs =>
      rw [e2] at e; cases e
      have rr := argsV_rep e2 r2
      refine ⟨congrArg (· + 1) rr.len, rfl, ⟨w, rfl, r1⟩, fun k x hk hx => ?_, rfl⟩
      cases k with
      | zero => exact absurd rfl hk
      | succ k => exact rr.get (i := k) (by simpa using hx)
  | j + 1, .v a :: ts, p, w :: ws, e, ⟨r1, r2⟩ => by
    rw [argsR] at e
    cases e2 : argsR u j ts with
    | none => rw [e2] at e; cases e
    | some q =>
      rw [e2] at e; cases e
      obtain ⟨h1, h2, h3, h4, h5⟩ := argsR_rep e2 r2
      refine ⟨congrArg (· + 1) h1, by simpa using h2, by simpa using h3, fun k x hk hx => ?_, h5⟩
      cases k with
      | zero => simp at hx; subst hx; exact ⟨w, rfl, r1⟩
      | succ k => exact h4 k x (fun z => hk (by rw [z])) (by simpa using hx)
  | 0, [], _, _, e, _ => by cases e
  | 0, .v _ :: _, _, _, e, _ => by cases e
  | _ + 1, [], _, _, e, _ => by cases e
  | _ + 1, .s _ :: _, _, _, e, _ => by cases e
  | 0, .s _ :: _, _, [], _, r => by cases r
  | _ + 1, .v _ :: _, _, [], _, r => by cases r
theorem GrowR.step {i : Nat} {a : Addr} {u u' : PV} (r : RE K F σ H ρ) (e : ρ[i]? = some (some (Sl.own u))) (ea : σ[i]? = some (some (V.ref a))) (g : GrowR a F H F' H') (ow : Own K F' H' a u') : Step K F σ H ρ F' σ H' (ρ.set i (some (.own u'))) := by
  have hi : i < ρ.length := (List.getElem?_eq_some_iff.mp e).1
  refine ⟨g.f, fun b o q n => ?_, g.dom, fun b z => ?_, fun b o q => ?_, rfl, ⟨g.le, fun j v q => ?_, fun j v q => ?_, fun j k v v' b q q' q3 q4 => ?_, by rw [List.length_set]; exact r.len⟩⟩
  · exact g.h b o (fun z => n ⟨i, u, e, by rw [z]; exact ea⟩) q
  · obtain ⟨j, v, q1, q2⟩ := z
    rcases set_len q1 with ⟨rfl, _, _⟩ | ⟨_, q1⟩
    · exact .inl ⟨j, u, e, q2⟩
    · exact .inl ⟨j, v, q1, q2⟩
  · rcases g.fz b o q with y | y
    · exact .inl y
    · exact .inr (.inl y)
  · rcases set_len q with ⟨rfl, _, z⟩ | ⟨nj, q⟩
    · cases z
    · obtain ⟨w, q1, q2⟩ := r.val j v q
      exact ⟨w, q1, q2.mono g.f⟩
  · rcases set_len q with ⟨rfl, _, z⟩ | ⟨nj, q⟩
    · cases z
      exact ⟨a, ea, g.na, ow⟩
    · obtain ⟨b, q1, q2, q3⟩ := r.own j v q
      have nb : b ≠ a := fun z => by subst z; exact nj (r.inj j i v u b q e q1 ea)
      obtain ⟨o, ho⟩ := q3.some
      refine ⟨b, q1, ?_, q3.mono g.f ((g.h b o nb ho).trans ho.symm)⟩
      cases qq : F' b with
      | none => rfl
      | some x =>
        rcases g.fz b x qq with y | y
        · rw [q2] at y; cases y
        · rw [ho] at y; cases y
  · rcases set_len q with ⟨rfl, _, _⟩ | ⟨nj, q0⟩
    · rcases set_len q' with ⟨rfl, _, _⟩ | ⟨nk, q'⟩
      · rfl
      · exact r.inj j k u v' b e q' q3 q4
    · rcases set_len q' with ⟨rfl, _, _⟩ | ⟨nk, q'⟩
      · exact r.inj j k v u b q0 e q3 q4
      · exact r.inj j k v v' b q0 q' q3 q4
theorem x_callR {Fn : List PV → FR} {n j : Nat} {fa : M (List Tk)} (hE : ∀ c H', Ex c H' → EE E c H') (hn : ∀ ρ as ρ', fa ρ = .ok as ρ' → as.length = n) {Q : VK} (h : tX K Ex (callR Fn j fa) σ H Q) : tCall (spR K EE n j Fn) [] E (tOA K Ex fa) σ H Q := by
  obtain ⟨F, ρ, hr, h⟩ := h
  refine ⟨F, ρ, hr, ?_⟩
  unfold callR G7.bnd at h
  cases e : fa ρ with
  | exc c r => rw [e] at h; exact h
  | bad => rw [e] at h; exact h
  | ok ts ρ1 =>
  rw [e] at h
  intro vs F1 H1 st rr
  show spR K EE n j Fn (vs ++ []) H1 Q E
  rw [List.append_nil]
  simp only at h
  cases es : slotR j ts with
  | none => rw [es] at h; exact h.elim
  | some i =>
  rw [es] at h
  simp only at h
  cases eo : ρ1[i]? with
  | none => rw [eo] at h; exact h.elim
  | some so =>
  cases so with
  | none => rw [eo] at h; exact h.elim
  | some sl =>
  cases sl with
  | val v => rw [eo] at h; exact h.elim
  | own u =>
  rw [eo] at h
  simp only at h
  cases ea : argsR u j ts with
  | none => rw [ea] at h; exact h.elim
  | some p =>
  rw [ea] at h
  simp only at h
  obtain ⟨k1, k2, ⟨w, k3, k4⟩, k5, k6⟩ := argsR_rep ea rr
  rw [es] at k6
  cases k6
  obtain ⟨a, o1, o2, o3⟩ := st.re.own _ u eo
  rw [k4] at o1
  cases o1
  have tl : ∀ {vs : List V} {ts : List Tk}, RTs K F1 σ vs ts → vs.length = ts.length := fun {vs ts} => by
    induction vs generalizing ts with
    | nil => intro r; cases ts with | nil => rfl | cons _ _ => exact r.elim
    | cons w ws ih => intro r; cases ts with | nil => exact r.elim | cons t ts => exact congrArg (· + 1) (ih r.2)
  refine ⟨F1, p.2, a, u, st.re.le, by rw [tl rr]; exact hn _ _ _ e, ⟨k1, k3, k2, o2, o3, k5⟩, ?_⟩
  cases e2 : Fn p.2 with
  | ok r u' => rw [e2] at h; exact fun w F' H' g ow rp => h w F' H' (st.trans (g.step st.re eo k4 ow)) rp
  | exc c u' => rw [e2] at h; exact fun F' H' g ow => hE c H' (h F' H' (st.trans (g.step st.re eo k4 ow)))
  | bad => rw [e2] at h; exact h
theorem envR_get {n j i : Nat} {as : List PV} {s : Sl} (h : (envR n j as)[i]? = some (some s)) : (i = j ∧ s = .own (as.getD j .non)) ∨ (i ≠ j ∧ ∃ a, as[i]? = some a ∧ s = .val a) := by
  unfold envR at h
  rcases set_len h with ⟨rfl, _, z⟩ | ⟨nj, z⟩
  · cases z; exact .inl ⟨rfl, rfl⟩
  · exact .inr ⟨nj, envP_get z⟩
theorem RE.startR {N : List Str} {vs : List V} {as : List PV} {j : Nat} {a : Addr} {u : PV} (le : Same F H) (A : ArgsR K F H j vs as a u) : RE K F (start N vs) H (envR N.length j as) := by
  have hu : as.getD j .non = u := by rw [List.getD_eq_getElem?_getD, A.av]; rfl
  refine ⟨le, fun i v q => ?_, fun i v q => ?_, fun i k v v' b q q' _ _ => ?_, ?_⟩
  · rcases envR_get q with ⟨_, z⟩ | ⟨ni, x, h1, h2⟩
    · cases z
    · cases h2
      obtain ⟨w, h3, h4⟩ := A.rest i _ ni h1
      exact ⟨w, start_get h3, h4⟩
  · rcases envR_get q with ⟨rfl, z⟩ | ⟨ni, x, h1, h2⟩
    · cases z
      rw [hu]
      exact ⟨a, start_get A.at_, A.nf, A.ow⟩
    · cases h2
  · rcases envR_get q with ⟨rfl, z⟩ | ⟨ni, x, h1, h2⟩
    · rcases envR_get q' with ⟨rfl, z⟩ | ⟨ni, x, h1, h2⟩
      · rfl
      · cases h2
    · cases h2
  · unfold L2.start envR envP
    simp only [List.length_set, List.length_append, List.length_map, List.length_replicate, A.len]
theorem ownR {N : List Str} {vs : List V} {as : List PV} {j : Nat} {a b : Addr} {u : PV} (A : ArgsR K F H j vs as a u) (z : OwnAt (start N vs) (envR N.length j as) b) : b = a := by
  obtain ⟨i, v, q1, q2⟩ := z
  rcases envR_get q1 with ⟨rfl, z⟩ | ⟨ni, x, h1, h2⟩
  · rw [start_get A.at_] at q2
    cases q2; rfl
  · cases h2
theorem Step.growR {N : List Str} {vs : List V} {as : List PV} {j : Nat} {a : Addr} {u u' : PV} {ρ' : Env} (A : ArgsR K F H j vs as a u) (s : Step K F (start N vs) H (envR N.length j as) F' σ' H' ρ') (kp : Keep [j] (start N vs) σ') (o : ownAt ρ' j = some u') :
    GrowR a F H F' H' ∧ Own K F' H' a u' := by
  have q : ρ'[j]? = some (some (Sl.own u')) := by
    unfold ownAt at o
    split at o
    · rename_i w e; cases o; exact e
    · cases o
  obtain ⟨b, h1, h2, h3⟩ := s.re.own j u' q
  rw [kp j (by simp), start_get A.at_] at h1
  cases h1
  obtain ⟨o, ho⟩ := A.ow.some
  refine ⟨⟨s.le, fun b o nb e => s.frm b o e fun z => nb (ownR A z), s.dom, s.re.le, h2, fun b o e => ?_⟩, h3⟩
  rcases s.fz b o e with y | y | y
  · exact .inl y
  · exact .inr y
  · rw [ownR A y, h2] at e; cases e
theorem body_R {N : List Str} {n j : Nat} {fb : M Out} {vs : List V} {Q : VK} (hE : ∀ c H', EE E c H' → Ex c H') (h : spR K EE n j (runR N.length j fb) vs H Q E) :
    sX K Ex [j] fb { nx := fun _ H' => Q .non H', rt := Q } (start N vs) H := by
  obtain ⟨F, as, a, u, le, hn, A, h⟩ := h
  refine ⟨F, envR N.length j as, RE.startR le A, ?_⟩
  unfold runR at h
  cases e : fb (envR N.length j as) with
  | bad => rw [e] at h; exact h
  | exc c r =>
    rw [e] at h
    cases eo : ownAt r j with
    | none => simp only [eo] at h
    | some u' =>
      simp only [eo] at h
      exact fun F' σ' H' st kp => hE c H' (h F' H' (st.growR A kp eo).1 (st.growR A kp eo).2)
  | ok o r =>
    rw [e] at h
    cases o with
    | bk => exact h.elim
    | ct => exact h.elim
    | nx =>
      cases eo : ownAt r j with
      | none => simp only [eo] at h
      | some u' =>
        simp only [eo] at h
        exact fun F' σ' H' st kp => h _ F' H' (st.growR A kp eo).1 (st.growR A kp eo).2 .non
    | rt v =>
      cases eo : ownAt r j with
      | none => simp only [eo] at h
      | some u' =>
        simp only [eo] at h
        exact fun w F' σ' H' st kp rp => h w F' H' (st.growR A kp eo).1 (st.growR A kp eo).2 rp
end
section
variable {P : Program} {w : World} {K : PySem.W.Frag} {mg : Str → Option Value} {base : Heap}
theorem okR {x : Str} {st : Stmt} {f : Addr} {fd : FuncData} {N ps : List Str} {k n j : Nat} {fb : M Out} (F : FnP K x st f fd) (S : FnScope N ps (defScope st)) (hn : ps.length = n)
    (hb : ∀ (cdv : Value) (A : Around) (outer : List PySem.Env) (s : Shared) (H : Hp) (E : XK), Room k (A.deeper (envOfC x (defScope st) s.heap.objs.size f cdv)) →
      PSs (cxOf CX0 P w K mg base N x (defScope st) f cdv A outer s H E).nox (defBody st) (sX K Ex0 [j] fb)) : FnOk P w K mg base CX0 (k + 1) f fd ps (spR K EE0 n j (runR N.length j fb)) := by
  refine F.ok S (fun vs H Q E h => ?_) (fun cdv A outer s H vs Q E hr h => ⟨_, PSs.nox (hb cdv A outer s H E hr), ?_⟩)
  · obtain ⟨_, _, _, _, _, h1, _⟩ := h
    rw [h1, hn]
  · exact body_R (fun c H' z => z) h
end
section
variable {X : Cx} {Ex : Nat → Hp → Prop} {e : Expr} {es : List Expr} {pos p : Pos} {x : Str}
theorem dx_callR {CX : CXT} {k n j : Nat} {fn : Addr} {fd : FuncData} {ps : List Str} {Fn : List PV → FR} {EE : XK → Nat → Hp → Prop} {E : XK} {ga : M (List Tk)} (Ff : FnOk X.prog X.w X.K X.mg X.base CX k fn fd ps (spR X.K EE n j Fn)) (hr : Room k X.A) (hg : Gl X x) (hm : X.mg x = some (.ref fn)) (hk : PySem.W.keepIn X.K (.ref fn) = true)
    (hb : Binds X.K fd ps []) (hx : Passes CX X E) (hE : ∀ c H', Ex c H' → EE E c H') (ha : PA X (e :: es) (tOA X.K Ex ga)) (hn : ∀ ρ as ρ', ga ρ = .ok as ρ' → as.length = n) (hd : (x == ("__debug__" : Str)) = false := by decide)
    (he : starEach (e :: es) X.env = (false, eval e X.env) :: starEach es X.env := by rfl) (hpl : (backTo pos (starEach es X.env)).any (·.1) = false := by rfl) :
    PE X (.Call (.Name x p) (e :: es) [] pos) (tX X.K Ex (callR Fn j ga)) :=
  pe_weak (pe_call Ff hr hg hm hk hb .nil hx ha hd he hpl) fun _ _ _ => x_callR hE hn
end
def asgM (f : M PV) (g : PV → M Unit) : M Out := bnd f fun v => bndN (g v) (ret .nx)
def lstT (gs : List (PV → M Unit)) : PV → M Unit := fun v => match v with | .lst xs => runT gs xs | _ => fun _ => .bad
section
variable {K : PySem.W.Frag} {Ex : Nat → Hp → Prop} {J : List Nat} {F H : Hp} {σ : St} {ρ : Env}
theorem s_asg {f : M PV} {g : PV → M Unit} {D : Ends} (h : sX K Ex J (asgM f g) D σ H) : tAsg (tX K Ex f) (gX K J g) D σ H := by
  obtain ⟨F, ρ, h⟩ := h
  refine ⟨F, ρ, (SAt.bnd (R := RV K) h).mono fun w H1 ⟨F1, ρ1, v, st, r, hr, h1⟩ => ⟨F1, ρ1, v, hr, r, ?_⟩⟩
  unfold bndN at h1
  cases e : g v ρ1 with
  | ok u ρ2 => rw [e] at h1; exact h1
  | exc c r => rw [e] at h1; exact h1
  | bad => rw [e] at h1; exact h1
theorem g_lst {gs : List (PV → M Unit)} {n : Nat} (hn : gs.length = n) {w : V} {Q : St → Hp → Prop} (h : gX K J (lstT gs) w σ H Q) : gLst K n (gsX K J gs) w σ H Q := by
  obtain ⟨F, ρ, v, hr, rp, h⟩ := h
  cases v <;> first | exact h.elim | skip
  rename_i xs
  obtain ⟨p, vs, rfl, h1, r1⟩ := (SRep.up (H := H) rp).lst hr.le
  refine ⟨p, vs, rfl, .of h1, ?_, F, ρ, xs, hr, r1, h⟩
  unfold lstT at h
  cases e : runT gs xs ρ with
  | ok u ρ' => rw [r1.len, runT_len e, hn]
  | exc c r => simp only [e] at h
  | bad => simp only [e] at h
end
section
variable {X : Cx} {Ex : Nat → Hp → Prop} {J : List Nat} {tg e : Expr} {pos : Pos} {f : M PV} {g : PV → M Unit}
theorem ds_asg (he : PE X e (tX X.K Ex f)) (hg : PG X tg (gX X.K J g)) (hs : swapsWithSole [tg] e pos.line X.env = pure false := by rfl) (hw : swappedStores [tg] e X.env = pure none := by rfl)
    (h1 : (assignEach [tg] X.env).map (·.2) = [assign tg X.env] := by rfl) : PS X (.Assign [tg] e pos) (sX X.K Ex J (asgM f g)) := ps_weak (ps_asg he hg hs hw h1) fun _ _ _ => s_asg
theorem dg_lst {es : List Expr} {k n : Nat} {gs : List (PV → M Unit)} (hn' : gs.length = n) (hc : X.calm = true) (h : PGs X es (gsX X.K J gs)) (hn : (assignEach es X.env).length = n := by rfl) (hst : (assignEach es X.env).findIdx? (·.1) = none := by rfl) : PG X (.Tuple es k pos) (gX X.K J (lstT gs)) :=
  pg_weak (pg_lst hc h hn hst) fun _ _ _ _ => g_lst hn'
end
theorem hu65 {k : Nat} {A : Around} (h : Room k A) : A.units + 65 < cLine := by have := h.un; omega
def augM (i : Nat) (g : PV → PV → Option PV) (f : M PV) : M Out := bnd (rd i) fun a => bnd f fun b => bnd (lft (g a b)) fun v => bnd (wr i (some (.val v))) fun _ => ret .nx
def OprI (K : PySem.W.Frag) (r : TIp) (g : PV → PV → Option PV) : Prop := ∀ F H x y a b v Q, Same F H → Rep K F x a → Rep K F y b → g a b = some v → Fin1 K F H v Q → r x y H Q
def iaddV : PV → PV → Option PV
  | .int i, .int j => some (.int (i + j))
  | _, _ => none
def isubV : PV → PV → Option PV
  | .int i, .int j => some (.int (i - j))
  | _, _ => none
def imulV : PV → PV → Option PV
  | .int i, .int j => if mulOk i j then some (.int (i * j)) else none
  | _, _ => none
section
variable {K : PySem.W.Frag} {Ex : Nat → Hp → Prop} {J : List Nat} {F H : Hp} {σ : St} {ρ : Env}
theorem opi_add : OprI K (ipI fun i j => i + j) iaddV := by
  intro F H x y a b v Q le rx ry e q
  unfold iaddV at e
  split at e
  · cases e; cases rx; cases ry
    exact ⟨_, _, rfl, rfl, q.same le (.int _)⟩
  · cases e
theorem opi_sub : OprI K (ipI fun i j => i - j) isubV := by
  intro F H x y a b v Q le rx ry e q
  unfold isubV at e
  split at e
  · cases e; cases rx; cases ry
    exact ⟨_, _, rfl, rfl, q.same le (.int _)⟩
  · cases e
def ipMul : TIp := fun x y H Q => ∃ i j, x = .int i ∧ y = .int j ∧ CMul i j ∧ Q (.int (i * j)) H
theorem ip_mul {X : Cx} : PIp X .Mult ipMul := fun pins s σ H x y v u Q I r1 r2 h => iop_mul pins s σ H x y v u Q I r1 r2 h
theorem opi_mul : OprI K ipMul imulV := by
  intro F H x y a b v Q le rx ry e q
  unfold imulV at e
  split at e
  · split at e
    · rename_i i j hm
      cases e; cases rx; cases ry
      refine ⟨_, _, rfl, rfl, ?_, q.same le (.int _)⟩
      exact mulOk_of hm
    · cases e
  · cases e
/-- a fixed slot's value -/
def valM (i : Nat) : M PV := fun r => match r[i]? with | some (some (.val v)) => .ok v r | _ => .bad
def augV (i : Nat) (g : PV → PV → Option PV) (f : M PV) : M Out := bnd (valM i) fun a => bnd f fun b => bnd (lft (g a b)) fun v => bnd (wr i (some (.val v))) fun _ => ret .nx
theorem s_aug {i : Nat} {g : PV → PV → Option PV} {f : M PV} {ti : TIp} (hi : i ∉ J) (hg : OprI K ti g) {D : Ends} (h : sX K Ex J (augV i g f) D σ H) : tAug i (tX K Ex f) ti D σ H := by
  obtain ⟨F, ρ, hr, h⟩ := h
  unfold augV G7.bnd at h
  cases e : valM i ρ with
  | exc c r => unfold valM at e; split at e <;> cases e
  | bad => rw [e] at h; exact h.elim
  | ok a r =>
    rw [e] at h
    unfold valM at e
    split at e
    · rename_i v q
      cases e
      obtain ⟨x, h1, h2⟩ := hr.val i _ q
      have h3 : SAt K Ex J F ρ (G7.bnd f fun b => G7.bnd (G7.lft (g a b)) fun v => G7.bnd (wr i (some (.val v))) fun _ => G7.ret .nx) σ H D := ⟨hr, h⟩
      refine ⟨x, h1, F, ρ, (SAt.bnd (R := RV K) h3).mono fun y H1 ⟨F1, ρ1, b, st, ry, h4⟩ => ?_⟩
      obtain ⟨hr4, h4⟩ := h4
      unfold G7.bnd G7.lft at h4
      cases eg : g a b with
      | none => rw [eg] at h4; exact h4.elim
      | some z =>
        rw [eg] at h4
        refine hg F1 H1 x y a b z _ hr4.le (h2.mono st.le) ry eg fun w F2 H2 gr rp => ?_
        exact h4 F2 _ H2 ((gr.step hr4).trans ((gr.step hr4).re.setV rp)) (Keep.set hi)
    · cases e
end
section
variable {X : Cx} {Ex : Nat → Hp → Prop} {J : List Nat} {e : Expr} {pos pos' : Pos} {f : M PV}
theorem ds_aug {i : Nat} {x : Str} {op : Operator} {g : PV → PV → Option PV} {ti : TIp} (hi' : i ∉ J) (hg : OprI X.K ti g) (hN : X.N.Nodup) (hi : X.N[i]? = some x) (hx : Loc X.env.scope x) (he : PE X e (tX X.K Ex f)) (ho : PIp X op ti) (hf : X.fn x = true ∨ X.env.scope.names.lookup x = some .local := by first | exact .inl rfl | exact .inr rfl | assumption) :
    PS X (.AugAssign (.Name x pos') op e pos) (sX X.K Ex J (augV i g f)) := ps_weak (ps_aug hN hi hx he ho hf) fun _ _ _ => s_aug hi' hg
end
end G7

set_option Elab.async false
set_option linter.all false
set_option maxRecDepth 100000
set_option autoImplicit false
namespace G7
section
variable {α β : Type} {r : Env}
@[simp ↓] theorem e_ret (a : α) : ret a r = .ok a r := (rfl)
@[simp ↓] theorem e_bnd (m : M α) (k : α → M β) : bnd m k r = match m r with | .ok a r' => k a r' | .exc c r' => .exc c r' | .bad => .bad := (rfl)
@[simp ↓] theorem e_lftS (a : α) : lft (some a) r = .ok a r := (rfl)
@[simp ↓] theorem e_lftN : lft (none : Option α) r = .bad := (rfl)
@[simp ↓] theorem e_raz (c : Nat) : (raz c : M α) r = .exc c r := (rfl)
@[simp ↓] theorem e_rd (i : Nat) : rd i r = match r[i]? with | some (some (.val v)) => .ok v r | some (some (.own v)) => .ok v (r.set i (some (.val v))) | _ => .bad := (rfl)
@[simp ↓] theorem e_pk (i : Nat) : pk i r = match r[i]? with | some (some (.val v)) => .ok v r | some (some (.own v)) => .ok v r | _ => .bad := (rfl)
@[simp ↓] theorem e_wr (i : Nat) (s : Option Sl) : wr i s r = .ok () (r.set i s) := (rfl)
@[simp ↓] theorem e_op2 (g : PV → PV → Option PV) (f f2 : M Tk) : op2 g f f2 r = (bnd f fun t => bnd f2 fun u => bnd (force t) fun a => bnd (force u) fun b => lft (g a b)) r := (rfl)
@[simp ↓] theorem e_op1 (g : PV → Option PV) (f : M Tk) : op1 g f r = (bnd f fun t => bnd (force t) fun a => lft (g a)) r := (rfl)
@[simp ↓] theorem e_opn (g : List PV → Option PV) (f : M (List Tk)) : opn g f r = (bnd f fun ts => bnd (forces ts) fun as => lft (g as)) r := (rfl)
@[simp ↓] theorem e_sv (f : M PV) : sv f r = (bnd f fun a => ret (.v a)) r := (rfl)
@[simp ↓] theorem e_tkv (i : Nat) : tkv i r = match r[i]? with | some (some _) => .ok (.s i) r | _ => .bad := (rfl)
@[simp ↓] theorem e_tst (f : M PV) : tst f r = (bnd f fun v => lft (isB v)) r := (rfl)
@[simp ↓] theorem e_andT (f g : M Bool) : andT f g r = (bnd f fun c => if c then g else ret false) r := (rfl)
@[simp ↓] theorem e_orT (f g : M Bool) : orT f g r = (bnd f fun c => if c then ret true else g) r := (rfl)
@[simp ↓] theorem e_notT (f : M Bool) : notT f r = (bnd f fun c => ret !c) r := (rfl)
@[simp ↓] theorem e_ifX (c : M Bool) (f g : M α) : ifX c f g r = (bnd c fun b => if b then f else g) r := (rfl)
@[simp ↓] theorem e_andV (f g : M PV) : andV f g r = (bnd (tst f) fun c => if c then g else ret (.bl false)) r := (rfl)
@[simp ↓] theorem e_orV (f g : M PV) : orV f g r = (bnd (tst f) fun c => if c then ret (.bl true) else g) r := (rfl)
@[simp ↓] theorem e_notV (f : M PV) : notV f r = (bnd (tst f) fun c => ret (.bl !c)) r := (rfl)
@[simp ↓] theorem e_chn (g g' : PV → PV → Option PV) (f f2 f3 : M Tk) : chn g g' f f2 f3 r = (bnd f fun t => bnd f2 fun u => bnd (force t) fun a => bnd (force u) fun b => bnd (tst (lft (g a b))) fun c =>
  if c then bnd f3 fun v => bnd (force u) fun b => bnd (force v) fun d => lft (g' b d) else ret (.bl false)) r := (rfl)
@[simp] theorem e_iteA (c : Prop) [Decidable c] (f g : M α) : (if c then f else g) r = if c then f r else g r := by split <;> rfl
@[simp ↓] theorem e_nil : (nil : M (List α)) r = .ok [] r := (rfl)
@[simp ↓] theorem e_cns (f : M α) (g : M (List α)) : cns f g r = (bnd f fun a => bnd g fun as => ret (a :: as)) r := (rfl)
@[simp ↓] theorem e_methS (g : PV → List PV → Option PV) (f : M Tk) (fa : M (List Tk)) : methS g f fa r = (bnd f fun t => bnd (force t) fun a => bnd (lft (isS a)) fun _ => bnd fa fun ts => bnd (forces ts) fun as => lft (g a as)) r := (rfl)
@[simp] theorem e_isS (l : List Nat) : isS (.str l) = some () := (rfl)
@[simp] theorem e_forceV (a : PV) : force (.v a) = ret a := (rfl)
@[simp] theorem e_forceS (i : Nat) : force (.s i) = pk i := (rfl)
@[simp] theorem e_forces0 : forces [] = ret [] := (rfl)
@[simp] theorem e_forces1 (t : Tk) (ts : List Tk) : forces (t :: ts) = bnd (force t) fun a => bnd (forces ts) fun as => ret (a :: as) := (rfl)
@[simp] theorem e_isB (b : Bool) : isB (.bl b) = some b := (rfl)
@[simp] theorem e_on1 (g : PV → Option PV) (a : PV) : on1 g [a] = g a := (rfl)
@[simp] theorem e_on1m (g : PV → PV → Option PV) (a b : PV) : on1m g a [b] = g a b := (rfl)
@[simp ↓] theorem e_seqM (f g : M Out) : seqM f g r = (bnd f fun o => match o with | .nx => g | o => ret o) r := (rfl)
@[simp ↓] theorem e_setV (i : Nat) (f : M PV) : setV i f r = (bnd f fun v => bnd (wr i (some (.val v))) fun _ => ret .nx) r := (rfl)
@[simp ↓] theorem e_setO (i : Nat) (f : M PV) : setO i f r = (bnd f fun v => bnd (wr i (some (.own v))) fun _ => ret .nx) r := (rfl)
@[simp ↓] theorem e_retM (f : M PV) : retM f r = (bnd f fun v => ret (.rt v)) r := (rfl)
@[simp ↓] theorem e_dropM (f : M PV) : dropM f r = (bnd f fun _ => ret .nx) r := (rfl)
@[simp ↓] theorem e_skipM : skipM r = .ok .nx r := (rfl)
@[simp] theorem e_frM1 (v u : PV) : frM (.ok v u) = ret v := (rfl)
@[simp] theorem e_frM2 (c : Nat) (u : PV) : frM (.exc c u) = raz c := (rfl)
@[simp] theorem e_frM3 : frM .bad r = .bad := (rfl)
@[simp ↓] theorem e_callP (Fn : List PV → FR) (fa : M (List PV)) : callP Fn fa r = (bnd fa fun as => frM (Fn as)) r := (rfl)
@[simp ↓] theorem e_callR (Fn : List PV → FR) (j : Nat) (fa : M (List Tk)) : callR Fn j fa r = (bnd fa fun ts ρ =>
  match slotR j ts with
  | none => .bad
  | some i => match ρ[i]? with
    | some (some (.own u)) => (match argsR u j ts with
      | none => .bad
      | some p => (match Fn p.2 with
        | .ok r u' => .ok r (ρ.set i (some (.own u')))
        | .exc c u' => .exc c (ρ.set i (some (.own u')))
        | .bad => .bad))
    | _ => .bad) r := (rfl)
@[simp] theorem e_argsV0 : argsV [] = some [] := (rfl)
@[simp] theorem e_argsV1 (a : PV) (ts : List Tk) : argsV (.v a :: ts) = (argsV ts).map (a :: ·) := (rfl)
@[simp] theorem e_argsR0 (u : PV) (i : Nat) (ts : List Tk) : argsR u 0 (.s i :: ts) = (argsV ts).map fun as => (i, u :: as) := (rfl)
@[simp] theorem e_argsR1 (u a : PV) (j : Nat) (ts : List Tk) : argsR u (j + 1) (.v a :: ts) = (argsR u j ts).map fun p => (p.1, a :: p.2) := (rfl)
@[simp] theorem e_argsR1' (u a : PV) (ts : List Tk) : argsR u 1 (.v a :: ts) = (argsR u 0 ts).map fun p => (p.1, a :: p.2) := (rfl)
@[simp] theorem e_slotR0 (i : Nat) (ts : List Tk) : slotR 0 (.s i :: ts) = some i := (rfl)
@[simp] theorem e_slotR1 (t : Tk) (j : Nat) (ts : List Tk) : slotR (j + 1) (t :: ts) = slotR j ts := (rfl)
@[simp] theorem e_slotR1' (t : Tk) (ts : List Tk) : slotR 1 (t :: ts) = slotR 0 ts := (rfl)
@[simp] theorem e_runP (n : Nat) (fb : M Out) (as : List PV) : runP n fb as = match fb (envP n as) with
  | .ok (.rt v) _ => .ok v .non
  | .ok .nx _ => .ok .non .non
  | .exc c _ => .exc c .non
  | _ => .bad := (rfl)
@[simp] theorem e_runR (n j : Nat) (fb : M Out) (as : List PV) : runR n j fb as = match fb (envR n j as) with
  | .ok (.rt v) ρ => (match ownAt ρ j with | some u => .ok v u | none => .bad)
  | .ok .nx ρ => (match ownAt ρ j with | some u => .ok .non u | none => .bad)
  | .exc c ρ => (match ownAt ρ j with | some u => .exc c u | none => .bad)
  | _ => .bad := (rfl)
@[simp] theorem e_envP (n : Nat) (as : List PV) : envP n as = as.map (fun a => some (.val a)) ++ List.replicate (n - as.length) none := (rfl)
@[simp] theorem e_envR (n j : Nat) (as : List PV) : envR n j as = (envP n as).set j (some (.own (as.getD j .non))) := (rfl)
@[simp] theorem e_ownAt (ρ : Env) (j : Nat) : ownAt ρ j = match ρ[j]? with | some (some (.own u)) => some u | _ => none := (rfl)
@[simp ↓] theorem e_bndN (m : M Unit) (k : M β) : bndN m k r = match m r with | .ok _ r' => k r' | _ => .bad := (rfl)
@[simp] theorem e_nmT (i : Nat) (v : PV) : nmT i v = wr i (some (.val v)) := (rfl)
@[simp] theorem e_runT0 : runT [] [] = ret () := (rfl)
@[simp] theorem e_runT1 (g : PV → M Unit) (gs : List (PV → M Unit)) (x : PV) (xs : List PV) : runT (g :: gs) (x :: xs) = bndN (g x) (runT gs xs) := (rfl)
@[simp] theorem e_tupT (gs : List (PV → M Unit)) (xs : List PV) : tupT gs (.tup xs) = runT gs xs := (rfl)
@[simp] theorem e_lstT (gs : List (PV → M Unit)) (xs : List PV) : lstT gs (.lst xs) = runT gs xs := (rfl)
@[simp ↓] theorem e_asgM (f : M PV) (g : PV → M Unit) : asgM f g r = (bnd f fun v => bndN (g v) (ret .nx)) r := (rfl)
@[simp ↓] theorem e_forM (it : M (List PV)) (tg : PV → M Unit) (body : M Out) : forM it tg body r = (bnd it fun xs => loopM tg body xs) r := (rfl)
@[simp ↓] theorem e_yesM : yesM r = .ok true r := (rfl)
@[simp] theorem e_wipe0 (ρ : Env) : wipeE ρ [] = ρ := (rfl)
@[simp] theorem e_wipe1 (ρ : Env) (i : Nat) (is : List Nat) : wipeE ρ (i :: is) = (wipeE ρ is).set i none := (rfl)
@[simp] theorem e_rest0 (ρ ρ' : Env) : restE ρ ρ' [] = ρ' := (rfl)
@[simp] theorem e_rest1 (ρ ρ' : Env) (i : Nat) (is : List Nat) : restE ρ ρ' (i :: is) = (restE ρ ρ' is).set i (ρ.getD i none) := (rfl)
@[simp ↓] theorem e_itX (f : M PV) : itX f r = (bnd f fun v => lft (iterV v)) r := (rfl)
@[simp] theorem e_iterS (l : List Nat) : iterV (.str l) = some (l.map fun c => .str [c]) := (rfl)
@[simp] theorem e_iterL (l : List PV) : iterV (.lst l) = some l := (rfl)
@[simp] theorem e_iterT (l : List PV) : iterV (.tup l) = some l := (rfl)
@[simp] theorem e_iterD (l : List (PV × PV)) : iterV (.dct l) = some (l.map (·.1)) := (rfl)
@[simp ↓] theorem e_prt (f : M PV) : prt f r = (bnd f fun v => match v with | .int i => ret (some i) | _ => fun _ => .bad) r := (rfl)
@[simp ↓] theorem e_noP : noP r = .ok none r := (rfl)
@[simp ↓] theorem e_slX (f : M Tk) (lo hi : M (Option Int)) : slX f lo hi r = (bnd f fun t => bnd lo fun l => bnd hi fun u => bnd (force t) fun a => lft (sliceV a l u)) r := (rfl)
@[simp] theorem e_line : LINE = 16777216 := (rfl)
@[simp ↓] theorem e_lstV (as : List PV) : lft (lstV as) r = if as.length ≤ 16777216 then .ok (.lst as) r else .bad := by unfold lstV; split <;> rfl
@[simp ↓] theorem e_tupV (as : List PV) : lft (tupV as) r = if as.length ≤ 16777216 then .ok (.tup as) r else .bad := by unfold tupV; split <;> rfl
@[simp] theorem v_addI (i j : Int) : addV (.int i) (.int j) = some (.int (i + j)) := (rfl)
@[simp] theorem v_subI (i j : Int) : subV (.int i) (.int j) = some (.int (i - j)) := (rfl)
@[simp] theorem v_eqI (i j : Int) : eqV (.int i) (.int j) = some (.bl (decide (i = j))) := (rfl)
@[simp] theorem v_neI (i j : Int) : neV (.int i) (.int j) = some (.bl !(decide (i = j))) := (rfl)
theorem beqL (x y : List Nat) : (x == y) = decide (x = y) := by
  by_cases h : x = y
  · subst h; simp
  · rw [decide_eq_false h]; simpa using h
@[simp] theorem v_eqS (x y : List Nat) : eqV (.str x) (.str y) = some (.bl (decide (x = y))) := congrArg (fun b => some (PV.bl b)) (beqL x y)
@[simp] theorem v_neS (x y : List Nat) : neV (.str x) (.str y) = some (.bl !(decide (x = y))) := congrArg (fun b => some (PV.bl !b)) (beqL x y)
@[simp] theorem v_ltI (i j : Int) : ltV (.int i) (.int j) = some (.bl (decide (i < j))) := (rfl)
@[simp] theorem v_leI (i j : Int) : leV (.int i) (.int j) = some (.bl (decide (i ≤ j))) := (rfl)
@[simp] theorem v_gtI (i j : Int) : gtV (.int i) (.int j) = some (.bl (decide (j < i))) := (rfl)
@[simp] theorem v_geI (i j : Int) : geV (.int i) (.int j) = some (.bl (decide (j ≤ i))) := (rfl)
@[simp] theorem v_isBB (a b : Bool) : isV (.bl a) (.bl b) = some (.bl (a == b)) := (rfl)
@[simp] theorem v_is0BB (a b : Bool) : isV0 (.bl a) (.bl b) = some (.bl !(a == b)) := (rfl)
@[simp] theorem v_count (xs : List Nat) (c : Nat) : countV (.str xs) (.str [c]) = some (.int ((xs.filter (· == c)).length : Nat)) := (rfl)
@[simp] theorem v_lenL (xs : List PV) : lenV (.lst xs) = some (.int xs.length) := (rfl)
@[simp] theorem v_lenT (xs : List PV) : lenV (.tup xs) = some (.int xs.length) := (rfl)
@[simp] theorem v_lenC (xs : List Int) : lenV (.scr xs) = some (.int xs.length) := (rfl)
@[simp] theorem v_lenD (xs : List (PV × PV)) : lenV (.dct xs) = some (.int xs.length) := (rfl)
@[simp] theorem v_isiII (i : Int) : isiV .int (.int i) = some (.bl true) := (rfl)
@[simp] theorem v_isiBI (i : Int) : isiV .bool (.int i) = some (.bl false) := (rfl)
@[simp] theorem v_isiSS (i : List Nat) : isiV .str (.str i) = some (.bl true) := (rfl)
@[simp] theorem v_isiLL (i : List PV) : isiV .list (.lst i) = some (.bl true) := (rfl)
@[simp] theorem v_isiTT (i : List PV) : isiV .tuple (.tup i) = some (.bl true) := (rfl)
@[simp] theorem v_inC (c : Nat) (y : List Nat) : inV1 (.str [c]) (.str y) = some (.bl (decide (c ∈ y))) := (rfl)
@[simp] theorem v_inC0 (c : Nat) (y : List Nat) : inV0 (.str [c]) (.str y) = some (.bl !(decide (c ∈ y))) := (rfl)
@[simp] theorem v_intB (b : Bool) : intV (.bl b) = some (.int (b2i b)) := (rfl)
@[simp] theorem v_intI (i : Int) : intV (.int i) = some (.int i) := (rfl)
end
theorem lcL_pure {tg : PV → M Unit} {c : M Bool} {el : M PV} {own : List Nat} {ρ : Env} (g : PV → Option PV) :
    ∀ {xs : List PV} {ρ0 : Env}, wipeE ρ0 own = ρ → (∀ x ∈ xs, match g x with
      | some y => ∃ ρ1 ρ2 ρ3, tg x ρ = .ok () ρ1 ∧ c ρ1 = .ok true ρ2 ∧ el ρ2 = .ok y ρ3 ∧ wipeE ρ3 own = ρ
      | none => ∃ ρ1 ρ2, tg x ρ = .ok () ρ1 ∧ c ρ1 = .ok false ρ2 ∧ wipeE ρ2 own = ρ) →
    lcL tg c el own xs ρ0 = .ok (xs.filterMap g) ρ
  | [], ρ0, e, _ => by show Res.ok [] (wipeE ρ0 own) = _; rw [e]; rfl
  | x :: xs, ρ0, e, h => by
    have hx := h x (List.mem_cons_self ..)
    have hr := fun ρ3 (e3 : wipeE ρ3 own = ρ) => lcL_pure g (xs := xs) (ρ0 := ρ3) e3 fun y hy => h y (List.mem_cons_of_mem _ hy)
    show bndN (tg x) (bnd c fun b => if b then bnd el fun y => bnd (lcL tg c el own xs) fun ys => ret (y :: ys) else lcL tg c el own xs) (wipeE ρ0 own) = _
    rw [e]
    cases eg : g x with
    | some y =>
      rw [eg] at hx
      obtain ⟨ρ1, ρ2, ρ3, h1, h2, h3, h4⟩ := hx
      simp [h1, h2, h3, hr ρ3 h4, eg]
    | none =>
      rw [eg] at hx
      obtain ⟨ρ1, ρ2, h1, h2, h4⟩ := hx
      simp [h1, h2, hr ρ2 h4, eg]
theorem lcM_pure {it : M (List PV)} {tg : PV → M Unit} {c : M Bool} {el : M PV} {own : List Nat} {ρ ρ' : Env} {xs : List PV} (g : PV → Option PV) (hi : it ρ = .ok xs ρ') (hl : xs.length ≤ LINE)
    (h : ∀ x ∈ xs, match g x with
      | some y => ∃ ρ1 ρ2 ρ3, tg x (wipeE ρ' own) = .ok () ρ1 ∧ c ρ1 = .ok true ρ2 ∧ el ρ2 = .ok y ρ3 ∧ wipeE ρ3 own = wipeE ρ' own
      | none => ∃ ρ1 ρ2, tg x (wipeE ρ' own) = .ok () ρ1 ∧ c ρ1 = .ok false ρ2 ∧ wipeE ρ2 own = wipeE ρ' own) (hw : wipeE (wipeE ρ' own) own = wipeE ρ' own) :
    lcM it tg c el own ρ = .ok (.lst (xs.filterMap g)) (restE ρ' (wipeE ρ' own) own) := by
  show (bnd it _) ρ = _
  rw [e_bnd, hi]
  show (if xs.length ≤ LINE then _ else _) = _
  rw [if_pos hl]
  rw [lcL_pure g hw h]
theorem lcM_map {α : Type} {it : M (List PV)} {tg : PV → M Unit} {el : M PV} {own : List Nat} {ρ ρ' : Env} {ys : List α} (f g : α → PV) (hi : it ρ = .ok (ys.map f) ρ') (hl : ys.length ≤ LINE)
    (h : ∀ y ∈ ys, ∃ ρ1 ρ3, tg (f y) (wipeE ρ' own) = .ok () ρ1 ∧ el ρ1 = .ok (g y) ρ3 ∧ wipeE ρ3 own = wipeE ρ' own) (hw : wipeE (wipeE ρ' own) own = wipeE ρ' own) :
    lcM it tg yesM el own ρ = .ok (.lst (ys.map g)) (restE ρ' (wipeE ρ' own) own) := by
  show (bnd it _) ρ = _
  rw [e_bnd, hi]
  show (if (ys.map f).length ≤ LINE then _ else _) = _
  rw [if_pos (by rw [List.length_map]; exact hl)]
  have key : ∀ (zs : List α) (ρ0 : Env), (∀ y ∈ zs, y ∈ ys) → wipeE ρ0 own = wipeE ρ' own → lcL tg yesM el own (zs.map f) ρ0 = .ok (zs.map g) (wipeE ρ' own) := by
    intro zs
    induction zs with
    | nil => intro ρ0 _ e; show Res.ok [] (wipeE ρ0 own) = _; rw [e]; rfl
    | cons z zs ih =>
      intro ρ0 hz e
      obtain ⟨ρ1, ρ3, h1, h2, h3⟩ := h z (hz z (List.mem_cons_self ..))
      have h4 := ih ρ3 (fun y hy => hz y (List.mem_cons_of_mem _ hy)) h3
      show bndN (tg (f z)) (bnd yesM fun b => if b then bnd el fun y => bnd (lcL tg yesM el own (zs.map f)) fun ys => ret (y :: ys) else lcL tg yesM el own (zs.map f)) (wipeE ρ0 own) = _
      rw [e]
      simp [h1, h2, h4]
  rw [key ys _ (fun _ z => z) hw]
/-- a comprehension whose element changes the state: by an invariant -/
theorem lcL_inv {tg : PV → M Unit} {el : M PV} {own : List Nat} (I : List PV → Env → Prop) (N : Nat) :
    ∀ {xs done : List PV} {ρ0 : Env}, done.length + xs.length = N → I done (wipeE ρ0 own) → (∀ x ∈ xs, ∀ done ρ, done.length < N → I done ρ → ∃ ρ1 y ρ3, tg x ρ = .ok () ρ1 ∧ el ρ1 = .ok y ρ3 ∧ I (done ++ [y]) (wipeE ρ3 own)) →
    ∃ ys ρ', lcL tg yesM el own xs ρ0 = .ok ys ρ' ∧ I (done ++ ys) ρ' ∧ ys.length = xs.length
  | [], done, ρ0, _, e, _ => ⟨[], _, rfl, by rw [List.append_nil]; exact e, rfl⟩
  | x :: xs, done, ρ0, hN, e, h => by
    have hl : done.length < N := by simp at hN; omega
    obtain ⟨ρ1, y, ρ3, h1, h2, h3⟩ := h x (List.mem_cons_self ..) done _ hl e
    obtain ⟨ys, ρ', h4, h5, h6⟩ := lcL_inv I N (xs := xs) (done := done ++ [y]) (ρ0 := ρ3) (by simp at hN ⊢; omega) h3 fun z hz => h z (List.mem_cons_of_mem _ hz)
    refine ⟨y :: ys, ρ', ?_, by simpa using h5, by simp [h6]⟩
    show bndN (tg x) (bnd yesM fun b => if b then bnd el fun y => bnd (lcL tg yesM el own xs) fun ys => ret (y :: ys) else lcL tg yesM el own xs) (wipeE ρ0 own) = _
    simp [h1, h2, h4]
theorem lcM_inv {it : M (List PV)} {tg : PV → M Unit} {el : M PV} {own : List Nat} {ρ ρ0 : Env} {xs : List PV} (I : List PV → Env → Prop) (hi : it ρ = .ok xs ρ0) (hl : xs.length ≤ LINE) (h0 : I [] (wipeE (wipeE ρ0 own) own))
    (h : ∀ x ∈ xs, ∀ done ρ, done.length < xs.length → I done ρ → ∃ ρ1 y ρ3, tg x ρ = .ok () ρ1 ∧ el ρ1 = .ok y ρ3 ∧ I (done ++ [y]) (wipeE ρ3 own)) :
    ∃ ys ρ', lcM it tg yesM el own ρ = .ok (.lst ys) (restE ρ0 ρ' own) ∧ I ys ρ' ∧ ys.length = xs.length := by
  obtain ⟨ys, ρ', h1, h2, h3⟩ := lcL_inv I xs.length (xs := xs) (done := []) (ρ0 := wipeE ρ0 own) (by simp) h0 h
  refine ⟨ys, ρ', ?_, h2, h3⟩
  show (bnd it _) ρ = _
  rw [e_bnd, hi]
  show (if xs.length ≤ LINE then _ else _) = _
  rw [if_pos hl, h1]
theorem loopM_inv {tg : PV → M Unit} {body : M Out} (I : Env → Prop) : ∀ {xs : List PV} {ρ : Env}, I ρ → (∀ x ∈ xs, ∀ ρ, I ρ → ∃ ρ1 ρ2, tg x ρ = .ok () ρ1 ∧ (body ρ1 = .ok .nx ρ2 ∨ body ρ1 = .ok .ct ρ2) ∧ I ρ2) → ∃ ρ', loopM tg body xs ρ = .ok .nx ρ' ∧ I ρ'
  | [], ρ, h0, _ => ⟨ρ, rfl, h0⟩
  | x :: xs, ρ, h0, h => by
    obtain ⟨ρ1, ρ2, h1, h2, h3⟩ := h x (List.mem_cons_self ..) ρ h0
    obtain ⟨ρ', h4, h5⟩ := loopM_inv I (xs := xs) (ρ := ρ2) h3 fun z hz => h z (List.mem_cons_of_mem _ hz)
    refine ⟨ρ', ?_, h5⟩
    show bndN (tg x) (bnd body (aft (loopM tg body xs))) ρ = _
    rcases h2 with h2 | h2 <;> simp [h1, h2, aft, h4]
theorem boolsP_map : ∀ bs : List Bool, boolsP (bs.map .bl) = some bs
  | [] => rfl
  | b :: bs => by show (boolsP (bs.map .bl)).map _ = _; rw [boolsP_map bs]; rfl
theorem intsP_map : ∀ bs : List Int, intsP (bs.map .int) = some bs
  | [] => rfl
  | b :: bs => by show (intsP (bs.map .int)).map _ = _; rw [intsP_map bs]; rfl
theorem strsP_map : ∀ bs : List (List Nat), strsP (bs.map .str) = some bs
  | [] => rfl
  | b :: bs => by show (strsP (bs.map .str)).map _ = _; rw [strsP_map bs]; rfl
@[simp] theorem v_all (bs : List Bool) : allV (.lst (bs.map .bl)) = some (.bl (bs.all id)) := by show (boolsP _).map _ = _; rw [boolsP_map]; rfl
@[simp] theorem v_any (bs : List Bool) : anyV (.lst (bs.map .bl)) = some (.bl (bs.any id)) := by show (boolsP _).map _ = _; rw [boolsP_map]; rfl
@[simp] theorem v_sum (bs : List Int) : sumV (.lst (bs.map .int)) = some (.int (sumI bs)) := by show (intsP _).map _ = _; rw [intsP_map]; rfl
theorem v_allF {α : Type} (xs : List α) (f : α → Bool) : allV (.lst (xs.map fun x => .bl (f x))) = some (.bl (xs.all f)) := by
  have := v_all (xs.map f)
  rw [List.map_map] at this
  rw [show (xs.map fun x => PV.bl (f x)) = xs.map (PV.bl ∘ f) from rfl, this]
  simp [List.all_map]
theorem v_anyF {α : Type} (xs : List α) (f : α → Bool) : anyV (.lst (xs.map fun x => .bl (f x))) = some (.bl (xs.any f)) := by
  have := v_any (xs.map f)
  rw [List.map_map] at this
  rw [show (xs.map fun x => PV.bl (f x)) = xs.map (PV.bl ∘ f) from rfl, this]
  simp [List.any_map]
theorem v_sumF {α : Type} (xs : List α) (f : α → Int) : sumV (.lst (xs.map fun x => .int (f x))) = some (.int (sumI (xs.map f))) := by
  have := v_sum (xs.map f)
  rw [List.map_map] at this
  exact this
theorem joinL1 : ∀ cs : List Nat, joinL [] (cs.map fun c => [c]) = cs
  | [] => rfl
  | [c] => rfl
  | c :: d :: cs => by
    show [c] ++ [] ++ joinL [] ([d] :: cs.map fun c => [c]) = _
    rw [show ([d] :: cs.map fun c => [c]) = (d :: cs).map fun c => [c] from rfl, joinL1 (d :: cs)]; rfl
theorem sumLen1 : ∀ cs : List Nat, sumLen (cs.map fun c => [c]) = cs.length
  | [] => rfl
  | c :: cs => by show 1 + sumLen _ = _; rw [sumLen1 cs]; simp; omega
theorem v_join (cs : List Nat) (h : cs.length ≤ LINE) : joinV (.str []) (.lst (cs.map fun c => .str [c])) = some (.str cs) := by
  unfold joinV
  have := strsP_map (cs.map fun c => [c])
  rw [List.map_map] at this
  simp only
  rw [show (cs.map fun c => PV.str [c]) = cs.map (PV.str ∘ fun c => [c]) from rfl, this]
  show (if sumLen (cs.map fun c => [c]) + (cs.map fun c => [c]).length * 0 ≤ LINE then _ else _) = _
  rw [sumLen1, if_pos (by omega), joinL1]
theorem v_joinF {α : Type} (xs : List α) (f : α → Nat) (h : xs.length ≤ LINE) : joinV (.str []) (.lst (xs.map fun x => .str [f x])) = some (.str (xs.map f)) := by
  have := v_join (xs.map f) (by rw [List.length_map]; exact h)
  rw [List.map_map] at this
  exact this
theorem v_zip {α β : Type} (f : α → PV) (g : β → PV) : ∀ (xs : List α) (ys : List β), zipL (xs.map f) (ys.map g) = (xs.zip ys).map fun p => .tup [f p.1, g p.2]
  | [], _ => rfl
  | _ :: _, [] => rfl
  | x :: xs, y :: ys => by show _ :: zipL (xs.map f) (ys.map g) = _; rw [v_zip f g xs ys]; rfl
theorem v_lenS (w : List Nat) (h : w.length ≤ LINE) : lenV (.str w) = some (.int w.length) := if_pos h
theorem v_range : ∀ (n : Nat) (lo : Int), rangeL lo n = (List.range n).map fun i => PV.int (lo + (i : Nat))
  | 0, _ => rfl
  | n + 1, lo => by
    show PV.int lo :: rangeL (lo + 1) n = _
    rw [v_range n (lo + 1), List.range_succ_eq_map, List.map_cons, List.map_map]
    congr 1
    · simp
    · exact List.map_congr_left fun i _ => by simp; omega
theorem v_range0 (n : Nat) : rangeL 0 n = (List.range n).map fun i => PV.int (i : Nat) := by rw [v_range]; simp
theorem rng1_nat (n : Nat) (h : n ≤ LINE) : (if near 1000000000 (n : Int) then some (rangeL 0 (n : Int).toNat) else none) = some ((List.range n).map fun i => PV.int (i : Nat)) := by
  rw [if_pos (near_mk (by omega) (by have : LINE = 16777216 := rfl; omega))]
  rw [Int.toNat_natCast, v_range0]
theorem rng1_ok {f : M (List PV)} {r r' : Env} {n : Nat} (h : f r = .ok [.int n] r') (hn : n ≤ LINE) : rng1 f r = .ok ((List.range n).map fun i => PV.int (i : Nat)) r' := by
  show bnd f _ r = _
  rw [e_bnd, h]
  show lft (if near 1000000000 (n : Int) then some (rangeL 0 (n : Int).toNat) else none) r' = _
  rw [rng1_nat n hn]; rfl
theorem v_mulI (i j : Int) (h : mulOk i j = true) : mulV (.int i) (.int j) = some (.int (i * j)) := if_pos h
theorem mulOk1 {i j : Int} (h1 : -9223372036854775807 ≤ i) (h2 : i ≤ 9223372036854775807) : mulOk i j = true := by unfold mulOk; rw [near_mk h1 h2]; rfl
theorem mulOk2 {i j : Int} (h1 : -9223372036854775807 ≤ j) (h2 : j ≤ 9223372036854775807) : mulOk i j = true := by unfold mulOk; rw [near_mk h1 h2, Bool.or_true]
end G7

set_option Elab.async false
set_option linter.all false
set_option maxRecDepth 100000
set_option autoImplicit false
namespace G7
open PySem PySem.Spec PyProof.Rows L2
abbrev AlX : Type := Bool × He.AlD
abbrev ExF := PySem.W.Frag → Bool
def obsX (ex : List ExF) (fa : List He.Fa) (fn : List He.DefD) (K : PySem.W.Frag) : AlX := (ex.all fun f => f K, He.obsD fa fn K)
def valX (fn : List He.DefD) : AlX := (true, He.valD fn)
def SaysX (ex : List ExF) (fa : List He.Fa) (fn : List He.DefD) (K : PySem.W.Frag) : Prop := obsX ex fa fn K = valX fn
def obsXG (n : Nat) (ex : List ExF) (fa : List He.Fa) (fn : List He.DefD) (g : Addr → Option Obj) : AlX := obsX ex fa fn (He.frG g (He.asD g n))
def hookX (n : Nat) (ex : List ExF) (fa : List He.Fa) (fn : List He.DefD) : PySem.W.Hook where
  α := AlX
  obs := fun s => obsXG n ex fa fn s.heap.get?
  val := fun _ => valX fn
  says := fun _ h => ∃ K : PySem.W.Frag, K.In h ∧ SaysX ex fa fn K
  of := fun _ _ e => ⟨_, He.frG_in, e⟩
  keeps := fun _ _ _ ⟨K, hK, c⟩ k => ⟨K, PySem.W.Frag.In.keeps hK k, c⟩
theorem obsXG_eq {n : Nat} {ex : List ExF} {fa : List He.Fa} {fn : List He.DefD} {g : Addr → Option Obj} {s : Shared} (h : ∀ a, g a = s.heap.get? a) : obsXG n ex fa fn g = (hookX n ex fa fn).obs s := by
  have e : g = s.heap.get? := funext h
  rw [e] <;> rfl
section
variable {ex : List ExF} {fa : List He.Fa} {fn : List He.DefD} {K : PySem.W.Frag}
theorem SaysX.d (c : SaysX ex fa fn K) : He.SaysD fa fn K := congrArg (fun z : AlX => z.2) c
theorem SaysX.more (c : SaysX ex fa fn K) (i : Nat) {f : ExF} (h : ex[i]? = some f := by rfl) : f K = true := by
  have c1 : (ex.all fun f => f K) = true := congrArg (fun z : AlX => z.1) c
  exact List.all_eq_true.mp c1 f (List.mem_of_getElem? h)
end
/-- the law's promise, from what its denotation is worth -/
theorem sp_law {K : PySem.W.Frag} {n : Nat} {D : List PV → FR} (h : ∀ ns : List Int, ns.length ≤ n → D [.scr ns] = .ok (.bl true) .non) (H : Hp) (a : Addr) (ns : List Int) (hl : ns.length ≤ n) (hS : SqL K H a (ns.map V.int)) :
    spP K EE0 1 D [.ref a] H (fun v _ => v = .bl true) fun _ _ _ => False := by
  refine ⟨H, [.scr ns], fun _ _ z => z, .cons (.scr hS) .nil, rfl, ?_⟩
  rw [h ns hl]
  intro w F' H' g r
  cases r
  rfl
end G7

set_option Elab.async false
set_option linter.all false
set_option maxRecDepth 100000
set_option autoImplicit false
namespace G7
open PySem PySem.Spec PyProof.Rows L2
def insB {α : Type} (lt : α → α → Bool) (x : α) : List α → List α
  | [] => [x]
  | y :: r => if lt y x then y :: insB lt x r else x :: y :: r
def srt {α : Type} (lt : α → α → Bool) : List α → List α
  | [] => []
  | x :: r => insB lt x (srt lt r)
def ltI (i j : Int) : Bool := decide (i < j)
def sortV : PV → Option PV
  | .lst xs => match strsP xs with
    | some ys => some (.lst ((srt ltL ys).map .str))
    | none => match intsP xs with
      | some ns => some (.lst ((srt ltI ns).map .int))
      | none => none
  | _ => none
/-- a strict order of texts, ints -/
structure TotO {α : Type} (lt : α → α → Bool) : Prop where
  asym : ∀ x y, lt x y = true → lt y x = false
  tr : ∀ x y z, lt y x = false → lt z y = false → lt z x = false
  ext : ∀ x y, lt x y = false → lt y x = false → x = y
theorem TotO.irr {α : Type} {lt : α → α → Bool} (O : TotO lt) (x : α) : lt x x = false := by
  cases h : lt x x with
  | false => rfl
  | true => have := O.asym x x h; rw [h] at this; cases this
section
variable {α : Type} {lt : α → α → Bool}
theorem insB_perm (x : α) : ∀ l : List α, (insB lt x l).Perm (x :: l)
  | [] => List.Perm.refl _
  | y :: r => by
    unfold insB
    split
    · exact ((insB_perm x r).cons y).trans (List.Perm.swap x y r)
    · exact List.Perm.refl _
theorem srt_perm : ∀ l : List α, (srt lt l).Perm l
  | [] => List.Perm.refl _
  | x :: r => (insB_perm x _).trans ((srt_perm r).cons x)
abbrev Up (lt : α → α → Bool) (l : List α) : Prop := l.Pairwise fun x y => lt y x = false
theorem insB_up (O : TotO lt) (x : α) : ∀ {l : List α}, Up lt l → Up lt (insB lt x l)
  | [], _ => List.pairwise_singleton _ _
  | y :: r, h => by
    obtain ⟨h1, h2⟩ := List.pairwise_cons.mp h
    unfold insB
    split
    · rename_i q
      refine List.pairwise_cons.mpr ⟨fun z hz => ?_, insB_up O x h2⟩
      rcases List.mem_cons.mp ((insB_perm x r).mem_iff.mp hz) with rfl | hz
      · exact O.asym _ _ q
      · exact h1 z hz
    · rename_i q
      have q' : lt y x = false := by cases e : lt y x with | true => exact absurd e q | false => rfl
      refine List.pairwise_cons.mpr ⟨fun z hz => ?_, h⟩
      rcases List.mem_cons.mp hz with rfl | hz
      · exact q'
      · exact O.tr _ _ _ q' (h1 z hz)
theorem srt_up (O : TotO lt) : ∀ l : List α, Up lt (srt lt l)
  | [] => List.Pairwise.nil
  | x :: r => insB_up O x (srt_up O r)
theorem up_uniq (O : TotO lt) : ∀ {l m : List α}, Up lt l → Up lt m → l.Perm m → l = m
  | [], m, _, _, p => (List.nil_perm.mp p).symm
  | x :: l, [], _, _, p => by have := p.length_eq; simp at this
  | x :: l, y :: m, h1, h2, p => by
    obtain ⟨a1, a2⟩ := List.pairwise_cons.mp h1
    obtain ⟨b1, b2⟩ := List.pairwise_cons.mp h2
    have e : x = y := by
      rcases List.mem_cons.mp (p.mem_iff.mp (List.mem_cons_self (a := x) (l := l))) with e | hx
      · exact e
      · rcases List.mem_cons.mp (p.mem_iff.mpr (List.mem_cons_self (a := y) (l := m))) with e | hy
        · exact e.symm
        · exact O.ext x y (b1 x hx) (a1 y hy)
    subst e
    rw [up_uniq O a2 b2 (List.Perm.cons_inv p)]
theorem srt_of (O : TotO lt) {l m : List α} (h : Up lt m) (p : m.Perm l) : srt lt l = m := up_uniq O (srt_up O l) h ((srt_perm l).trans p.symm)
theorem srt_eq (O : TotO lt) {l m : List α} (p : l.Perm m) : srt lt l = srt lt m := srt_of O (srt_up O m) ((srt_perm m).trans p.symm)
end
theorem ltI_tot : TotO ltI := by
  refine ⟨fun x y h => ?_, fun x y z h1 h2 => ?_, fun x y h1 h2 => ?_⟩
  · have := of_decide_eq_true h; exact decide_eq_false (by omega)
  · have a := of_decide_eq_false h1; have b := of_decide_eq_false h2; exact decide_eq_false (by omega)
  · have a := of_decide_eq_false h1; have b := of_decide_eq_false h2; omega
theorem ltL_ext : ∀ x y : List Nat, ltL x y = false → ltL y x = false → x = y
  | [], [], _, _ => rfl
  | [], _ :: _, h, _ => by cases h
  | _ :: _, [], _, h => by cases h
  | x :: xs, y :: ys, h1, h2 => by
    unfold ltL at h1 h2
    split at h1
    · cases h1
    · split at h1
      · rename_i q; rw [if_pos q] at h2; cases h2
      · rename_i p q
        rw [if_neg q, if_neg p] at h2
        have e : x = y := by omega
        rw [e, ltL_ext xs ys h1 h2]
theorem ltL_asym : ∀ x y : List Nat, ltL x y = true → ltL y x = false
  | [], [], h => by cases h
  | [], _ :: _, _ => rfl
  | _ :: _, [], h => by cases h
  | x :: xs, y :: ys, h => by
    unfold ltL at h ⊢
    split at h
    · rename_i q; rw [if_neg (by omega), if_pos q]
    · split at h
      · cases h
      · rename_i p q; rw [if_neg q, if_neg p]; exact ltL_asym xs ys h
theorem ltL_tr : ∀ x y z : List Nat, ltL y x = false → ltL z y = false → ltL z x = false
  | _, _, [], h1, h2 => by
    rename_i x y
    cases x with
    | nil => rfl
    | cons a x => cases y with
      | nil => cases h1
      | cons b y => cases h2
  | [], _, _ :: _, _, _ => rfl
  | x :: xs, [], z :: zs, h1, _ => by cases h1
  | x :: xs, y :: ys, z :: zs, h1, h2 => by
    unfold ltL at h1 h2 ⊢
    split at h1
    · cases h1
    · split at h2
      · cases h2
      · rename_i p q
        rw [if_neg (by omega)]
        split
        · rfl
        · rename_i r
          have e1 : x = y := by omega
          have e2 : y = z := by omega
          subst e1 e2
          rw [if_neg (by omega)] at h1 h2
          exact ltL_tr xs ys zs h1 h2
theorem ltL_tot : TotO ltL := ⟨ltL_asym, ltL_tr, ltL_ext⟩
theorem ltL_lt : ∀ x y : List Nat, ltL x y = decide (x < y)
  | [], [] => rfl
  | [], _ :: _ => rfl
  | _ :: _, [] => rfl
  | x :: xs, y :: ys => by
    unfold ltL
    by_cases h1 : x < y
    · rw [if_pos h1, decide_eq_true]; exact List.Lex.rel h1
    · by_cases h2 : y < x
      · rw [if_neg h1, if_pos h2]; symm; apply decide_eq_false; intro h; cases h with
        | rel h => exact h1 h
        | cons h => omega
      · rw [if_neg h1, if_neg h2]
        have e : x = y := by omega
        subst e
        rw [ltL_lt xs ys]
        by_cases h3 : xs < ys
        · rw [decide_eq_true h3, decide_eq_true]; exact List.Lex.cons h3
        · rw [decide_eq_false h3]; symm; apply decide_eq_false; intro h; cases h with
          | rel h => exact absurd h (Nat.lt_irrefl _)
          | cons h => exact h3 h
def cpsOf : Value → List Nat
  | .str x _ => x.cps.toList
  | _ => []
def ltSv (v u : Value) : Bool := ltL (cpsOf v) (cpsOf u)
theorem swoS : SrtO.Swo ltSv := ⟨fun _ _ h => ltL_asym _ _ h, fun _ _ _ h1 h2 => ltL_tr _ _ _ h1 h2⟩
section
variable {prog : Program} {w : World} {A : Around} {s : Shared}
theorem strs_sortable {a : Addr} {vs : List Value} {ss : List Str} (hI : StrsAre vs ss) (h2 : 2 ≤ vs.length) : SrtO.SortableO prog w A s a vs ltSv := by
  intro h' _
  refine ⟨oneType', fun Q E hq => ?_, fun p q hm hm' => ?_⟩
  · match vs, hI, h2 with
    | v1 :: v2 :: rest, hI, _ => rw [keyKind_strs hI]; exact wpAny_pure hq
    | [], _, h => exact absurd h (by decide)
    | [v], _, h => exact absurd h (by simp)
  · obtain ⟨x, t, e⟩ := hI.all _ hm
    obtain ⟨y, u, e'⟩ := hI.all _ hm'
    show wpAny (model prog w) A (keyLt' oneType' p.1 q.1) (fun r s' => s' = _ ∧ r = ltSv p.1 q.1) (fun _ _ => False) _
    rw [e, e', keyLt'_oneType]
    exact oneLt_str ⟨rfl, (ltL_lt _ _).symm⟩
end
def rSortS (K : PySem.W.Frag) : List V → Hp → VK → Prop := fun vs H Q => ∃ (a : Addr) (ss : List (List Nat)), vs = [V.ref a] ∧ SqL K H a (ss.map fun l => V.str ⟨l.toArray⟩) ∧
  ∀ p, H p = none → Q (.ref p) (upd H p (.lst ((srt ltL ss).map fun l => V.str ⟨l.toArray⟩)))
theorem strOf_cps : ∀ {vs : List Value} {ss : List (List Nat)}, StrsAre vs (ss.map fun l => (⟨l.toArray⟩ : Str)) → vs.map cpsOf = ss
  | _, [], h => by cases h; rfl
  | _, s :: ss, h => by
    cases h with
    | cons x t h => show _ :: _ = _; rw [strOf_cps h]; rfl
theorem vals_of_cps : ∀ {us : List Value}, (∀ u ∈ us, ∃ x t, u = Value.str x t) → Vals ((us.map cpsOf).map fun l => V.str ⟨l.toArray⟩) us
  | [], _ => Paired.nil
  | u :: us, h => by
    obtain ⟨x, t, rfl⟩ := h u (List.mem_cons_self ..)
    refine Paired.cons ⟨t, ?_⟩ (vals_of_cps fun v hv => h v (List.mem_cons_of_mem _ hv))
    rfl
theorem cr_sortS {X : Cx} : CallR X (.builtin "sorted") (rSortS X.K) := by
  intro pins s σ H vs us Q I r h
  obtain ⟨a, ss, rfl, hs, q⟩ := h
  obtain ⟨its, rv, hl, hz⟩ := I.list hs
  rw [Vals.ref1 r]
  have hi : StrsAre its (ss.map fun l => (⟨l.toArray⟩ : Str)) := Vals.strs (xs := ss.map fun l => (⟨l.toArray⟩ : Str)) (by rw [List.map_map]; exact rv)
  refine SrtO.sorted_ord swoS hl.isList (by rw [← rv.length]; exact hz) (fun h2 h₁ a' _ _ => strs_sortable hi h2) fun out h1 h2 => ?_
  have hall : ∀ u ∈ out, ∃ x t, u = Value.str x t := fun u hu => hi.all u (h2.perm.mem_iff.mp hu)
  have hp : (out.map cpsOf).Perm ss := by
    have := h2.perm.map cpsOf
    rw [strOf_cps hi] at this
    exact this
  have e : srt ltL ss = out.map cpsOf := srt_of ltL_tot (List.pairwise_map.mpr h1) hp
  obtain ⟨ep, he'⟩ := PyProof.Rows.sortedAll_at s.heap its out.toArray
  have hlen : ((srt ltL ss).map fun l => V.str ⟨l.toArray⟩).length ≤ sizeLine := by
    rw [List.length_map, (srt_perm ss).length_eq]
    rw [List.length_map] at hz; exact hz
  have hv : Vals ((srt ltL ss).map fun l => V.str ⟨l.toArray⟩) out := by rw [e]; exact vals_of_cps hall
  exact ⟨.ref _, upd H (s.heap.objs.size + 1) (.lst ((srt ltL ss).map fun l => V.str ⟨l.toArray⟩)),
    I.laid (t' := s.toks) (fun _ _ => PyProof.Rows.sortedAll_old) (Nat.le_succ _) ⟨hlen, out, ep, hv, he'⟩, rfl, q _ (I.hok.fresh (Nat.le_succ _))⟩
def rSortA (K : PySem.W.Frag) : List V → Hp → VK → Prop := fun xs H Q => rSortS K xs H Q ∨ rSortedI K xs H Q
theorem call_sortX {X : Cx} : CallR X (.builtin "sorted") (rSortA X.K) := CallR.or cr_sortS cr_sortedI
section
variable {K : PySem.W.Frag} {F H : Hp}
theorem strsP_some : ∀ {xs : List PV} {ys : List (List Nat)}, strsP xs = some ys → xs = ys.map .str
  | [], ys, h => by cases h; rfl
  | .str b :: r, ys, h => by
    have h' : (strsP r).map (b :: ·) = some ys := h
    cases e : strsP r with
    | none => rw [e] at h'; cases h'
    | some zs => rw [e] at h'; cases h'; rw [strsP_some e]; rfl
  | .non :: _, _, h => by cases h
  | .bl _ :: _, _, h => by cases h
  | .int _ :: _, _, h => by cases h
  | .lst _ :: _, _, h => by cases h
  | .tup _ :: _, _, h => by cases h
  | .dct _ :: _, _, h => by cases h
  | .ref _ :: _, _, h => by cases h
  | .scr _ :: _, _, h => by cases h
theorem intsP_some : ∀ {xs : List PV} {ys : List Int}, intsP xs = some ys → xs = ys.map .int
  | [], ys, h => by cases h; rfl
  | .int b :: r, ys, h => by
    have h' : (intsP r).map (b :: ·) = some ys := h
    cases e : intsP r with
    | none => rw [e] at h'; cases h'
    | some zs => rw [e] at h'; cases h'; rw [intsP_some e]; rfl
  | .non :: _, _, h => by cases h
  | .bl _ :: _, _, h => by cases h
  | .str _ :: _, _, h => by cases h
  | .lst _ :: _, _, h => by cases h
  | .tup _ :: _, _, h => by cases h
  | .dct _ :: _, _, h => by cases h
  | .ref _ :: _, _, h => by cases h
  | .scr _ :: _, _, h => by cases h
theorem Reps.strs2 : ∀ {vs : List V} {ss : List (List Nat)}, Reps K F vs (ss.map .str) → vs = (ss.map fun l => V.str ⟨l.toArray⟩) ∧ ∀ l ∈ ss, ∀ c ∈ l, c < 1114112
  | _, [], h => by cases h; exact ⟨rfl, fun _ h => by simp at h⟩
  | _, s :: ss, h => by
    cases h with
    | cons a b =>
      cases a with
      | str hb =>
        obtain ⟨e, h2⟩ := Reps.strs2 b
        refine ⟨by rw [e]; rfl, fun l hl => ?_⟩
        rcases List.mem_cons.mp hl with rfl | hl
        · exact hb
        · exact h2 l hl
theorem Reps.ofStrs : ∀ {ss : List (List Nat)}, (∀ l ∈ ss, ∀ c ∈ l, c < 1114112) → Reps K F (ss.map fun l => V.str ⟨l.toArray⟩) (ss.map .str)
  | [], _ => .nil
  | s :: ss, h => .cons (.str (h s (List.mem_cons_self ..))) (Reps.ofStrs fun l hl => h l (List.mem_cons_of_mem _ hl))
theorem Reps.ints' : ∀ {vs : List V} {ss : List Int}, Reps K F vs (ss.map .int) → vs = ss.map V.int
  | _, [], h => by cases h; rfl
  | _, s :: ss, h => by
    cases h with
    | cons a b => cases a; rw [Reps.ints' b]; rfl
theorem Reps.ofInts : ∀ {ss : List Int}, Reps K F (ss.map V.int) (ss.map .int)
  | [] => .nil
  | s :: ss => .cons (.int s) Reps.ofInts
theorem opr_sort : OprN K (rSortA K) (on1 sortV) := by
  intro F H xs as v Q le ss e q
  obtain ⟨a, rfl, e0⟩ := on1_some e; replace e := e0
  obtain ⟨w, rfl, sx⟩ := ss.one
  unfold sortV at e
  split at e
  · rename_i xs
    obtain ⟨p, vs, rfl, h1, r1⟩ := sx.lst le
    split at e
    · rename_i ys hy
      cases e
      rw [strsP_some hy] at r1
      obtain ⟨rfl, hb⟩ := r1.strs2
      exact .inl ⟨p, ys, rfl, .of h1, fun n hn => q.newL le hn (Reps.ofStrs fun l hl => hb l ((srt_perm ys).mem_iff.mp hl))⟩
    · split at e
      · rename_i ns hn
        cases e
        rw [intsP_some hn] at r1
        have ev := r1.ints'
        subst ev
        refine .inr ⟨p, ns, rfl, .of h1, fun ns' n hp hs hn => ?_⟩
        have e2 : srt ltI ns = ns' := srt_of ltI_tot (hs.imp fun {x y} h => decide_eq_false (by omega)) hp
        rw [e2] at q
        exact q.newL le hn Reps.ofInts
      · cases e
  · cases e
end
end G7

set_option Elab.async false
set_option linter.all false
set_option maxRecDepth 100000
set_option autoImplicit false
namespace G7
open PySem PySem.Spec PyProof.Rows L2
inductive Md where
  | v (a : PV)
  | o (a : PV)
def Md.sl : Md → Sl
  | .v a => .val a
  | .o a => .own a
def mV (f : M PV) : M Md := bnd f fun a => ret (.v a)
def mO (f : M PV) : M Md := bnd f fun a => ret (.o a)
def parM (i j : Nat) (f : M (List Md)) : M Out := bnd f fun ms ρ => match ms with
  | [m, n] => .ok .nx ((ρ.set i (some m.sl)).set j (some n.sl))
  | _ => .bad
def parM3 (i j k : Nat) (f : M (List Md)) : M Out := bnd f fun ms ρ => match ms with
  | [m, n, o] => .ok .nx (((ρ.set i (some m.sl)).set j (some n.sl)).set k (some o.sl))
  | _ => .bad
def RMs (K : PySem.W.Frag) (F H : Hp) (σ : St) (ρ : Env) : Hp → List V → List Md → Prop
  | _, [], [] => True
  | H0, w :: ws, .v a :: ms => Rep K F w a ∧ RMs K F H σ ρ H0 ws ms
  | H0, w :: ws, .o a :: ms => ∃ p Hm, w = .ref p ∧ F p = none ∧ Own K F H p a ∧ ¬ OwnAt σ ρ p ∧ H0 p = none ∧ Hm p ≠ none ∧ (∀ b, H0 b ≠ none → Hm b ≠ none) ∧ RMs K F H σ ρ Hm ws ms
  | _, _, _ => False
def tMs (K : PySem.W.Frag) (Ex : Nat → Hp → Prop) (f : M (List Md)) : TA := fun σ H Q => ∃ F ρ, At K Ex (fun F' H' σ' ρ' => RMs K F' H' σ' ρ' H) F ρ f σ H Q
section
variable {K : PySem.W.Frag} {Ex : Nat → Hp → Prop} {J : List Nat} {F F1 F' H H1 H' : Hp} {σ σ1 σ' : St} {ρ ρ1 : Env}
theorem RMs.base : ∀ {ws : List V} {ms : List Md} {H0 H1 : Hp}, (∀ b, H0 b ≠ none → H1 b ≠ none) → RMs K F H σ ρ H1 ws ms → RMs K F H σ ρ H0 ws ms
  | [], [], _, _, _, _ => trivial
  | [], .v _ :: _, _, _, _, h => h.elim
  | [], .o _ :: _, _, _, _, h => h.elim
  | _ :: _, [], _, _, _, h => h.elim
  | w :: ws, .v a :: ms, _, _, d, ⟨h1, h2⟩ => ⟨h1, h2.base d⟩
  | w :: ws, .o a :: ms, H0, H1, d, ⟨p, Hm, h1, h2, h3, h4, h5, h6, h7, h8⟩ => ⟨p, Hm, h1, h2, h3, h4, by
      cases q : H0 p with
      | none => rfl
      | some o => exact absurd h5 (d p (by rw [q]; simp)), h6, fun b hb => h7 b (d b hb), h8⟩
theorem m_nil' {Q : List V → Hp → Prop} (h : tMs K Ex nil σ H Q) : tNil σ H Q := by
  obtain ⟨F, ρ, h⟩ := h
  exact h.ret (w := []) trivial
theorem m_val' {f : M PV} {g : M (List Md)} {Q : List V → Hp → Prop} (h : tMs K Ex (cns (mV f) g) σ H Q) : tCons (tX K Ex f) (tMs K Ex g) σ H Q := by
  obtain ⟨F, ρ, hr, h⟩ := h
  refine ⟨F, ρ, hr, ?_⟩
  unfold cns mV at h
  simp only [G7.bnd, G7.ret] at h
  cases e : f ρ with
  | bad => rw [e] at h; exact h
  | exc c r => rw [e] at h; exact h
  | ok v r =>
    simp only [e] at h
    intro w F1 H1 st rp
    refine ⟨F1, r, st.re, ?_⟩
    cases e2 : g r with
    | bad => rw [e2] at h; exact h
    | exc c r2 => rw [e2] at h; exact fun F2 H2 st2 => h F2 H2 (st.trans st2)
    | ok vs r2 =>
      rw [e2] at h
      exact fun ws F2 H2 st2 rs => h (w :: ws) F2 H2 (st.trans st2) ⟨Rep.mono st2.le rp, RMs.base st.dom rs⟩
theorem m_own' {f : M PV} {g : M (List Md)} {Q : List V → Hp → Prop} (h : tMs K Ex (cns (mO f) g) σ H Q) : tCons (tF K Ex f) (tMs K Ex g) σ H Q := by
  obtain ⟨F, ρ, hr, h⟩ := h
  refine ⟨F, ρ, hr, ?_⟩
  unfold cns mO at h
  simp only [G7.bnd, G7.ret] at h
  cases e : f ρ with
  | bad => rw [e] at h; exact h
  | exc c r => rw [e] at h; exact h
  | ok v r =>
    simp only [e] at h
    intro w F1 H1 st ⟨a, ew, nf, ow, no, n0⟩
    refine ⟨F1, r, st.re, ?_⟩
    cases e2 : g r with
    | bad => rw [e2] at h; exact h
    | exc c r2 => rw [e2] at h; exact fun F2 H2 st2 => h F2 H2 (st.trans st2)
    | ok vs r2 =>
      rw [e2] at h
      intro ws F2 H2 st2 rs
      obtain ⟨o, ho⟩ := ow.some
      refine h (w :: ws) F2 H2 (st.trans st2) ⟨a, H1, ew, ?_, ow.mono st2.le ((st2.frm a o ho no).trans ho.symm), fun z => ?_, n0, by rw [ho]; simp, st.dom, rs⟩
      · cases q : F2 a with
        | none => rfl
        | some u =>
          rcases st2.fz a u q with y | y | y
          · rw [nf] at y; cases y
          · rw [ho] at y; cases y
          · exact absurd y no
      · rcases st2.sub a z with y | y
        · exact no y
        · rw [ho] at y; cases y
/-- one more slot is set -/
theorem Step.setM {H0 F0 : Hp} {ρ0 : Env} (s : Step K F0 σ H0 ρ0 F σ1 H ρ) {i : Nat} {w : V} {ws : List V} {m : Md} {ms : List Md} {Hb : Hp} (hb : ∀ b, H0 b ≠ none → Hb b ≠ none) (r : RMs K F H σ1 ρ Hb (w :: ws) (m :: ms)) :
    Step K F0 σ H0 ρ0 F (σ1.set i (some w)) H (ρ.set i (some m.sl)) ∧ ∃ Hm, (∀ b, H0 b ≠ none → Hm b ≠ none) ∧ RMs K F H (σ1.set i (some w)) (ρ.set i (some m.sl)) Hm ws ms := by
  have keep : ∀ {ws : List V} {ms : List Md} {σ2 : St} {ρ2 : Env} {Hm : Hp}, (∀ p, Hm p = none → F p = none → ¬ OwnAt σ1 ρ p → ¬ OwnAt σ2 ρ2 p) → RMs K F H σ1 ρ Hm ws ms → RMs K F H σ2 ρ2 Hm ws ms := by
    intro ws
    induction ws with
    | nil => intro ms σ2 ρ2 Hm _ h; cases ms with
      | nil => trivial
      | cons m ms => cases m <;> exact h.elim
    | cons w ws ih =>
      intro ms σ2 ρ2 Hm hk h
      cases ms with
      | nil => exact h.elim
      | cons m ms =>
        cases m with
        | v a => exact ⟨h.1, ih hk h.2⟩
        | o a =>
          obtain ⟨p, Hm', h1, h2, h3, h4, h5, h6, h7, h8⟩ := h
          refine ⟨p, Hm', h1, h2, h3, hk p h5 h2 h4, h5, h6, h7, ih (fun q hq => hk q ?_) h8⟩
          cases e : Hm q with
          | none => rfl
          | some o => exact absurd hq (h7 q (by rw [e]; simp))
  cases m with
  | v a =>
    obtain ⟨h1, h2⟩ := r
    have s1 : Step K F σ1 H ρ F (σ1.set i (some w)) H (ρ.set i (some (.val a))) := s.re.setV h1
    refine ⟨s.trans s1, Hb, hb, keep (fun p hp hf no z => ?_) h2⟩
    obtain ⟨j, u, q1, q2⟩ := z
    by_cases hj : j = i
    · subst hj
      by_cases hl : j < ρ.length
      · rw [show (Md.v a).sl = Sl.val a from rfl, List.getElem?_set_self hl] at q1; cases q1
      · rw [List.getElem?_eq_none (by rw [List.length_set]; omega)] at q1; cases q1
    · rw [List.getElem?_set_ne (Ne.symm hj)] at q1 q2
      exact no ⟨j, u, q1, q2⟩
  | o a =>
    obtain ⟨p, Hm, rfl, h2, h3, h4, h5, h6, h7, h8⟩ := r
    have n0 : H0 p = none := by
      cases e : H0 p with
      | none => rfl
      | some o => exact absurd h5 (hb p (by rw [e]; simp))
    refine ⟨s.setO h2 h3 h4 n0, Hm, fun b z => h7 b (hb b z), keep (fun q hq hf no z => ?_) h8⟩
    obtain ⟨j, u, q1, q2⟩ := z
    by_cases hj : j = i
    · subst hj
      by_cases hl : j < σ1.length
      · rw [List.getElem?_set_self hl] at q2; cases q2; exact h6 hq
      · rw [List.getElem?_eq_none (by rw [List.length_set]; omega)] at q2; cases q2
    · rw [List.getElem?_set_ne (Ne.symm hj)] at q1 q2
      exact no ⟨j, u, q1, q2⟩
theorem RMs.len : ∀ {ws : List V} {ms : List Md} {H0 : Hp}, RMs K F H σ ρ H0 ws ms → ws.length = ms.length
  | [], [], _, _ => rfl
  | [], .v _ :: _, _, h => h.elim
  | [], .o _ :: _, _, h => h.elim
  | _ :: _, [], _, h => h.elim
  | w :: ws, .v a :: ms, _, ⟨_, h2⟩ => congrArg (· + 1) h2.len
  | w :: ws, .o a :: ms, _, ⟨_, _, _, _, _, _, _, _, _, h⟩ => congrArg (· + 1) h.len
theorem s_par {i j : Nat} {f : M (List Md)} (hi : i ∉ J) (hj : j ∉ J) {D : Ends} (h : sX K Ex J (parM i j f) D σ H) : tPar i j (tMs K Ex f) D σ H := by
  obtain ⟨F, ρ, hr, h⟩ := h
  refine ⟨F, ρ, hr, ?_⟩
  unfold parM G7.bnd at h
  cases e : f ρ with
  | bad => rw [e] at h; exact h
  | exc c r => rw [e] at h; exact fun F' H' st => h F' σ H' st Keep.refl
  | ok ms r =>
    rw [e] at h
    intro ws F1 H1 st rs
    match ms, ws, rs, h with
    | [m, n], [w, u], rs, h =>
      obtain ⟨s1, Hm, d1, r1⟩ := st.setM (i := i) (fun _ z => z) rs
      obtain ⟨s2, _⟩ := s1.setM (i := j) d1 r1
      exact ⟨w, u, rfl, h F1 _ H1 s2 (Keep.trans (Keep.set hi) (Keep.set hj))⟩
    | [m, n], [], rs, _ => exact absurd rs.len (by simp)
    | [m, n], [_], rs, _ => exact absurd rs.len (by simp)
    | [m, n], _ :: _ :: _ :: _, rs, _ => exact absurd rs.len (by simp)
theorem s_par3 {i j k : Nat} {f : M (List Md)} (hi : i ∉ J) (hj : j ∉ J) (hk : k ∉ J) {D : Ends} (h : sX K Ex J (parM3 i j k f) D σ H) : tPar3 i j k (tMs K Ex f) D σ H := by
  obtain ⟨F, ρ, hr, h⟩ := h
  refine ⟨F, ρ, hr, ?_⟩
  unfold parM3 G7.bnd at h
  cases e : f ρ with
  | bad => rw [e] at h; exact h
  | exc c r => rw [e] at h; exact fun F' H' st => h F' σ H' st Keep.refl
  | ok ms r =>
    rw [e] at h
    intro ws F1 H1 st rs
    match ms, ws, rs, h with
    | [m, n, o], [w, u, x], rs, h =>
      obtain ⟨s1, Hm, d1, r1⟩ := st.setM (i := i) (fun _ z => z) rs
      obtain ⟨s2, Hm2, d2, r2⟩ := s1.setM (i := j) d1 r1
      obtain ⟨s3, _⟩ := s2.setM (i := k) d2 r2
      exact ⟨w, u, x, rfl, h F1 _ H1 s3 (Keep.trans (Keep.trans (Keep.set hi) (Keep.set hj)) (Keep.set hk))⟩
    | [m, n, o], [], rs, _ => exact absurd rs.len (by simp)
    | [m, n, o], [_], rs, _ => exact absurd rs.len (by simp)
    | [m, n, o], [_, _], rs, _ => exact absurd rs.len (by simp)
    | [m, n, o], _ :: _ :: _ :: _ :: _, rs, _ => exact absurd rs.len (by simp)
end
section
variable {X : Cx} {Ex : Nat → Hp → Prop} {J : List Nat} {a b c e : Expr} {es : List Expr} {g1 : M PV}
theorem ma_nil : PA X [] (tMs X.K Ex nil) := pa_weak pa_nil fun _ _ _ => m_nil'
theorem ma_val {fa : M (List Md)} (ha : PE X e (tX X.K Ex g1)) (hr : PA X es (tMs X.K Ex fa)) (hs : starEach (e :: es) X.env = (false, eval e X.env) :: starEach es X.env := by rfl) : PA X (e :: es) (tMs X.K Ex (cns (mV g1) fa)) := pa_weak (pa_cons ha hr hs) fun _ _ _ => m_val'
theorem ma_own {fa : M (List Md)} (ha : PE X e (tF X.K Ex g1)) (hr : PA X es (tMs X.K Ex fa)) (hs : starEach (e :: es) X.env = (false, eval e X.env) :: starEach es X.env := by rfl) : PA X (e :: es) (tMs X.K Ex (cns (mO g1) fa)) := pa_weak (pa_cons ha hr hs) fun _ _ _ => m_own'
theorem ds_par {i j : Nat} {x y : Str} {fa : M (List Md)} {px py pt pos : Pos} {kt k2 : Nat} {pt2 : Pos} (hi' : i ∉ J) (hj' : j ∉ J) (hc : X.calm = true) (hN : X.N.Nodup) (hi : X.N[i]? = some x) (hj : X.N[j]? = some y) (hij : i ≠ j)
    (hx : X.env.scope.names.lookup x = some .local) (hy : X.env.scope.names.lookup y = some .local) (ha : PA X [a, b] (tMs X.K Ex fa))
    (hw : swappedStores [.Tuple [.Name x px, .Name y py] kt pt] (.Tuple [a, b] k2 pt2) X.env = pure (some [x, y]))
    (hs : swapsWithSole [.Tuple [.Name x px, .Name y py] kt pt] (.Tuple [a, b] k2 pt2) pos.line X.env = pure false := by rfl) :
    PS X (.Assign [.Tuple [.Name x px, .Name y py] kt pt] (.Tuple [a, b] k2 pt2) pos) (sX X.K Ex J (parM i j fa)) :=
  ps_weak (ps_par hc hN hi hj hij hx hy ha hw hs) fun _ _ _ => s_par hi' hj'
theorem ds_par3 {i j k : Nat} {x y z : Str} {fa : M (List Md)} {px py pz pt pos : Pos} {kt k2 : Nat} {pt2 : Pos} (hi' : i ∉ J) (hj' : j ∉ J) (hk' : k ∉ J) (hc : X.calm = true) (hN : X.N.Nodup) (hi : X.N[i]? = some x) (hj : X.N[j]? = some y) (hk : X.N[k]? = some z) (hij : i ≠ j) (hik : i ≠ k) (hjk : j ≠ k)
    (hx : X.env.scope.names.lookup x = some .local) (hy : X.env.scope.names.lookup y = some .local) (hz : X.env.scope.names.lookup z = some .local) (ha : PA X [a, b, c] (tMs X.K Ex fa))
    (hw : swappedStores [.Tuple [.Name x px, .Name y py, .Name z pz] kt pt] (.Tuple [a, b, c] k2 pt2) X.env = pure (some [x, y, z]))
    (hs : swapsWithSole [.Tuple [.Name x px, .Name y py, .Name z pz] kt pt] (.Tuple [a, b, c] k2 pt2) pos.line X.env = pure false := by rfl) :
    PS X (.Assign [.Tuple [.Name x px, .Name y py, .Name z pz] kt pt] (.Tuple [a, b, c] k2 pt2) pos) (sX X.K Ex J (parM3 i j k fa)) :=
  ps_weak (ps_par3 hc hN hi hj hk hij hik hjk hx hy hz ha hw hs) fun _ _ _ => s_par3 hi' hj' hk'
end
def dict1 (fk fv : M PV) : M PV := bnd fk fun k => bnd fv fun v => if keyOk k then ret (.dct [(k, v)]) else fun _ => .bad
def op3 (g : PV → PV → PV → Option PV) (f f2 f3 : M Tk) : M PV := bnd f fun t => bnd f2 fun u => bnd f3 fun v => bnd (force t) fun a => bnd (force u) fun b => bnd (force v) fun c => lft (g a b c)
theorem hu1 {k : Nat} {A : Around} (h : Room k A) : A.units + 1 < cLine := by have := h.un; omega
section
variable {K : PySem.W.Frag} {Ex : Nat → Hp → Prop} {F H : Hp} {σ : St} {ρ : Env}
theorem f_dict0 {Q : VK} (h : tF K Ex (ret (.dct [])) σ H Q) : tDNewK σ H Q := by
  obtain ⟨F, ρ, h⟩ := h
  intro p np
  obtain ⟨st, nf, no⟩ := h.1.fresh np (.dK [])
  exact h.2 _ F _ st ⟨p, rfl, nf, ⟨[], upd_same, .nil⟩, no, np⟩
/-- a thing that no slot reaches, laid on the way, is filled -/
theorem Step.fill {F2 H2 : Hp} {ρ2 : Env} {p : Addr} {o o' : HO} (np : H p = none) (s0 : Step K F σ H ρ F σ (upd H p o) ρ) (nf : F p = none) (no : ¬ OwnAt σ ρ p) (s : Step K F σ (upd H p o) ρ F2 σ H2 ρ2) :
    H2 p = some o ∧ F2 p = none ∧ ¬ OwnAt σ ρ2 p ∧ Step K F σ H ρ F2 σ (upd H2 p o') ρ2 := by
  have hp1 : (upd H p o) p = some o := upd_same
  have no2 : ¬ OwnAt σ ρ2 p := fun z => by
    rcases s.sub p z with y | y
    · exact no y
    · rw [hp1] at y; cases y
  have nf2 : F2 p = none := by
    cases q : F2 p with
    | none => rfl
    | some u =>
      rcases s.fz p u q with y | y | y
      · rw [nf] at y; cases y
      · rw [hp1] at y; cases y
      · exact absurd y no
  have t := s0.trans s
  refine ⟨s.frm p _ hp1 no, nf2, no2, ⟨t.le, fun a u e n => ?_, fun a n => ?_, t.sub, t.fz, t.len, ⟨fun b u e => ?_, s.re.val, fun i v e => ?_, s.re.inj, s.re.len⟩⟩⟩
  · have : a ≠ p := fun z => by rw [z, np] at e; cases e
    rw [upd_ne this]; exact t.frm a u e n
  · by_cases hb : a = p
    · subst hb; rw [upd_same]; simp
    · rw [upd_ne hb]; exact t.dom a n
  · have : b ≠ p := fun z => by rw [z, nf2] at e; cases e
    rw [upd_ne this]; exact s.re.le b u e
  · obtain ⟨a, q1, q2, q3⟩ := s.re.own i v e
    have : a ≠ p := fun z => no2 ⟨i, v, e, by rw [← z]; exact q1⟩
    exact ⟨a, q1, q2, q3.mono (Same.refl _) (upd_ne this)⟩
theorem f_dict1 {fk fv : M PV} {Q : VK} (h : tF K Ex (dict1 fk fv) σ H Q) : tDisp [(tX K Ex fk, tX K Ex fv)] σ H Q := by
  obtain ⟨F, ρ, hr, h⟩ := h
  intro p np
  obtain ⟨st0, nf, no⟩ := hr.fresh np (.dK [])
  unfold dict1 at h
  simp only [G7.bnd] at h
  refine ⟨F, ρ, st0.re, ?_⟩
  cases e1 : fk ρ with
  | bad => simp only [e1] at h
  | exc c r => simp only [e1] at h; exact fun F' H' st => h F' H' (st0.trans st)
  | ok k r1 =>
    simp only [e1] at h
    intro x F1 H1 s1 rx
    refine ⟨F1, r1, s1.re, ?_⟩
    cases e2 : fv r1 with
    | bad => simp only [e2] at h
    | exc c r => simp only [e2] at h; exact fun F' H' st => h F' H' (st0.trans (s1.trans st))
    | ok v r2 =>
      simp only [e2] at h
      intro y F2 H2 s2 ry
      by_cases hk : keyOk k = true
      · rw [if_pos hk] at h
        obtain ⟨kk, rfl, kp⟩ := SRep.key (SRep.up (H := H2) (Rep.mono s2.le rx)) hk
        obtain ⟨a1, a2, a3, a4⟩ := Step.fill (o' := .dK [(kk, y)]) np st0 nf no (s1.trans s2)
        exact ⟨a1, [(kk, y)], rfl, by simp, h _ F2 _ a4 ⟨p, rfl, a2, ⟨_, upd_same, .cons kp ry .nil⟩, a3, np⟩⟩
      · rw [if_neg hk] at h; exact h.elim
theorem x_dget {f f2 : M Tk} {Q : VK} (h : tX K Ex (op2 getD f f2) σ H Q) : tDGet (tO K Ex f) (tO K Ex f2) σ H Q := by
  obtain ⟨F, ρ, h⟩ := h
  refine ⟨F, ρ, (At.bnd h).mono fun x H1 ⟨F1, ρ1, t, st1, r1, h1⟩ => ?_⟩
  refine ⟨F1, ρ1, (At.bnd h1).mono fun y H2 ⟨F2, ρ2, u, st2, r2, h2⟩ => ?_⟩
  obtain ⟨a, sa, h3⟩ := At.force h2 (RT.mono st2.le r1)
  obtain ⟨b, sb, h4⟩ := At.force h3 r2
  obtain ⟨v, e, q⟩ := At.lft h4
  unfold getD at e
  split at e
  · split at e
    · rename_i hk
      obtain ⟨p, ks, rfl, hd, rd⟩ := sa.dct h4.1.le
      obtain ⟨kk, rfl, kp⟩ := sb.key hk
      rcases rd.look kp with ⟨z, _⟩ | ⟨x', w, z1, z2, z3⟩
      · rw [z] at e; cases e
      · rw [z1] at e; cases e
        exact ⟨p, w, rfl, .inl ⟨ks, kk, hd, rfl, z2.symm⟩, q w F2 H2 (Step.refl h4.1) z3⟩
    · cases e
  · cases e
theorem tk_isD {F : Hp} {H : Hp} {x : V} {kvs : List (PV × PV)} (le : Same F H) (s : SRep K F H x (.dct kvs)) : ∃ p, x = .ref p ∧ IsD H p := by
  obtain ⟨p, ks, rfl, hd, _⟩ := s.dct le
  exact ⟨p, rfl, .inl ⟨ks, hd⟩⟩
end
section
variable {X : Cx} {Ex : Nat → Hp → Prop} {a b c e : Expr} {es : List Expr} {pos apos : Pos} {f f2 f3 : M Tk} {g1 g2 : M PV}
theorem df_dict0 : PE X (.Dict [] [] pos) (tF X.K Ex (ret (.dct []))) := pe_weak pe_dnewK fun _ _ _ => f_dict0
theorem df_dict1 (hu : X.A.units + 1 < cLine) (ha : PE X a (tX X.K Ex g1)) (hb : PE X b (tX X.K Ex g2)) : PE X (.Dict [some a] [b] pos) (tF X.K Ex (dict1 g1 g2)) :=
  pe_weak (pe_disp (pps_cons ha hb pps_nil) rfl rfl (by simp) (by simp)) fun _ _ _ => f_dict1
theorem dx_dget (hu : X.A.units + 1 < cLine) (ha : PE X a (tO X.K Ex f)) (hb : PE X b (tO X.K Ex f2)) (hs : NoSl b) : PE X (.Subscript a b pos) (tX X.K Ex (op2 getD f f2)) := pe_weak (pe_dget hu ha hb hs) fun _ _ _ => x_dget
end
def OprNF (K : PySem.W.Frag) (r : List V → Hp → VK → Prop) (g : List PV → Option PV) : Prop := ∀ F H xs as v Q, Same F H → SReps K F H xs as → g as = some v →
  (∀ p o, H p = none → Own K F (upd H p o) p v → Q (.ref p) (upd H p o)) → r xs H Q
def Opr2F (K : PySem.W.Frag) (r : R2) (g : PV → PV → Option PV) : Prop := ∀ F H x y a b v Q, Same F H → SRep K F H x a → SRep K F H y b → g a b = some v →
  (∀ p o, H p = none → Own K F (upd H p o) p v → Q (.ref p) (upd H p o)) → r x y H Q
section
variable {K : PySem.W.Frag} {Ex : Nat → Hp → Prop} {F H : Hp} {σ : St} {ρ : Env}
theorem f_opn {r : List V → Hp → VK → Prop} {g : List PV → Option PV} {f : M (List Tk)} (hg : OprNF K r g) {Q : VK} (h : tF K Ex (opn g f) σ H Q) : tCB r (tOA K Ex f) σ H Q := by
  obtain ⟨F, ρ, h⟩ := h
  refine ⟨F, ρ, (At.bnd h).mono fun x H1 ⟨F1, ρ1, t, st1, r1, h1⟩ => ?_⟩
  obtain ⟨a, sa, h3⟩ := At.forces h1 r1
  obtain ⟨v, e, q⟩ := At.lft h3
  refine hg F1 H1 x a v Q h3.1.le sa e fun p o np ow => ?_
  obtain ⟨st, nf, no⟩ := h3.1.fresh np o
  exact q _ F1 _ st ⟨p, rfl, nf, ow, no, st1.none_of np⟩
theorem f_op2 {r : R2} {g : PV → PV → Option PV} {f f2 : M Tk} (hg : Opr2F K r g) {Q : VK} (h : tF K Ex (op2 g f f2) σ H Q) : tOp r (tO K Ex f) (tO K Ex f2) σ H Q := by
  obtain ⟨F, ρ, h⟩ := h
  refine ⟨F, ρ, (At.bnd h).mono fun x H1 ⟨F1, ρ1, t, st1, r1, h1⟩ => ?_⟩
  refine ⟨F1, ρ1, (At.bnd h1).mono fun y H2 ⟨F2, ρ2, u, st2, r2, h2⟩ => ?_⟩
  obtain ⟨a, sa, h3⟩ := At.force h2 (RT.mono st2.le r1)
  obtain ⟨b, sb, h4⟩ := At.force h3 r2
  obtain ⟨v, e, q⟩ := At.lft h4
  refine hg F2 H2 x y a b v Q h4.1.le sa sb e fun p o np ow => ?_
  obtain ⟨st, nf, no⟩ := h4.1.fresh np o
  exact q _ F2 _ st ⟨p, rfl, nf, ow, no, st1.none_of (st2.none_of np)⟩
theorem opf_list : OprNF K (rListX K) (on1 listV) := by
  intro F H xs as v Q le ss e q
  obtain ⟨a, rfl, e0⟩ := on1_some e; replace e := e0
  obtain ⟨w, rfl, sx⟩ := ss.one
  unfold listV at e
  split at e
  · cases e
    obtain ⟨p, vs, rfl, h1, r1⟩ := sx.lst le
    exact .inl ⟨p, vs, rfl, .inl (.of h1), fun n hn => q n _ hn ⟨_, upd_same, r1⟩⟩
  · cases e
    obtain ⟨p, vs, rfl, h1, r1⟩ := sx.tup
    exact .inl ⟨p, vs, rfl, .inr (seqT_mono le h1), fun n hn => q n _ hn ⟨_, upd_same, r1⟩⟩
  · cases e
    obtain ⟨p, vs, rfl, h1, r1⟩ := sx.dct le
    exact .inr ⟨p, vs, rfl, h1, fun n hn => q n _ hn ⟨_, upd_same, r1.keys⟩⟩
  · cases e
def mulL : PV → PV → Option PV
  | .lst x, .int j => if x.length * j.toNat ≤ LINE && near 1000000000 j then some (.lst (rep j.toNat x)) else none
  | _, _ => none
theorem opf_mul : Opr2F K (rMulA K) mulL := by
  intro F H x y a b v Q le sx sy e q
  unfold mulL at e
  split at e
  · split at e
    · rename_i xs j hm
      cases e
      simp only [Bool.and_eq_true, decide_eq_true_eq] at hm
      obtain ⟨p, vs, e1, h1, r1⟩ := sx.lst le
      refine .inr (.inr (.inl ⟨p, j, vs, e1, sy.int, h1, by have := near_of hm.2; omega, by have := near_of hm.2; omega, by rw [r1.len, line_eq]; exact hm.1, fun n hn => ?_⟩))
      exact q n _ hn ⟨_, upd_same, r1.rep j.toNat⟩
    · cases e
  · cases e
end
section
variable {X : Cx} {Ex : Nat → Hp → Prop} {a b e : Expr} {es : List Expr} {pos p : Pos} {f f2 : M Tk} {fa : M (List Tk)} {x : Str}
theorem df_callT {id : String} {r : List V → Hp → VK → Prop} {g : List PV → Option PV} (hc : CallR X (.type id) r) (hgg : OprNF X.K r g) (hg : Gl X x) (hm : X.mg x = none) (hv : bootBuiltins x = some (.type id)) (ha : PA X (e :: es) (tOA X.K Ex fa)) (hn : x ≠ "__name__" := by decide) (hdb : (x == ("__debug__" : Str)) = false := by decide)
    (he : starEach (e :: es) X.env = (false, eval e X.env) :: starEach es X.env := by rfl) (hpl : (backTo pos (starEach es X.env)).any (·.1) = false := by rfl) : PE X (.Call (.Name x p) (e :: es) [] pos) (tF X.K Ex (opn g fa)) :=
  pe_weak (pe_callTy hc hg hm hv ha hn hdb he hpl) fun _ _ _ => f_opn hgg
theorem df_mul (ha : PE X a (tO X.K Ex f)) (hb : PE X b (tO X.K Ex f2)) : PE X (.BinOp a .Mult b pos) (tF X.K Ex (op2 mulL f f2)) := pe_weak (pe_op op_mulA ha hb) fun _ _ _ => f_op2 opf_mul
end
def rg1V : PV → Option PV
  | .int j => if near 16777216 j then some (.lst (rangeL 0 j.toNat)) else none
  | _ => none
def rg2V : PV → PV → Option PV
  | .int i, .int j => if near 8000000 i && near 8000000 j then some (.lst (rangeL i (j - i).toNat)) else none
  | _, _ => none
def lrng1 (f : M PV) : M PV := bnd f fun a => lft (rg1V a)
def lrng2 (f g : M PV) : M PV := bnd f fun a => bnd g fun b => lft (rg2V a b)
section
variable {K : PySem.W.Frag} {Ex : Nat → Hp → Prop} {F H : Hp} {σ : St} {ρ : Env}
theorem rgV_rep {i j : Int} : Reps K F (rgV i j) (rangeL i (j - i).toNat) := by
  rw [v_range]
  unfold rgV
  generalize List.range (j - i).toNat = l
  induction l with
  | nil => exact .nil
  | cons x l ih => exact .cons (.int _) ih
theorem rgV_rep0 {j : Int} : Reps K F (rgV 0 j) (rangeL 0 j.toNat) := by
  have := rgV_rep (K := K) (F := F) (i := 0) (j := j)
  rw [Int.sub_zero] at this; exact this
theorem near_rg {j : Int} (h : near 16777216 j = true) : RgOk 0 j := by have := near_of h; exact ⟨by omega, by omega, by omega, by omega, by omega⟩
theorem near_rg2 {i j : Int} (h : near 8000000 i = true) (h' : near 8000000 j = true) : RgOk i j := by have := near_of h; have := near_of h'; exact ⟨by omega, by omega, by omega, by omega, by omega⟩
theorem x_lrng1 {f : M PV} {Q : VK} (h : tX K Ex (lrng1 f) σ H Q) : tLstRg (tRg1 (tX K Ex f)) σ H Q := by
  obtain ⟨F, ρ, h⟩ := h
  refine ⟨F, ρ, (At.bnd (R := RV K) h).mono fun x H1 ⟨F1, ρ1, t, st1, r1, h1⟩ => ?_⟩
  obtain ⟨v, e, q⟩ := At.lft h1
  unfold rg1V at e
  split at e
  · split at e
    · rename_i j hj
      cases e; cases r1
      exact ⟨j, rfl, near_rg hj, fun p np => q _ _ _ ((Grow.new h1.1.le np).step h1.1) (.lst upd_same (rgV_rep0.mono (Grow.new h1.1.le np).f))⟩
    · cases e
  · cases e
theorem f_lrng1 {f : M PV} {Q : VK} (h : tF K Ex (lrng1 f) σ H Q) : tLstRg (tRg1 (tX K Ex f)) σ H Q := by
  obtain ⟨F, ρ, h⟩ := h
  refine ⟨F, ρ, (At.bnd (R := RV K) h).mono fun x H1 ⟨F1, ρ1, t, st1, r1, h1⟩ => ?_⟩
  obtain ⟨v, e, q⟩ := At.lft h1
  unfold rg1V at e
  split at e
  · split at e
    · rename_i j hj
      cases e; cases r1
      refine ⟨j, rfl, near_rg hj, fun p np => ?_⟩
      obtain ⟨st, nf, no⟩ := h1.1.fresh np (.lst (rgV 0 j))
      exact q _ F1 _ st ⟨p, rfl, nf, ⟨_, upd_same, rgV_rep0⟩, no, st1.none_of np⟩
    · cases e
  · cases e
theorem x_lrng2 {f g : M PV} {Q : VK} (h : tX K Ex (lrng2 f g) σ H Q) : tLstRg (tRg2 (tX K Ex f) (tX K Ex g)) σ H Q := by
  obtain ⟨F, ρ, h⟩ := h
  refine ⟨F, ρ, (At.bnd (R := RV K) h).mono fun x H1 ⟨F1, ρ1, t, st1, r1, h1⟩ => ?_⟩
  refine ⟨F1, ρ1, (At.bnd (R := RV K) h1).mono fun y H2 ⟨F2, ρ2, u, st2, r2, h2⟩ => ?_⟩
  obtain ⟨v, e, q⟩ := At.lft h2
  unfold rg2V at e
  split at e
  · split at e
    · rename_i hj
      cases e; cases r1; cases r2
      rw [Bool.and_eq_true] at hj
      exact ⟨_, _, rfl, rfl, near_rg2 hj.1 hj.2, fun p np => q _ _ _ ((Grow.new h2.1.le np).step h2.1) (.lst upd_same (rgV_rep.mono (Grow.new h2.1.le np).f))⟩
    · cases e
  · cases e
end
section
variable {X : Cx} {Ex : Nat → Hp → Prop} {a b : Expr} {pos p p2 pos2 : Pos} {g1 g2 : M PV}
theorem dx_lrng1 (hc : X.calm = true) (hl : Gl X "list") (ml : X.mg "list" = none) (hg : Gl X "range") (hm : X.mg "range" = none) (ha : PE X a (tX X.K Ex g1)) (na : starEach [a] X.env = (false, eval a X.env) :: starEach [] X.env := by rfl)
    (n2 : starEach [.Call (.Name "range" p) [a] [] pos] X.env = (false, eval (.Call (.Name "range" p) [a] [] pos) X.env) :: starEach [] X.env := by rfl) : PE X (.Call (.Name "list" p2) [.Call (.Name "range" p) [a] [] pos] [] pos2) (tX X.K Ex (lrng1 g1)) :=
  pe_weak (pe_listRg hc hl ml (prg_1 hg hm ha na) n2) fun _ _ _ => x_lrng1
theorem df_lrng1 (hc : X.calm = true) (hl : Gl X "list") (ml : X.mg "list" = none) (hg : Gl X "range") (hm : X.mg "range" = none) (ha : PE X a (tX X.K Ex g1)) (na : starEach [a] X.env = (false, eval a X.env) :: starEach [] X.env := by rfl)
    (n2 : starEach [.Call (.Name "range" p) [a] [] pos] X.env = (false, eval (.Call (.Name "range" p) [a] [] pos) X.env) :: starEach [] X.env := by rfl) : PE X (.Call (.Name "list" p2) [.Call (.Name "range" p) [a] [] pos] [] pos2) (tF X.K Ex (lrng1 g1)) :=
  pe_weak (pe_listRg hc hl ml (prg_1 hg hm ha na) n2) fun _ _ _ => f_lrng1
theorem dx_lrng2 (hc : X.calm = true) (hl : Gl X "list") (ml : X.mg "list" = none) (hg : Gl X "range") (hm : X.mg "range" = none) (ha : PE X a (tX X.K Ex g1)) (hb : PE X b (tX X.K Ex g2)) (na : starEach [a, b] X.env = (false, eval a X.env) :: starEach [b] X.env := by rfl) (nb : starEach [b] X.env = (false, eval b X.env) :: starEach [] X.env := by rfl) (hp : (backTo pos (starEach [b] X.env)).any (·.1) = false := by rfl)
    (n2 : starEach [.Call (.Name "range" p) [a, b] [] pos] X.env = (false, eval (.Call (.Name "range" p) [a, b] [] pos) X.env) :: starEach [] X.env := by rfl) : PE X (.Call (.Name "list" p2) [.Call (.Name "range" p) [a, b] [] pos] [] pos2) (tX X.K Ex (lrng2 g1 g2)) :=
  pe_weak (pe_listRg hc hl ml (prg_2 hg hm ha hb na nb hp) n2) fun _ _ _ => x_lrng2
end
end G7

set_option Elab.async false
set_option linter.all false
set_option maxRecDepth 100000
set_option autoImplicit false
namespace G7
open PySem PySem.Spec PyProof.Rows L2
section
variable {prog : Program} {w : World} {A : Around} {E : Value → Shared → Prop} {s : Shared}
theorem pick_back (xs : Array Value) : ((List.range xs.size).filterMap fun (m : Nat) => xs[((xs.size : Int) - 1 + (m : Int) * (-1)).toNat]?).toArray = xs.toList.reverse.toArray := by
  have e : (List.range xs.size).filterMap (fun (m : Nat) => xs[((xs.size : Int) - 1 + (m : Int) * (-1)).toNat]?) = ((List.range xs.size).map fun k => xs.size - 1 - k).filterMap (xs[·]?) := by
    rw [List.filterMap_map]
    congr 1
    funext m
    show xs[_]? = xs[_]?
    congr 1
    show _ = xs.size - 1 - m
    omega
  rw [e, PySem.W.krv_range, List.filterMap_reverse, PySem.W.krv_all]
theorem getItem_tuple_back {t sl : Addr} {items : Array Value} {vs : Value} {Q : Value → Shared → Prop} (ht : IsTup s.heap t items) (hs : s.heap.IsSliceOf sl .none .none vs) (ps : IsPart vs (some (-1)))
    (h : Q (.ref s.heap.objs.size) { s with heap := s.heap.push { cls := .type "tuple", data := .seq items.toList.reverse.toArray } })
    (hsz : items.size ≤ sizeLine) : wpAny (model prog w) A (getItem (.ref t) (.ref sl)) Q E s := by
  have htake : sizeOk (.seq items.toList.reverse.toArray) := by
    show items.toList.reverse.toArray.size ≤ sizeLine
    rw [List.size_toArray, List.length_reverse, Array.length_toList]; exact hsz
  obtain ⟨os, hos, hcs, hds⟩ := id hs
  have hTs : s.TypeIs (.ref sl) "slice" := ⟨os, hos, hcs⟩
  unfold getItem
  try with_reducible refine wpAny_holding ?_
  first | refine wpAny_bind (wpAny_pure ?_) | skip
  refine wpAny_bind (wpAny_sequenceKey ht.typeIs (by decide) ?_)
  refine wpAny_bind (wpAny_callSpecial?_slot (name := Str.ofString "__getitem__") ht.typeIs PyProof.Rows.slot_tuple_getitem (wpAny_call_entry PyProof.Rows.slot_tuple_getitem ht.typeIs entry_tuple_getitem ?_ (args_tuple_getitem _ _)))
  show wpAny _ _ (Builtin.Tuple.tupleItemsOf (.ref t) >>= _) _ _ s
  refine wpAny_bind (tupleItemsOf_ ht ?_)
  refine wpAny_bind (wpAny_typeOf hTs ?_)
  rw [if_pos (by decide)]
  have hap : ∀ {Q : Int × Int × Nat → Shared → Prop}, Q ((items.size : Int) - 1, -1, items.size) s → wpAny (model prog w) A.in1 (Builtin.Slice.sliceApplied (.ref sl) (pure (items.size : Int))) Q (fun _ _ => False) s := by
    intro Q h
    unfold Builtin.Slice.sliceApplied Builtin.Slice.sliceFields
    refine wpAny_bind (wpAny_bind (wpAny_field hos hds (x := .none) rfl (wpAny_bind (wpAny_field hos hds (x := .none) rfl (wpAny_bind (wpAny_field hos hds (x := vs) rfl (wpAny_pure ?_)))))))
    refine wpAny_bind (HT.slicePart_ ps ?_)
    show wpAny _ _ (if ((-1 : Int) == 0) = true then _ else _) _ _ s
    rw [if_neg (by decide)]
    refine wpAny_bind (HT.slicePart_ .none (wpAny_bind (HT.slicePart_ .none (wpAny_bind (wpAny_pure ?_)))))
    show wpAny _ _ (pure ((items.size : Int) - 1, (-1 : Int), Builtin.Slice.slicePlaces ((items.size : Int) - 1) (-1) (-1))) _ _ s
    have e : Builtin.Slice.slicePlaces ((items.size : Int) - 1) (-1) (-1) = items.size := by
      unfold Builtin.Slice.slicePlaces
      rw [if_neg (by omega)]
      split
      · rw [show (-(-1 : Int)) = 1 from rfl, Int.ediv_one]; omega
      · omega
    rw [e]
    exact wpAny_pure h
  refine wpAny_bind (wpAny_mono (hap ?_) (fun _ _ z => z) (fun _ _ z => z.elim))
  show wpAny _ _ (if (((items.size : Int) - 1 == 0) && ((-1 : Int) == 1) && (items.size == items.size)) = true then _ else _) _ _ s
  rw [if_neg (by simp), pick_back]
  first
    | exact wpAny_bind (m := Builtin.Tuple.tupleExact _) (wpAny_newObj_type (wpAny_pure ⟨_, rfl, wpAny_pure h⟩) htake)
    | exact wpAny_bind (m := Builtin.Tuple.tupleExact _) (wpAny_newObj_type (wpAny_bind (wpAny_pure (wpAny_pure ⟨_, rfl, wpAny_pure h⟩))) htake)
    | exact wpAny_bind (wpAny_bind (m := Builtin.Tuple.tupleExact _) (wpAny_newObj_type (wpAny_pure (wpAny_pure ⟨_, rfl, wpAny_pure h⟩)) htake))
    | exact wpAny_bind (wpAny_bind (m := Builtin.Tuple.tupleExact _) (wpAny_newObj_type (wpAny_pure ⟨_, rfl, wpAny_pure h⟩) htake))
end
def tRevA (K : PySem.W.Frag) (te : TE) : TE := fun σ H Q => te σ H fun x H1 => ∃ a xs, x = .ref a ∧ ((SqL K H1 a xs ∧ ∀ p, H1 p = none → Q (.ref p) (upd H1 p (.lst xs.reverse))) ∨ (SqT K H1 a xs ∧ ∀ p, H1 p = none → Q (.ref p) (upd H1 p (.tup xs.reverse))))
theorem pe_revA {X : Cx} {e : Expr} {te : TE} {k : Nat} {p1 p2 p3 pos : Pos} (he : PE X e te) : PE X (.Subscript e (.Slice none none (some (.UnaryOp .USub (.Constant (.int 1) k p1) p2)) p3) pos) (tRevA X.K te) := by
  refine ⟨fun pins s σ H Q I h => ?_⟩
  refine Subscript_ (thn (he.run pins s σ H _ I h) fun v s1 ⟨x, H1, I1, r1, q1⟩ => ?_)
  obtain ⟨a, xs, ex, q⟩ := q1
  subst ex
  cases r1
  have hst : PO X (some (.UnaryOp .USub (.Constant (.int 1) k p1) p2)) (tPart (tUn (rU fun i => .int (-i)) (tC (.int 1)))) := po_some (pe_un un_neg pe_int)
  refine wpAny_Slice (thn (po_none.run pins s1 σ H1 (fun o H2 => o = none ∧ H2 = H1) I1 ⟨rfl, rfl⟩) fun vl s2 ⟨l, H2, I2, pl, el, e2⟩ => ?_)
  subst el e2
  refine thn (po_none.run pins s2 σ H2 (fun o H3 => o = none ∧ H3 = H2) I2 ⟨rfl, rfl⟩) fun vu s3 ⟨u, H3, I3, pu, eu, e3⟩ => ?_
  subst eu e3
  refine thn (hst.run pins s3 σ H3 (fun o H4 => o = some (-1) ∧ H4 = H3) I3 ⟨1, rfl, -1, rfl, rfl, rfl⟩) fun vs s4 ⟨o, H4, I4, ps, eo, e4⟩ => ?_
  subst eo e4
  have I5 : Inv X pins σ H4 { s4 with heap := s4.heap.push { cls := .type "slice", data := .fields #[vl, vu, vs] } } := I4.kept (t' := s4.toks) fun b ob q => Heap.get?_push_of_some _ q
  show wpAny (model X.prog X.w) X.A (subscriptTail e (.Slice none none (some (.UnaryOp .USub (.Constant (.int 1) k p1) p2)) p3) (.ref a) (.ref s4.heap.objs.size)) (EP X pins σ Q) X.xe { s4 with heap := s4.heap.push { cls := .type "slice", data := .fields #[vl, vu, vs] } }
  rcases q with ⟨hx, q⟩ | ⟨hx, q⟩
  · obtain ⟨its, r, ht, hz⟩ := I5.list hx
    have hlen := r.length
    refine tail_any (ops := [.ref a, .ref s4.heap.objs.size]) ht.isList.typeIs (PySem.slot_list_getitem.lookup) ?_ (by with_unfolding_all rfl)
    refine wpAny_getItem_list_slice ht.isList (Heap.IsSliceOf.new _ vl vu vs) pl pu ps (by decide) ?_ (by rw [List.size_toArray]; omega)
    rw [PySem.W.krv_pick]
    refine ⟨.ref _, _, I5.laid (t' := s4.toks) (o := .lst xs.reverse) (fun b ob q => Heap.get?_push_of_some _ q) (Nat.le_refl _) ?_, rfl, q _ (I5.hok.fresh (Nat.le_refl _))⟩
    exact ⟨by rw [List.length_reverse]; exact hz, _, 0, r.reverse, Heap.get?_push_size _ rfl⟩
  · obtain ⟨its, r, ht, hz⟩ := I5.tuple hx
    have hlen := r.length
    refine tail_any (ops := [.ref a, .ref s4.heap.objs.size]) ht.typeIs (PyProof.Rows.slot_tuple_getitem.lookup) ?_ (by with_unfolding_all rfl)
    cases pl; cases pu
    refine getItem_tuple_back ht (Heap.IsSliceOf.new _ .none .none vs) ps ?_ (by rw [List.size_toArray]; omega)
    refine ⟨.ref _, _, I5.laid (t' := s4.toks) (o := .tup xs.reverse) (fun b ob q => Heap.get?_push_of_some _ q) (Nat.le_refl _) ?_, rfl, q _ (I5.hok.fresh (Nat.le_refl _))⟩
    exact ⟨by rw [List.length_reverse]; exact hz, its.reverse, r.reverse, IsTup.new _ _⟩
def backA : PV → Option PV
  | .lst xs => some (.lst xs.reverse)
  | .tup xs => some (.tup xs.reverse)
  | _ => none
section
variable {K : PySem.W.Frag} {Ex : Nat → Hp → Prop} {F H : Hp} {σ : St} {ρ : Env}
theorem x_revA {f : M Tk} {Q : VK} (h : tX K Ex (op1 backA f) σ H Q) : tRevA K (tO K Ex f) σ H Q := by
  refine x_op1 (r := fun x H1 Q => ∃ a xs, x = .ref a ∧ ((SqL K H1 a xs ∧ ∀ p, H1 p = none → Q (.ref p) (upd H1 p (.lst xs.reverse))) ∨ (SqT K H1 a xs ∧ ∀ p, H1 p = none → Q (.ref p) (upd H1 p (.tup xs.reverse))))) ?_ h
  intro F H x a v Q le sx e q
  unfold backA at e
  split at e
  · cases e
    obtain ⟨p, vs, rfl, h1, r1⟩ := sx.lst le
    exact ⟨p, vs, rfl, .inl ⟨.of h1, fun n hn => q.newL le hn r1.rev⟩⟩
  · cases e
    obtain ⟨p, vs, rfl, h1, r1⟩ := sx.tup
    exact ⟨p, vs, rfl, .inr ⟨seqT_mono le h1, fun n hn => q.newT le hn r1.rev⟩⟩
  · cases e
end
theorem dx_revA {X : Cx} {Ex : Nat → Hp → Prop} {e : Expr} {f : M Tk} {k : Nat} {p1 p2 p3 pos : Pos} (he : PE X e (tO X.K Ex f)) : PE X (.Subscript e (.Slice none none (some (.UnaryOp .USub (.Constant (.int 1) k p1) p2)) p3) pos) (tX X.K Ex (op1 backA f)) := pe_weak (pe_revA he) fun _ _ _ => x_revA
end G7

set_option Elab.async false
set_option linter.all false
set_option maxRecDepth 100000
set_option autoImplicit false
namespace G7
open PySem PySem.Spec PyProof.Rows L2
section
variable {prog : Program} {w : World} {A : Around} {E : Value → Shared → Prop} {s : Shared}
theorem sum_tupRaw {l : Addr} {its : List Value} {ns : List Int} {Q : Value → Shared → Prop} (hh : A.handled = none) (hl : s.heap.IsTuple l its.toArray) (hi : IntsAre its ns)
    (h : ∀ h' tk t', (∀ b o, s.heap.get? b = some o → h'.get? b = some o) → Q (.int ns.sum t') { s with heap := h', toks := tk }) : wpAny (model prog w) A (call (.builtin "sum") [.ref l]) Q E s := by
  obtain ⟨xs, e⟩ := hi.allInts.items
  have hn : numsOf (intItems xs).toList = ns := by rw [← e]; exact hi.numsOf
  rw [nums_intItems] at hn
  rw [e] at hl
  have hlt : l < s.heap.objs.size := by obtain ⟨_, e, _⟩ := hl; exact Heap.lt_size e
  refine call_sum_walkG (wpAny_pyIter_tuple hl ?_)
  refine ⟨_, _, _, _, _, _, numAt xs, rfl, PySem.Walks.tuple (A := A.in1) hh s.heap.objs.size l (Nat.ne_of_lt hlt) (intItems xs), ⟨⟨_, Heap.get?_push_size _ rfl, rfl, rfl⟩, ?_⟩, ?_, (fun _ _ => intItems_at), fun h' tk t' hk => ?_⟩
  · obtain ⟨o, ho, r⟩ := hl; exact ⟨o, Heap.get?_push_of_some _ ho, r⟩
  · intro b hb
    show b < (s.heap.push _).objs.size
    rw [Heap.size_push]
    rcases List.mem_cons.mp hb with rfl | hb
    · exact Nat.lt_succ_self _
    · rcases List.mem_cons.mp hb with rfl | hb
      · exact Nat.lt_succ_of_lt hlt
      · cases hb
  · have := h h' tk t' fun b o q => hk b o (fun z => by
      have z1 : b = s.heap.objs.size := List.mem_singleton.mp z
      have z2 := Heap.lt_size q
      rw [z1] at z2
      exact Nat.lt_irrefl _ z2) (Heap.get?_push_of_some _ q)
    have e2 : preSum (numAt xs) (intItems xs).size = ns.sum := by
      rw [preSum_eq, List.take_of_length_le (by simp [intItems]), hn]
    rw [e2]; exact this
end
def rSumT (K : PySem.W.Frag) : List V → Hp → VK → Prop := fun vs H Q => ∃ (a : Addr) (ns : List Int), vs = [V.ref a] ∧ SqT K H a (ns.map V.int) ∧ Q (.int ns.sum) H
theorem cr_sumT {X : Cx} (hc : X.calm = true) : CallR X (.builtin "sum") (rSumT X.K) := by
  intro pins s σ H vs us Q I r h
  obtain ⟨a, ns, rfl, hs, q⟩ := h
  obtain ⟨its, rv, hl, _⟩ := I.tuple hs
  rw [Vals.ref1 r]
  exact sum_tupRaw (I.ok.hd hc) hl rv.ints fun h' tk t' hk => ⟨.int _, H, I.kept hk, ⟨_, rfl⟩, q⟩
def rSumA (K : PySem.W.Frag) : List V → Hp → VK → Prop := fun xs H Q => rSum K xs H Q ∨ rSumT K xs H Q
theorem call_sumX {X : Cx} (hc : X.calm = true) : CallR X (.builtin "sum") (rSumA X.K) := CallR.or (cr_sum hc) (cr_sumT hc)
def maxI : List Int → Int
  | [] => 0
  | [x] => x
  | x :: y :: r => let m := maxI (y :: r); if m > x then m else x
def minI : List Int → Int
  | [] => 0
  | [x] => x
  | x :: y :: r => let m := minI (y :: r); if m < x then m else x
def maxV : PV → Option PV
  | .lst xs => match intsP xs with
    | some (n :: ns) => some (.int (maxI (n :: ns)))
    | _ => none
  | _ => none
def minV : PV → Option PV
  | .lst xs => match intsP xs with
    | some (n :: ns) => some (.int (minI (n :: ns)))
    | _ => none
  | _ => none
theorem maxI_ok : ∀ {l : List Int}, l ≠ [] → maxI l ∈ l ∧ ∀ y ∈ l, y ≤ maxI l
  | [], h => absurd rfl h
  | [x], _ => ⟨by simp [maxI], fun y hy => by simp at hy; simp [maxI, hy]⟩
  | x :: y :: r, _ => by
    obtain ⟨h1, h2⟩ := maxI_ok (l := y :: r) (by simp)
    show (if maxI (y :: r) > x then maxI (y :: r) else x) ∈ _ ∧ ∀ z ∈ x :: y :: r, z ≤ if maxI (y :: r) > x then maxI (y :: r) else x
    split
    · refine ⟨List.mem_cons_of_mem _ h1, fun z hz => ?_⟩
      rcases List.mem_cons.mp hz with rfl | hz
      · omega
      · exact h2 z hz
    · refine ⟨by simp, fun z hz => ?_⟩
      rcases List.mem_cons.mp hz with rfl | hz
      · omega
      · have := h2 z hz; omega
theorem minI_ok : ∀ {l : List Int}, l ≠ [] → minI l ∈ l ∧ ∀ y ∈ l, minI l ≤ y
  | [], h => absurd rfl h
  | [x], _ => ⟨by simp [minI], fun y hy => by simp at hy; simp [minI, hy]⟩
  | x :: y :: r, _ => by
    obtain ⟨h1, h2⟩ := minI_ok (l := y :: r) (by simp)
    show (if minI (y :: r) < x then minI (y :: r) else x) ∈ _ ∧ ∀ z ∈ x :: y :: r, (if minI (y :: r) < x then minI (y :: r) else x) ≤ z
    split
    · refine ⟨List.mem_cons_of_mem _ h1, fun z hz => ?_⟩
      rcases List.mem_cons.mp hz with rfl | hz
      · omega
      · exact h2 z hz
    · refine ⟨by simp, fun z hz => ?_⟩
      rcases List.mem_cons.mp hz with rfl | hz
      · omega
      · have := h2 z hz; omega
theorem sumI_sum : ∀ l : List Int, sumI l = l.sum
  | [] => rfl
  | x :: l => by show x + sumI l = _; rw [sumI_sum l, List.sum_cons]
section
variable {K : PySem.W.Frag} {F H : Hp}
theorem opr_sum : OprN K (rSumA K) (on1 sumV) := by
  intro F H xs as v Q le ss e q
  obtain ⟨a, rfl, e0⟩ := on1_some e; replace e := e0
  obtain ⟨w, rfl, sx⟩ := ss.one
  unfold sumV at e
  split at e
  · rename_i xs
    obtain ⟨p, vs, rfl, h1, r1⟩ := sx.lst le
    cases hi : intsP xs with
    | none => rw [hi] at e; cases e
    | some ns =>
      rw [hi] at e; cases e
      rw [intsP_some hi] at r1
      have ev := r1.ints'
      subst ev
      exact .inl ⟨p, ns, rfl, .of h1, by rw [← sumI_sum]; exact q.same le (.int _)⟩
  · rename_i xs
    obtain ⟨p, vs, rfl, h1, r1⟩ := sx.tup
    cases hi : intsP xs with
    | none => rw [hi] at e; cases e
    | some ns =>
      rw [hi] at e; cases e
      rw [intsP_some hi] at r1
      have ev := r1.ints'
      subst ev
      exact .inr ⟨p, ns, rfl, seqT_mono le h1, by rw [← sumI_sum]; exact q.same le (.int _)⟩
  · cases e
theorem int_max_uniq {l : List Int} {m k : Int} (h1 : m ∈ l ∧ ∀ y ∈ l, y ≤ m) (h2 : k ∈ l ∧ ∀ y ∈ l, y ≤ k) : m = k := by
  have := h1.2 k h2.1; have := h2.2 m h1.1; omega
theorem int_min_uniq {l : List Int} {m k : Int} (h1 : m ∈ l ∧ ∀ y ∈ l, m ≤ y) (h2 : k ∈ l ∧ ∀ y ∈ l, k ≤ y) : m = k := by
  have := h1.2 k h2.1; have := h2.2 m h1.1; omega
theorem opr_max : OprN K (rMax K) (on1 maxV) := by
  intro F H xs as v Q le ss e q
  obtain ⟨a, rfl, e0⟩ := on1_some e; replace e := e0
  obtain ⟨w, rfl, sx⟩ := ss.one
  unfold maxV at e
  split at e
  · rename_i xs
    obtain ⟨p, vs, rfl, h1, r1⟩ := sx.lst le
    split at e
    · rename_i n ns hi
      cases e
      rw [intsP_some hi] at r1
      have ev := r1.ints'
      subst ev
      refine ⟨p, n :: ns, rfl, .of h1, by simp, fun m hm hy => ?_⟩
      rw [int_max_uniq ⟨hm, hy⟩ (maxI_ok (by simp))]
      exact q.same le (.int _)
    · cases e
  · cases e
theorem opr_min : OprN K (rMin K) (on1 minV) := by
  intro F H xs as v Q le ss e q
  obtain ⟨a, rfl, e0⟩ := on1_some e; replace e := e0
  obtain ⟨w, rfl, sx⟩ := ss.one
  unfold minV at e
  split at e
  · rename_i xs
    obtain ⟨p, vs, rfl, h1, r1⟩ := sx.lst le
    split at e
    · rename_i n ns hi
      cases e
      rw [intsP_some hi] at r1
      have ev := r1.ints'
      subst ev
      refine ⟨p, n :: ns, rfl, .of h1, by simp, fun m hm hy => ?_⟩
      rw [int_min_uniq ⟨hm, hy⟩ (minI_ok (by simp))]
      exact q.same le (.int _)
    · cases e
  · cases e
end
end G7

set_option Elab.async false
set_option linter.all false
set_option maxRecDepth 100000
set_option autoImplicit false
namespace G7
abbrev Wd := List Nat
def isW (w : Wd) : Prop := ∀ c ∈ w, c = 48 ∨ c = 49
structure Wn (n : Nat) (w : Wd) : Prop where
  l : w.length = n
  b : isW w
def xb (x y : Nat) : Nat := if x = y then 48 else 49
def xo : Wd → Wd → Wd
  | x :: a, y :: b => xb x y :: xo a b
  | _, _ => []
def zr (n : Nat) : Wd := List.replicate n 48
theorem isW_cons {x : Nat} {a : Wd} : isW (x :: a) ↔ (x = 48 ∨ x = 49) ∧ isW a := by
  unfold isW; simp
theorem isW_nil : isW [] := fun _ h => by simp at h
theorem Wn.cons {n : Nat} {x : Nat} {a : Wd} (hx : x = 48 ∨ x = 49) (h : Wn n a) : Wn (n + 1) (x :: a) := ⟨by simp [h.l], isW_cons.mpr ⟨hx, h.b⟩⟩
theorem Wn.zr (n : Nat) : Wn n (zr n) := ⟨by simp [G7.zr], fun c hc => .inl (by have := List.mem_replicate.mp hc; exact this.2)⟩
/-- induction over words of one length -/
theorem Wn.cases {n : Nat} {w : Wd} (h : Wn n w) : (n = 0 ∧ w = []) ∨ ∃ m x a, n = m + 1 ∧ w = x :: a ∧ (x = 48 ∨ x = 49) ∧ Wn m a := by
  cases w with
  | nil => exact .inl ⟨by have := h.l; simpa using this.symm, rfl⟩
  | cons x a =>
    obtain ⟨h1, h2⟩ := isW_cons.mp h.b
    exact .inr ⟨a.length, x, a, by have := h.l; simpa using this.symm, rfl, h1, ⟨rfl, h2⟩⟩
theorem xb_bit (x y : Nat) : xb x y = 48 ∨ xb x y = 49 := by unfold xb; split <;> simp
theorem xo_len : ∀ {a b : Wd}, a.length = b.length → (xo a b).length = a.length
  | [], [], _ => rfl
  | [], _ :: _, h => by simp at h
  | _ :: _, [], h => by simp at h
  | x :: a, y :: b, h => by simp [xo, xo_len (a := a) (b := b) (by simpa using h)]
theorem xo_bits : ∀ (a b : Wd), isW (xo a b)
  | x :: a, y :: b => isW_cons.mpr ⟨xb_bit x y, xo_bits a b⟩
  | [], _ => isW_nil
  | _ :: _, [] => isW_nil
theorem Wn.xo {n : Nat} {a b : Wd} (ha : Wn n a) (hb : Wn n b) : Wn n (xo a b) := ⟨by rw [xo_len (by rw [ha.l, hb.l]), ha.l], xo_bits a b⟩
theorem xb_comm (x y : Nat) : xb x y = xb y x := by unfold xb; by_cases h : x = y <;> simp [h, eq_comm]
theorem xo_comm : ∀ (a b : Wd), xo a b = xo b a
  | [], [] => rfl
  | [], _ :: _ => rfl
  | _ :: _, [] => rfl
  | x :: a, y :: b => by simp [xo, xb_comm x y, xo_comm a b]
theorem xb_assoc {x y z : Nat} (hx : x = 48 ∨ x = 49) (hy : y = 48 ∨ y = 49) (hz : z = 48 ∨ z = 49) : xb (xb x y) z = xb x (xb y z) := by
  rcases hx with rfl | rfl <;> rcases hy with rfl | rfl <;> rcases hz with rfl | rfl <;> rfl
theorem xo_assoc : ∀ {n : Nat} {a b c : Wd}, Wn n a → Wn n b → Wn n c → xo (xo a b) c = xo a (xo b c) := by
  intro n
  induction n with
  | zero => intro a b c ha hb hc; rcases ha.cases with ⟨_, rfl⟩ | ⟨m, _, _, h, _⟩
            · rfl
            · cases h
  | succ n ih =>
    intro a b c ha hb hc
    rcases ha.cases with ⟨h, _⟩ | ⟨m, x, a', h, rfl, hx, ha'⟩
    · cases h
    rcases hb.cases with ⟨h', _⟩ | ⟨m', y, b', h', rfl, hy, hb'⟩
    · cases h'
    rcases hc.cases with ⟨h'', _⟩ | ⟨m'', z, c', h'', rfl, hz, hc'⟩
    · cases h''
    cases h; cases h'; cases h''
    simp [xo, xb_assoc hx hy hz, ih ha' hb' hc']
theorem xo_self {n : Nat} : ∀ {a : Wd}, a.length = n → xo a a = zr n := by
  induction n with
  | zero => intro a h; cases a with
    | nil => rfl
    | cons x a => simp at h
  | succ n ih => intro a h; cases a with
    | nil => simp at h
    | cons x a => simp [xo, xb, ih (a := a) (by simpa using h), zr, List.replicate_succ]
theorem xo_zr : ∀ {n : Nat} {a : Wd}, Wn n a → xo a (zr n) = a := by
  intro n
  induction n with
  | zero => intro a ha; rcases ha.cases with ⟨_, rfl⟩ | ⟨m, _, _, h, _⟩
            · rfl
            · cases h
  | succ n ih =>
    intro a ha
    rcases ha.cases with ⟨h, _⟩ | ⟨m, x, a', h, rfl, hx, ha'⟩
    · cases h
    cases h
    have e : xb x 48 = x := by rcases hx with rfl | rfl <;> rfl
    show xb x 48 :: xo a' (zr n) = _
    rw [e, ih ha']
theorem xo_back {n : Nat} {a b : Wd} (ha : Wn n a) (hb : Wn n b) : xo (xo a b) b = a := by rw [xo_assoc ha hb hb, xo_self hb.l, xo_zr ha]
theorem xo_inj {n : Nat} {a b c : Wd} (ha : Wn n a) (hb : Wn n b) (hc : Wn n c) (h : xo a c = xo b c) : a = b := by rw [← xo_back ha hc, h, xo_back hb hc]
theorem xo_eq_zr {n : Nat} {a b : Wd} (ha : Wn n a) (hb : Wn n b) (h : xo a b = zr n) : a = b := by
  have := xo_back ha hb
  rw [h, xo_comm, xo_zr hb] at this
  exact this.symm
/-- the bit at a place -/
def at_ (w : Wd) (i : Nat) : Nat := w.getD i 48
theorem at_xo {n : Nat} {a b : Wd} (ha : Wn n a) (hb : Wn n b) (i : Nat) : at_ (xo a b) i = xb (at_ a i) (at_ b i) := by
  induction n generalizing a b i with
  | zero =>
    rcases ha.cases with ⟨_, rfl⟩ | ⟨m, _, _, h, _⟩
    · rcases hb.cases with ⟨_, rfl⟩ | ⟨m, _, _, h, _⟩
      · rfl
      · cases h
    · cases h
  | succ n ih =>
    rcases ha.cases with ⟨h, _⟩ | ⟨m, x, a', h, rfl, hx, ha'⟩
    · cases h
    rcases hb.cases with ⟨h', _⟩ | ⟨m', y, b', h', rfl, hy, hb'⟩
    · cases h'
    cases h; cases h'
    cases i with
    | zero => rfl
    | succ i => exact ih ha' hb' i
theorem at_bit {n : Nat} {a : Wd} (ha : Wn n a) (i : Nat) : at_ a i = 48 ∨ at_ a i = 49 := by
  unfold at_
  by_cases h : i < a.length
  · rw [List.getD_eq_getElem?_getD, List.getElem?_eq_getElem h]; exact ha.b _ (List.getElem_mem h)
  · rw [List.getD_eq_getElem?_getD, List.getElem?_eq_none (by omega)]; exact .inl rfl
theorem at_zr (n i : Nat) : at_ (zr n) i = 48 := by
  unfold at_ zr
  rw [List.getD_eq_getElem?_getD, List.getElem?_replicate]
  split <;> rfl
theorem ext_at {n : Nat} {a b : Wd} (ha : Wn n a) (hb : Wn n b) (h : ∀ i, i < n → at_ a i = at_ b i) : a = b := by
  refine List.ext_getElem (by rw [ha.l, hb.l]) fun i h1 h2 => ?_
  have := h i (by rw [← ha.l]; exact h1)
  unfold at_ at this
  rw [List.getD_eq_getElem?_getD, List.getD_eq_getElem?_getD, List.getElem?_eq_getElem h1, List.getElem?_eq_getElem h2] at this
  exact this
def LeadAt (w : Wd) (p : Nat) : Prop := at_ w p = 49 ∧ ∀ i, i < p → at_ w i = 48
theorem lead_lt {n : Nat} {w : Wd} {p : Nat} (hw : Wn n w) (h : LeadAt w p) : p < n := by
  by_cases hp : p < n
  · exact hp
  · have := h.1
    unfold at_ at this
    rw [List.getD_eq_getElem?_getD, List.getElem?_eq_none (by rw [hw.l]; omega)] at this
    cases this
theorem lead_uniq {n : Nat} {w : Wd} {p q : Nat} (h1 : LeadAt w p) (h2 : LeadAt w q) : p = q := by
  rcases Nat.lt_trichotomy p q with h | h | h
  · have := h2.2 p h; rw [h1.1] at this; cases this
  · exact h
  · have := h1.2 q h; rw [h2.1] at this; cases this
theorem indexOf_lead : ∀ {w : Wd}, isW w → (∃ p, indexOf 49 w = some p ∧ LeadAt w p) ∨ (indexOf 49 w = none ∧ w = zr w.length)
  | [], _ => .inr ⟨rfl, rfl⟩
  | x :: w, h => by
    obtain ⟨hx, hw⟩ := isW_cons.mp h
    rcases hx with rfl | rfl
    · rcases indexOf_lead hw with ⟨p, h1, h2⟩ | ⟨h1, h2⟩
      · refine .inl ⟨p + 1, by simp [indexOf, h1], h2.1, fun i hi => ?_⟩
        cases i with
        | zero => rfl
        | succ i => exact h2.2 i (by omega)
      · refine .inr ⟨by simp [indexOf, h1], ?_⟩
        rw [List.length_cons]
        show 48 :: w = 48 :: zr w.length
        rw [← h2]
    · exact .inl ⟨0, rfl, rfl, fun i hi => absurd hi (Nat.not_lt_zero _)⟩
theorem lead_or_zr {n : Nat} {w : Wd} (h : Wn n w) : (∃ p, indexOf 49 w = some p ∧ LeadAt w p) ∨ (indexOf 49 w = none ∧ w = zr n) := by
  have := indexOf_lead h.b
  rw [h.l] at this; exact this
theorem one_mem : ∀ {w : Wd}, isW w → ((49 ∈ w) ↔ indexOf 49 w ≠ none)
  | [], _ => by simp [indexOf]
  | x :: w, h => by
    obtain ⟨hx, hw⟩ := isW_cons.mp h
    rcases hx with rfl | rfl
    · simp [indexOf, one_mem hw]
    · simp [indexOf]
theorem zr_noLead {n p : Nat} (h : LeadAt (zr n) p) : False := by have := h.1; rw [at_zr] at this; cases this
def Sp (n : Nat) : List Wd → Wd → Prop
  | [], w => w = zr n
  | x :: ws, w => Sp n ws w ∨ Sp n ws (xo w x)
structure Lin (n : Nat) (S : Wd → Prop) : Prop where
  w : ∀ w, S w → Wn n w
  z : S (zr n)
  a : ∀ u v, S u → S v → S (xo u v)
def AllW (n : Nat) (ws : List Wd) : Prop := ∀ w ∈ ws, Wn n w
theorem AllW.cons {n : Nat} {x : Wd} {ws : List Wd} (h : AllW n (x :: ws)) : Wn n x ∧ AllW n ws := ⟨h x (List.mem_cons_self ..), fun w hw => h w (List.mem_cons_of_mem _ hw)⟩
theorem wn_of_xo {n : Nat} {w x : Wd} (hx : Wn n x) (h : Wn n (xo w x)) (hl : w.length = n) (hb : isW w) : Wn n w := ⟨hl, hb⟩
/-- within words of length n -/
def SpW (n : Nat) (ws : List Wd) (w : Wd) : Prop := Wn n w ∧ Sp n ws w
theorem sp_zr {n : Nat} : ∀ {ws : List Wd}, Sp n ws (zr n)
  | [] => rfl
  | _ :: ws => .inl (sp_zr (ws := ws))
theorem sp_add {n : Nat} : ∀ {ws : List Wd}, AllW n ws → ∀ {u v : Wd}, Wn n u → Wn n v → Sp n ws u → Sp n ws v → Sp n ws (xo u v)
  | [], _, u, v, hu, hv, h1, h2 => by
    have e1 : u = zr n := h1
    have e2 : v = zr n := h2
    rw [e1, e2]; exact xo_self (Wn.zr n).l
  | x :: ws, hw, u, v, hu, hv, h1, h2 => by
    obtain ⟨hx, hws⟩ := hw.cons
    rcases h1 with h1 | h1 <;> rcases h2 with h2 | h2
    · exact .inl (sp_add hws hu hv h1 h2)
    · refine .inr ?_
      rw [xo_assoc hu hv hx]
      exact sp_add hws hu (hv.xo hx) h1 h2
    · refine .inr ?_
      rw [xo_comm u v, xo_assoc hv hu hx]
      exact sp_add hws hv (hu.xo hx) h2 h1
    · refine .inl ?_
      have := sp_add hws (hu.xo hx) (hv.xo hx) h1 h2
      rw [xo_comm v x, ← xo_assoc (hu.xo hx) hx hv, xo_back hu hx] at this
      exact this
theorem sp_lin {n : Nat} {ws : List Wd} (h : AllW n ws) : Lin n (SpW n ws) := ⟨fun _ h => h.1, ⟨Wn.zr n, sp_zr⟩, fun u v hu hv => ⟨hu.1.xo hv.1, sp_add h hu.1 hv.1 hu.2 hv.2⟩⟩
theorem sp_mem {n : Nat} : ∀ {ws : List Wd}, AllW n ws → ∀ {x : Wd}, x ∈ ws → Sp n ws x
  | [], _, x, h => by simp at h
  | y :: ws, hw, x, h => by
    obtain ⟨hy, hws⟩ := hw.cons
    rcases List.mem_cons.mp h with rfl | h
    · refine .inr ?_
      rw [xo_self hy.l]; exact sp_zr
    · exact .inl (sp_mem hws h)
theorem sp_least {n : Nat} {S : Wd → Prop} (hS : Lin n S) : ∀ {ws : List Wd}, (∀ x ∈ ws, S x) → ∀ {w : Wd}, Wn n w → Sp n ws w → S w
  | [], _, w, _, h => by have e : w = zr n := h; rw [e]; exact hS.z
  | x :: ws, hx, w, hw, h => by
    have h1 := hx x (List.mem_cons_self ..)
    have ih := fun w (hw : Wn n w) => sp_least hS (ws := ws) (fun y hy => hx y (List.mem_cons_of_mem _ hy)) (w := w) hw
    rcases h with h | h
    · exact ih w hw h
    · have := hS.a _ _ (ih _ (hw.xo (hS.w x h1)) h) h1
      rw [xo_back hw (hS.w x h1)] at this
      exact this
/-- two lists span the same if each lies in the other's span -/
theorem sp_same {n : Nat} {us vs : List Wd} (hu : AllW n us) (hv : AllW n vs) (h1 : ∀ x ∈ us, Sp n vs x) (h2 : ∀ x ∈ vs, Sp n us x) (w : Wd) (hw : Wn n w) : Sp n us w ↔ Sp n vs w :=
  ⟨fun h => (sp_least (sp_lin hv) (fun x hx => ⟨hu x hx, h1 x hx⟩) hw h).2, fun h => (sp_least (sp_lin hu) (fun x hx => ⟨hv x hx, h2 x hx⟩) hw h).2⟩
end G7

set_option Elab.async false
set_option linter.all false
set_option maxRecDepth 100000
set_option autoImplicit false
namespace G7
abbrev Rows := List (Nat × Wd)
abbrev bsOf (rs : Rows) : List Wd := rs.map (·.2)
structure RedU (n : Nat) (rs : Rows) : Prop where
  w : ∀ r ∈ rs, Wn n r.2 ∧ LeadAt r.2 r.1
  d : rs.Pairwise fun r s => r.1 ≠ s.1
  c : ∀ r ∈ rs, ∀ s ∈ rs, r.1 ≠ s.1 → at_ r.2 s.1 = 48
structure Red (n : Nat) (rs : Rows) : Prop where
  u : RedU n rs
  p : rs.Pairwise fun r s => r.1 < s.1
theorem RedU.tail {n : Nat} {r : Nat × Wd} {rs : Rows} (h : RedU n (r :: rs)) : RedU n rs :=
  ⟨fun s hs => h.w s (List.mem_cons_of_mem _ hs), (List.pairwise_cons.mp h.d).2, fun s hs t ht => h.c s (List.mem_cons_of_mem _ hs) t (List.mem_cons_of_mem _ ht)⟩
theorem Red.tail {n : Nat} {r : Nat × Wd} {rs : Rows} (h : Red n (r :: rs)) : Red n rs := ⟨h.u.tail, (List.pairwise_cons.mp h.p).2⟩
theorem RedU.all {n : Nat} {rs : Rows} (h : RedU n rs) : AllW n (bsOf rs) := fun w hw => by
  obtain ⟨r, hr, rfl⟩ := List.mem_map.mp hw
  exact (h.w r hr).1
theorem lin_at {n : Nat} (i : Nat) : Lin n fun w => Wn n w ∧ at_ w i = 48 := by
  refine ⟨fun _ h => h.1, ⟨Wn.zr n, at_zr n i⟩, fun u v hu hv => ⟨hu.1.xo hv.1, ?_⟩⟩
  rw [at_xo hu.1 hv.1, hu.2, hv.2]; rfl
theorem sp_at {n : Nat} {bs : List Wd} (hb : AllW n bs) {i : Nat} (h : ∀ b ∈ bs, at_ b i = 48) {w : Wd} (hw : Wn n w) (hs : Sp n bs w) : at_ w i = 48 :=
  (sp_least (lin_at i) (fun x hx => ⟨hb x hx, h x hx⟩) hw hs).2
theorem RedU.zero {n : Nat} : ∀ {rs : Rows}, RedU n rs → ∀ {w : Wd}, Wn n w → Sp n (bsOf rs) w → (∀ r ∈ rs, at_ w r.1 = 48) → w = zr n
  | [], _, w, _, hs, _ => hs
  | r :: rs, h, w, hw, hs, ha => by
    have hr := h.w r (List.mem_cons_self ..)
    have hk : ∀ b ∈ bsOf rs, at_ b r.1 = 48 := fun b hb => by
      obtain ⟨s, hs, rfl⟩ := List.mem_map.mp hb
      exact h.c s (List.mem_cons_of_mem _ hs) r (List.mem_cons_self ..) (Ne.symm ((List.pairwise_cons.mp h.d).1 s hs))
    rcases hs with hs | hs
    · exact RedU.zero h.tail hw hs fun s hs => ha s (List.mem_cons_of_mem _ hs)
    · have e := sp_at h.tail.all hk (hw.xo hr.1) hs
      rw [at_xo hw hr.1, hr.2.1, ha r (List.mem_cons_self ..)] at e
      cases e
theorem Red.lead {n : Nat} : ∀ {rs : Rows}, Red n rs → ∀ {w : Wd} {p : Nat}, Wn n w → Sp n (bsOf rs) w → LeadAt w p → ∃ r ∈ rs, r.1 = p
  | [], _, w, p, _, hs, hl => by have e : w = zr n := hs; rw [e] at hl; exact (zr_noLead hl).elim
  | r :: rs, h, w, p, hw, hs, hl => by
    have hr := h.u.w r (List.mem_cons_self ..)
    rcases hs with hs | hs
    · obtain ⟨s, h1, h2⟩ := Red.lead h.tail hw hs hl
      exact ⟨s, List.mem_cons_of_mem _ h1, h2⟩
    · have hz : ∀ i, i ≤ r.1 → at_ (xo w r.2) i = 48 := fun i hi => sp_at h.tail.u.all (fun b hb => by
        obtain ⟨s, hs, rfl⟩ := List.mem_map.mp hb
        exact (h.tail.u.w s hs).2.2 i (Nat.lt_of_le_of_lt hi ((List.pairwise_cons.mp h.p).1 s hs))) (hw.xo hr.1) hs
      have hl2 : LeadAt w r.1 := by
        constructor
        · have := hz r.1 (Nat.le_refl _)
          rw [at_xo hw hr.1, hr.2.1] at this
          rcases at_bit hw r.1 with e | e
          · rw [e] at this; cases this
          · exact e
        · intro i hi
          have := hz i (Nat.le_of_lt hi)
          rw [at_xo hw hr.1, hr.2.2 i hi] at this
          rcases at_bit hw i with e | e
          · exact e
          · rw [e] at this; cases this
      exact ⟨r, List.mem_cons_self .., lead_uniq (n := n) hl2 hl⟩
theorem RedU.mem {n : Nat} {rs : Rows} (h : RedU n rs) {r : Nat × Wd} (hr : r ∈ rs) : SpW n (bsOf rs) r.2 := ⟨(h.w r hr).1, sp_mem h.all (List.mem_map.mpr ⟨r, hr, rfl⟩)⟩
/-- the only word of the span with this lead and no one at the other leads -/
theorem RedU.only {n : Nat} {rs : Rows} (h : RedU n rs) {r : Nat × Wd} (hr : r ∈ rs) {w : Wd} (hw : SpW n (bsOf rs) w) (hl : at_ w r.1 = 49) (ho : ∀ s ∈ rs, s.1 ≠ r.1 → at_ w s.1 = 48) : w = r.2 := by
  have hr2 := h.mem hr
  refine xo_eq_zr hw.1 hr2.1 (h.zero (hw.1.xo hr2.1) (sp_add h.all hw.1 hr2.1 hw.2 hr2.2) fun s hs => ?_)
  rw [at_xo hw.1 hr2.1]
  by_cases e : s.1 = r.1
  · rw [e, hl, (h.w r hr).2.1]; rfl
  · rw [ho s hs e, h.c r hr s hs (fun z => e z.symm)]; rfl
structure EnumL (S : Wd → Prop) (L : List Wd) : Prop where
  nd : L.Nodup
  m : ∀ w, w ∈ L ↔ S w
theorem enum_perm {S : Wd → Prop} {L M : List Wd} (h1 : EnumL S L) (h2 : EnumL S M) : L.Perm M := (List.perm_ext_iff_of_nodup h1.nd h2.nd).mpr fun w => (h1.m w).trans (h2.m w).symm
theorem EnumL.congr {S T : Wd → Prop} {L : List Wd} (h : EnumL S L) (e : ∀ w, S w ↔ T w) : EnumL T L := ⟨h.nd, fun w => (h.m w).trans (e w)⟩
theorem EnumL.perm {S : Wd → Prop} {L M : List Wd} (h : EnumL S L) (p : M.Perm L) : EnumL S M := ⟨p.nodup_iff.mpr h.nd, fun w => p.mem_iff.trans (h.m w)⟩
theorem EnumL.srt {S : Wd → Prop} {L : List Wd} (h : EnumL S L) : EnumL S (srt ltL L) := h.perm (srt_perm L)
theorem enum_srt {S : Wd → Prop} {L M : List Wd} (h1 : EnumL S L) (h2 : EnumL S M) : srt ltL L = srt ltL M := srt_eq ltL_tot (enum_perm h1 h2)
/-- one more word that is no word of the set -/
theorem enum_more {n : Nat} {S : Wd → Prop} (hS : Lin n S) {L : List Wd} (h : EnumL S L) {x : Wd} (hx : Wn n x) (hn : ¬ S x) : EnumL (fun w => Wn n w ∧ (S w ∨ S (xo w x))) (L ++ L.map fun w => xo w x) := by
  have hL : ∀ w ∈ L, Wn n w := fun w hw => hS.w w ((h.m w).mp hw)
  refine ⟨List.nodup_append.mpr ⟨h.nd, ?_, ?_⟩, fun w => ?_⟩
  · refine List.pairwise_map.mpr (h.nd.imp_of_mem fun {a b} ha hb hab e => hab (xo_inj (hL a ha) (hL b hb) hx e))
  · intro a ha b hb e
    obtain ⟨c, hc, rfl⟩ := List.mem_map.mp hb
    have h1 := (h.m a).mp ha
    have h2 := (h.m c).mp hc
    have := hS.a _ _ h2 h1
    rw [e, xo_comm c x, xo_comm c (xo x c), xo_back hx (hL c hc)] at this
    exact hn this
  · rw [List.mem_append]
    constructor
    · rintro (hw | hw)
      · exact ⟨hL w hw, .inl ((h.m w).mp hw)⟩
      · obtain ⟨c, hc, rfl⟩ := List.mem_map.mp hw
        refine ⟨(hL c hc).xo hx, .inr ?_⟩
        rw [xo_back (hL c hc) hx]; exact (h.m c).mp hc
    · rintro ⟨hw, hs | hs⟩
      · exact .inl ((h.m w).mpr hs)
      · exact .inr (List.mem_map.mpr ⟨xo w x, (h.m _).mpr hs, xo_back hw hx⟩)
theorem enum_zr (n : Nat) : EnumL (SpW n []) [zr n] := ⟨by simp, fun w => by
  rw [List.mem_singleton]
  exact ⟨fun e => ⟨e ▸ Wn.zr n, e⟩, fun h => h.2⟩⟩
theorem sp_cons_iff {n : Nat} {x : Wd} {ws : List Wd} (w : Wd) (hx : Wn n x) : (Wn n w ∧ (SpW n ws w ∨ SpW n ws (xo w x))) ↔ SpW n (x :: ws) w :=
  ⟨fun ⟨h1, h2⟩ => ⟨h1, h2.elim (fun h => .inl h.2) fun h => .inr h.2⟩, fun ⟨h1, h2⟩ => ⟨h1, h2.elim (fun h => .inl ⟨h1, h⟩) fun h => .inr ⟨h1.xo hx, h⟩⟩⟩
/-- a reduced basis, walked from its end: each row is new -/
theorem RedU.fresh {n : Nat} {r : Nat × Wd} {rs : Rows} (h : RedU n (r :: rs)) : ¬ SpW n (bsOf rs) r.2 := fun hs => by
  have hr := h.w r (List.mem_cons_self ..)
  have := sp_at h.tail.all (i := r.1) (fun b hb => by
    obtain ⟨s, hs, rfl⟩ := List.mem_map.mp hb
    exact h.c s (List.mem_cons_of_mem _ hs) r (List.mem_cons_self ..) (Ne.symm ((List.pairwise_cons.mp h.d).1 s hs))) hr.1 hs.2
  rw [hr.2.1] at this; cases this
/-- the words of a code, as the program lists them ahead of sorting -/
def wordsL (n : Nat) : List Wd → List Wd
  | [] => [zr n]
  | b :: bs => wordsL n bs ++ (wordsL n bs).map fun w => xo w b
theorem words_enum {n : Nat} : ∀ {rs : Rows}, RedU n rs → EnumL (SpW n (bsOf rs)) (wordsL n (bsOf rs))
  | [], _ => enum_zr n
  | r :: rs, h => (enum_more (sp_lin h.tail.all) (words_enum h.tail) (h.w r (List.mem_cons_self ..)).1 h.fresh).congr fun w => sp_cons_iff w (h.w r (List.mem_cons_self ..)).1
def hasLead (p : Nat) (w : Wd) : Bool := decide (w.take (p + 1) = zr p ++ [49])
theorem hasLead_iff : ∀ {n p : Nat} {w : Wd}, Wn n w → p < n → (hasLead p w = true ↔ LeadAt w p) := by
  intro n p
  induction p generalizing n with
  | zero =>
    intro w hw hp
    rcases hw.cases with ⟨h, _⟩ | ⟨m, x, a, h, rfl, hx, ha⟩
    · omega
    · unfold hasLead
      rw [decide_eq_true_eq]
      constructor
      · intro e
        have : x = 49 := by simpa [zr] using e
        subst this
        exact ⟨rfl, fun i hi => absurd hi (Nat.not_lt_zero _)⟩
      · intro e
        have : x = 49 := e.1
        subst this
        simp [zr]
  | succ p ih =>
    intro w hw hp
    rcases hw.cases with ⟨h, _⟩ | ⟨m, x, a, h, rfl, hx, ha⟩
    · omega
    · have := ih ha (by omega)
      unfold hasLead at this ⊢
      rw [decide_eq_true_eq] at this ⊢
      rw [List.take_succ_cons, show zr (p + 1) = 48 :: zr p from rfl, List.cons_append, List.cons.injEq, this]
      constructor
      · rintro ⟨rfl, h1, h2⟩
        refine ⟨h1, fun i hi => ?_⟩
        cases i with
        | zero => rfl
        | succ i => exact h2 i (by omega)
      · rintro ⟨h1, h2⟩
        exact ⟨h2 0 (by omega), h1, fun i hi => h2 (i + 1) (by omega)⟩
def firstsL (n : Nat) (L : List Wd) : List Nat := (List.range n).filter fun p => L.any (hasLead p)
def ownL' (fs : List Nat) (f : Nat) (L : List Wd) : List Wd := fs.foldl (fun own o => if o = f then own else own.filter fun w => decide (at_ w o = 48)) (L.filter (hasLead f))
def basisL (n : Nat) (L : List Wd) : List Wd := (firstsL n L).map fun f => (ownL' (firstsL n L) f L).headD []
theorem own_mem {f : Nat} {w : Wd} : ∀ (fs : List Nat) (L0 : List Wd), w ∈ fs.foldl (fun own o => if o = f then own else own.filter fun w => decide (at_ w o = 48)) L0 ↔ w ∈ L0 ∧ ∀ o ∈ fs, o ≠ f → at_ w o = 48
  | [], L0 => by simp
  | o :: fs, L0 => by
    rw [List.foldl_cons, own_mem fs]
    by_cases h : o = f
    · rw [if_pos h]; simp [h]
    · rw [if_neg h]; simp [h, and_assoc]
theorem pw_lt_uniq : ∀ {l m : List Nat}, l.Pairwise (· < ·) → m.Pairwise (· < ·) → (∀ x, x ∈ l ↔ x ∈ m) → l = m
  | [], [], _, _, _ => rfl
  | [], y :: m, _, _, h => by have := (h y).mpr (List.mem_cons_self ..); simp at this
  | x :: l, [], _, _, h => by have := (h x).mp (List.mem_cons_self ..); simp at this
  | x :: l, y :: m, h1, h2, h => by
    obtain ⟨a1, a2⟩ := List.pairwise_cons.mp h1
    obtain ⟨b1, b2⟩ := List.pairwise_cons.mp h2
    have e : x = y := by
      rcases List.mem_cons.mp ((h x).mp (List.mem_cons_self ..)) with e | hx
      · exact e
      · rcases List.mem_cons.mp ((h y).mpr (List.mem_cons_self ..)) with e | hy
        · exact e.symm
        · have := b1 x hx; have := a1 y hy; omega
    subst e
    rw [pw_lt_uniq a2 b2 fun z => ?_]
    constructor
    · intro hz
      rcases List.mem_cons.mp ((h z).mp (List.mem_cons_of_mem _ hz)) with e | hz'
      · have := a1 z hz; omega
      · exact hz'
    · intro hz
      rcases List.mem_cons.mp ((h z).mpr (List.mem_cons_of_mem _ hz)) with e | hz'
      · have := b1 z hz; omega
      · exact hz'
theorem firsts_eq {n : Nat} {rs : Rows} (h : Red n rs) {L : List Wd} (hL : ∀ w, w ∈ L ↔ SpW n (bsOf rs) w) : firstsL n L = rs.map (·.1) := by
  refine pw_lt_uniq (List.Pairwise.filter _ (List.pairwise_lt_range)) (List.pairwise_map.mpr h.p) fun p => ?_
  unfold firstsL
  rw [List.mem_filter, List.mem_range, List.any_eq_true]
  constructor
  · rintro ⟨hp, w, hw, hl⟩
    have hs := (hL w).mp hw
    obtain ⟨r, hr, e⟩ := h.lead hs.1 hs.2 ((hasLead_iff hs.1 hp).mp hl)
    exact List.mem_map.mpr ⟨r, hr, e⟩
  · intro hp
    obtain ⟨r, hr, rfl⟩ := List.mem_map.mp hp
    have hw := h.u.w r hr
    have hlt := lead_lt hw.1 hw.2
    exact ⟨hlt, r.2, (hL _).mpr (h.u.mem hr), (hasLead_iff hw.1 hlt).mpr hw.2⟩
theorem headD_all {l : List Wd} {x : Wd} (h1 : x ∈ l) (h2 : ∀ y ∈ l, y = x) : l.headD [] = x := by
  cases l with
  | nil => simp at h1
  | cons y l => exact h2 y (List.mem_cons_self ..)
theorem own_all {n : Nat} {rs : Rows} (h : Red n rs) {L : List Wd} (hL : ∀ w, w ∈ L ↔ SpW n (bsOf rs) w) {r : Nat × Wd} (hr : r ∈ rs) : r.2 ∈ ownL' (firstsL n L) r.1 L ∧ ∀ w ∈ ownL' (firstsL n L) r.1 L, w = r.2 := by
  have hw := h.u.w r hr
  have hlt := lead_lt hw.1 hw.2
  unfold ownL'
  rw [firsts_eq h hL]
  constructor
  · rw [own_mem, List.mem_filter]
    refine ⟨⟨(hL _).mpr (h.u.mem hr), (hasLead_iff hw.1 hlt).mpr hw.2⟩, fun o ho hne => ?_⟩
    obtain ⟨s, hs, rfl⟩ := List.mem_map.mp ho
    exact h.u.c r hr s hs fun z => hne z.symm
  · intro w hm
    rw [own_mem, List.mem_filter] at hm
    obtain ⟨⟨h1, h2⟩, h3⟩ := hm
    have hs := (hL w).mp h1
    exact h.u.only hr hs ((hasLead_iff hs.1 hlt).mp h2).1 fun s hs' hne => h3 s.1 (List.mem_map.mpr ⟨s, hs', rfl⟩) hne
theorem basis_eq {n : Nat} {rs : Rows} (h : Red n rs) {L : List Wd} (hL : ∀ w, w ∈ L ↔ SpW n (bsOf rs) w) : basisL n L = bsOf rs := by
  unfold basisL
  have e : ∀ r ∈ rs, (ownL' (firstsL n L) r.1 L).headD [] = r.2 := fun r hr => headD_all (own_all h hL hr).1 (own_all h hL hr).2
  rw [firsts_eq h hL] at e ⊢
  rw [List.map_map]
  exact List.map_congr_left fun r hr => e r hr
theorem red_uniq {n : Nat} {rs ts : Rows} (h1 : Red n rs) (h2 : Red n ts) (h : ∀ w, SpW n (bsOf rs) w ↔ SpW n (bsOf ts) w) : bsOf rs = bsOf ts := by
  have e := words_enum h1.u
  rw [← basis_eq h1 e.m, ← basis_eq h2 fun w => (e.m w).trans (h w)]
end G7

set_option Elab.async false
set_option linter.all false
set_option maxRecDepth 100000
set_option autoImplicit false
namespace G7
def ldOf (w : Wd) : Nat := (indexOf 49 w).getD 0
abbrev rowsOf (ws : List Wd) : Rows := ws.map fun w => (ldOf w, w)
abbrev RedW (n : Nat) (ws : List Wd) : Prop := Red n (rowsOf ws)
theorem bs_rows (ws : List Wd) : bsOf (rowsOf ws) = ws := by
  unfold bsOf rowsOf
  rw [List.map_map]
  exact (List.map_congr_left fun _ _ => rfl).trans (List.map_id _)
theorem ld_of {n : Nat} {w : Wd} {p : Nat} (hw : Wn n w) (h : LeadAt w p) : indexOf 49 w = some p ∧ ldOf w = p := by
  rcases lead_or_zr hw with ⟨q, h1, h2⟩ | ⟨_, h2⟩
  · have : q = p := lead_uniq (n := n) h2 h
    subst this
    exact ⟨h1, by unfold ldOf; rw [h1]; rfl⟩
  · subst h2; exact (zr_noLead h).elim
theorem rows_bs {n : Nat} {rs : Rows} (h : RedU n rs) : rowsOf (bsOf rs) = rs := by
  unfold rowsOf bsOf
  rw [List.map_map]
  refine (List.map_congr_left fun r hr => ?_).trans (List.map_id _)
  have := h.w r hr
  show (ldOf r.2, r.2) = r
  rw [(ld_of this.1 this.2).2]
theorem RedW.all {n : Nat} {ws : List Wd} (h : RedU n (rowsOf ws)) : AllW n ws := by have := h.all; rw [bs_rows] at this; exact this
theorem RedW.idx {n : Nat} {ws : List Wd} (h : RedU n (rowsOf ws)) {w : Wd} (hw : w ∈ ws) : indexOf 49 w = some (ldOf w) ∧ LeadAt w (ldOf w) := by
  have := h.w (ldOf w, w) (List.mem_map.mpr ⟨w, hw, rfl⟩)
  exact ⟨(ld_of this.1 this.2).1, this.2⟩
def rem1 (w row : Wd) : Wd := if at_ w (ldOf row) = 49 then xo w row else w
def remL (rows : List Wd) (w : Wd) : Wd := rows.foldl rem1 w
theorem rem_go {n : Nat} {full : List Wd} (hf : RedU n (rowsOf full)) : ∀ (todo done : List Wd) (w v : Wd), (∀ r ∈ todo, r ∈ full) → (∀ r ∈ done, r ∈ full) → todo.Pairwise (fun r s => ldOf r ≠ ldOf s) → (∀ r ∈ done, ∀ s ∈ todo, ldOf r ≠ ldOf s) →
    Wn n w → Wn n v → Sp n full (xo v w) → (∀ r ∈ done, at_ v (ldOf r) = 48) →
    Wn n (todo.foldl rem1 v) ∧ Sp n full (xo (todo.foldl rem1 v) w) ∧ ∀ r, r ∈ done ∨ r ∈ todo → at_ (todo.foldl rem1 v) (ldOf r) = 48
  | [], done, w, v, _, _, _, _, hw, hv, hs, ha => ⟨hv, hs, fun r hr => hr.elim (ha r) fun z => by simp at z⟩
  | r :: todo, done, w, v, h1, h2, h3, h4, hw, hv, hs, ha => by
    have hr := h1 r (List.mem_cons_self ..)
    have hrw : Wn n r := RedW.all hf r hr
    have hl := (RedW.idx hf hr).2
    obtain ⟨p1, p2⟩ := List.pairwise_cons.mp h3
    have key : Wn n (rem1 v r) ∧ Sp n full (xo (rem1 v r) w) ∧ ∀ s, s ∈ r :: done → at_ (rem1 v r) (ldOf s) = 48 := by
      unfold rem1
      split
      · rename_i e
        refine ⟨hv.xo hrw, ?_, fun s hs' => ?_⟩
        · rw [xo_comm v r, xo_assoc hrw hv hw]
          exact sp_add (RedW.all hf) hrw (hv.xo hw) (sp_mem (RedW.all hf) hr) hs
        · rw [at_xo hv hrw]
          rcases List.mem_cons.mp hs' with rfl | hs'
          · rw [e, hl.1]; rfl
          · rw [ha s hs', hf.c (ldOf r, r) (List.mem_map.mpr ⟨r, hr, rfl⟩) (ldOf s, s) (List.mem_map.mpr ⟨s, h2 s hs', rfl⟩) (Ne.symm (h4 s hs' r (List.mem_cons_self ..)))]
            rfl
      · rename_i e
        refine ⟨hv, hs, fun s hs' => ?_⟩
        rcases List.mem_cons.mp hs' with rfl | hs'
        · exact (at_bit hv _).resolve_right e
        · exact ha s hs'
    obtain ⟨k1, k2, k3⟩ := key
    have := rem_go hf todo (r :: done) w (rem1 v r) (fun s hs => h1 s (List.mem_cons_of_mem _ hs)) (fun s hs => (List.mem_cons.mp hs).elim (fun e => e ▸ hr) (h2 s)) p2
      (fun s hs t ht => (List.mem_cons.mp hs).elim (fun e => e ▸ p1 t ht) fun z => h4 s z t (List.mem_cons_of_mem _ ht)) hw k1 k2 k3
    refine ⟨this.1, this.2.1, fun s hs => this.2.2 s ?_⟩
    rcases hs with hs | hs
    · exact .inl (List.mem_cons_of_mem _ hs)
    · rcases List.mem_cons.mp hs with rfl | hs
      · exact .inl (List.mem_cons_self ..)
      · exact .inr hs
theorem RedW.dist {n : Nat} {ws : List Wd} (h : RedU n (rowsOf ws)) : ws.Pairwise fun r s => ldOf r ≠ ldOf s := by
  have := h.d
  unfold rowsOf at this
  rw [List.pairwise_map] at this
  exact this
theorem rem_ok {n : Nat} {ws : List Wd} (h : RedU n (rowsOf ws)) {w : Wd} (hw : Wn n w) : Wn n (remL ws w) ∧ Sp n ws (xo (remL ws w) w) ∧ ∀ r ∈ ws, at_ (remL ws w) (ldOf r) = 48 := by
  have := rem_go h ws [] w w (fun _ z => z) (fun _ z => by simp at z) (RedW.dist h) (fun _ z => by simp at z) hw hw (by rw [xo_self hw.l]; exact sp_zr) (fun _ z => by simp at z)
  exact ⟨this.1, this.2.1, fun r hr => this.2.2 r (.inr hr)⟩
theorem rem_mem {n : Nat} {ws : List Wd} (h : RedU n (rowsOf ws)) {w : Wd} (hw : Wn n w) : (49 ∈ remL ws w) ↔ ¬ Sp n ws w := by
  obtain ⟨h1, h2, h3⟩ := rem_ok h hw
  rw [one_mem h1.b]
  constructor
  · intro e hs
    have hz : remL ws w = zr n := by
      refine h.zero h1 ?_ fun r hr => ?_
      · rw [bs_rows]
        have := sp_add (RedW.all h) (h1.xo hw) hw h2 hs
        rw [xo_back h1 hw] at this; exact this
      · obtain ⟨s, hs, rfl⟩ := List.mem_map.mp hr
        exact h3 s hs
    rcases lead_or_zr h1 with ⟨p, _, h5⟩ | ⟨h5, _⟩
    · rw [hz] at h5; exact zr_noLead h5
    · exact e h5
  · intro hs e
    rcases lead_or_zr h1 with ⟨p, h5, _⟩ | ⟨_, h5⟩
    · rw [h5] at e; cases e
    · rw [h5, xo_comm, xo_zr hw] at h2; exact hs h2
theorem lead_order : ∀ {n p q : Nat} {a b : Wd}, Wn n a → Wn n b → LeadAt a p → LeadAt b q → p < q → ltL b a = true := by
  intro n
  induction n with
  | zero => intro p q a b ha hb h1 h2 h; have := lead_lt ha h1; omega
  | succ n ih =>
    intro p q a b ha hb h1 h2 h
    rcases ha.cases with ⟨e, _⟩ | ⟨m, x, a', e, rfl, hx, ha'⟩
    · cases e
    rcases hb.cases with ⟨e', _⟩ | ⟨m', y, b', e', rfl, hy, hb'⟩
    · cases e'
    cases e; cases e'
    have hy0 : y = 48 := h2.2 0 (by omega)
    subst hy0
    cases p with
    | zero =>
      have hx1 : x = 49 := h1.1
      subst hx1
      rfl
    | succ p =>
      have hx0 : x = 48 := h1.2 0 (by omega)
      subst hx0
      cases q with
      | zero => omega
      | succ q =>
        show (if 48 < 48 then true else if 48 < 48 then false else ltL b' a') = true
        exact ih ha' hb' ⟨h1.1, fun i hi => h1.2 (i + 1) (by omega)⟩ ⟨h2.1, fun i hi => h2.2 (i + 1) (by omega)⟩ (by omega)
theorem redU_perm {n : Nat} {rs ts : Rows} (h : RedU n rs) (p : ts.Perm rs) : RedU n ts :=
  ⟨fun r hr => h.w r (p.mem_iff.mp hr), p.pairwise_iff (fun {a b} e => Ne.symm e) |>.mpr h.d, fun r hr s hs => h.c r (p.mem_iff.mp hr) s (p.mem_iff.mp hs)⟩
/-- sorted the other way round, reduced rows stand in the order of their leads -/
theorem red_sorted {n : Nat} {ws : List Wd} (h : RedU n (rowsOf ws)) : RedW n (srt ltL ws).reverse := by
  have p : (srt ltL ws).reverse.Perm ws := (List.reverse_perm _).trans (srt_perm ws)
  have hu : RedU n (rowsOf (srt ltL ws).reverse) := redU_perm h (p.map _)
  refine ⟨hu, ?_⟩
  rw [List.pairwise_map]
  have hd := List.pairwise_map.mp hu.d
  have up : (srt ltL ws).reverse.Pairwise fun x y => ltL x y = false := List.pairwise_reverse.mpr (srt_up ltL_tot ws)
  refine (hd.and up).imp_of_mem fun {a b} ha hb hab => ?_
  obtain ⟨h1, h2⟩ := hab
  rcases Nat.lt_trichotomy (ldOf a) (ldOf b) with h3 | h3 | h3
  · exact h3
  · exact absurd h3 h1
  · have := lead_order (RedW.all hu b hb) (RedW.all hu a ha) (RedW.idx hu hb).2 (RedW.idx hu ha).2 h3
    rw [this] at h2; cases h2
def fixL (rest : Wd) (ws : List Wd) : List Wd := ws.map (fun r => if at_ r (ldOf rest) = 49 then xo r rest else r) ++ [rest]
def stepL (ws : List Wd) (w : Wd) : List Wd := if 49 ∈ remL ws w then (srt ltL (fixL (remL ws w) ws)).reverse else ws
theorem fix_red {n : Nat} {ws : List Wd} (h : RedU n (rowsOf ws)) {rest : Wd} {q : Nat} (hw : Wn n rest) (hl : LeadAt rest q) (ha : ∀ r ∈ ws, at_ rest (ldOf r) = 48) :
    RedU n (rowsOf (fixL rest ws)) ∧ AllW n (fixL rest ws) := by
  have hq := (ld_of hw hl).2
  have hne : ∀ r ∈ ws, ldOf r ≠ q := fun r hr e => by have := ha r hr; rw [e, hl.1] at this; cases this
  have new : ∀ r ∈ ws, Wn n (if at_ r (ldOf rest) = 49 then xo r rest else r) ∧ LeadAt (if at_ r (ldOf rest) = 49 then xo r rest else r) (ldOf r) ∧ at_ (if at_ r (ldOf rest) = 49 then xo r rest else r) q = 48 ∧
      ∀ s ∈ ws, ldOf s ≠ ldOf r → at_ (if at_ r (ldOf rest) = 49 then xo r rest else r) (ldOf s) = 48 := by
    intro r hr
    have hrw := RedW.all h r hr
    have hrl := (RedW.idx h hr).2
    have hc : ∀ s ∈ ws, ldOf s ≠ ldOf r → at_ r (ldOf s) = 48 := fun s hs e => h.c (ldOf r, r) (List.mem_map.mpr ⟨r, hr, rfl⟩) (ldOf s, s) (List.mem_map.mpr ⟨s, hs, rfl⟩) (Ne.symm e)
    rw [hq]
    split
    · rename_i e
      have hlt : ldOf r < q := by
        rcases Nat.lt_trichotomy (ldOf r) q with h3 | h3 | h3
        · exact h3
        · exact absurd h3 (hne r hr)
        · have := hrl.2 q h3; rw [e] at this; cases this
      refine ⟨hrw.xo hw, ⟨?_, fun i hi => ?_⟩, ?_, fun s hs e2 => ?_⟩
      · rw [at_xo hrw hw, hrl.1, ha r hr]; rfl
      · rw [at_xo hrw hw, hrl.2 i hi, hl.2 i (by omega)]; rfl
      · rw [at_xo hrw hw, e, hl.1]; rfl
      · rw [at_xo hrw hw, hc s hs e2, ha s hs]; rfl
    · rename_i e
      exact ⟨hrw, hrl, (at_bit hrw q).resolve_right e, hc⟩
  have ld : ∀ r ∈ ws, ldOf (if at_ r (ldOf rest) = 49 then xo r rest else r) = ldOf r := fun r hr => (ld_of (new r hr).1 (new r hr).2.1).2
  have er : rowsOf (fixL rest ws) = ws.map (fun r => (ldOf r, if at_ r (ldOf rest) = 49 then xo r rest else r)) ++ [(q, rest)] := by
    unfold rowsOf fixL
    rw [List.map_append, List.map_map]
    congr 1
    · exact List.map_congr_left fun r hr => by show (ldOf _, _) = _; rw [ld r hr]
    · show [(ldOf rest, rest)] = _; rw [hq]
  have hu : RedU n (rowsOf (fixL rest ws)) := by
    rw [er]
    refine ⟨fun r hr => ?_, List.pairwise_append.mpr ⟨?_, List.pairwise_singleton _ _, ?_⟩, fun r hr s hs e => ?_⟩
    · rcases List.mem_append.mp hr with hr | hr
      · obtain ⟨x, hx, rfl⟩ := List.mem_map.mp hr
        exact ⟨(new x hx).1, (new x hx).2.1⟩
      · have := List.mem_singleton.mp hr; subst this; exact ⟨hw, hl⟩
    · rw [List.pairwise_map]; exact RedW.dist h
    · intro a ha' b hb
      obtain ⟨x, hx, rfl⟩ := List.mem_map.mp ha'
      have := List.mem_singleton.mp hb; subst this
      exact hne x hx
    · rcases List.mem_append.mp hr with hr | hr <;> rcases List.mem_append.mp hs with hs | hs
      · obtain ⟨x, hx, rfl⟩ := List.mem_map.mp hr
        obtain ⟨y, hy, rfl⟩ := List.mem_map.mp hs
        exact (new x hx).2.2.2 y hy (Ne.symm e)
      · obtain ⟨x, hx, rfl⟩ := List.mem_map.mp hr
        have := List.mem_singleton.mp hs; subst this
        exact (new x hx).2.2.1
      · have := List.mem_singleton.mp hr; subst this
        obtain ⟨y, hy, rfl⟩ := List.mem_map.mp hs
        exact ha y hy
      · have := List.mem_singleton.mp hr; subst this
        have := List.mem_singleton.mp hs; subst this
        exact absurd rfl e
  exact ⟨hu, RedW.all hu⟩
theorem step_ok {n : Nat} {ws : List Wd} (h : RedW n ws) {w : Wd} (hw : Wn n w) : RedW n (stepL ws w) ∧ ∀ u, SpW n (stepL ws w) u ↔ SpW n (w :: ws) u := by
  have hA := RedW.all h.u
  obtain ⟨h1, h2, h3⟩ := rem_ok h.u hw
  unfold stepL
  split
  · rename_i hm
    rcases lead_or_zr h1 with ⟨q, _, hl⟩ | ⟨h5, _⟩
    · obtain ⟨f1, f2⟩ := fix_red h.u h1 hl h3
      have p : (srt ltL (fixL (remL ws w) ws)).reverse.Perm (fixL (remL ws w) ws) := (List.reverse_perm _).trans (srt_perm _)
      have fA : AllW n (srt ltL (fixL (remL ws w) ws)).reverse := fun x hx => f2 x (p.mem_iff.mp hx)
      have wA : AllW n (w :: ws) := fun x hx => (List.mem_cons.mp hx).elim (fun e => e ▸ hw) (hA x)
      have inF : ∀ x, x ∈ fixL (remL ws w) ws → Sp n (srt ltL (fixL (remL ws w) ws)).reverse x := fun x hx => sp_mem fA (p.mem_iff.mpr hx)
      have hrest : Sp n (srt ltL (fixL (remL ws w) ws)).reverse (remL ws w) := inF _ (by unfold fixL; simp)
      -- rows of ws lie in the new span
      have hrow : ∀ x ∈ ws, Sp n (srt ltL (fixL (remL ws w) ws)).reverse x := fun x hx => by
        have hm : (if at_ x (ldOf (remL ws w)) = 49 then xo x (remL ws w) else x) ∈ fixL (remL ws w) ws := by
          unfold fixL; exact List.mem_append.mpr (.inl (List.mem_map.mpr ⟨x, hx, rfl⟩))
        have hi := inF _ hm
        split at hi
        · have := sp_add fA ((hA x hx).xo h1) h1 hi hrest
          rw [xo_back (hA x hx) h1] at this; exact this
        · exact hi
      have hsub : ∀ u, Wn n u → Sp n ws u → Sp n (srt ltL (fixL (remL ws w) ws)).reverse u := fun u hu hs => (sp_least (sp_lin fA) (fun x hx => ⟨hA x hx, hrow x hx⟩) hu hs).2
      have hww : Sp n (srt ltL (fixL (remL ws w) ws)).reverse w := by
        have := sp_add fA (h1.xo hw) h1 (hsub _ (h1.xo hw) h2) hrest
        rw [xo_comm, ← xo_assoc h1 h1 hw, xo_self h1.l, xo_comm, xo_zr hw] at this
        exact this
      have rw' : Sp n (w :: ws) (remL ws w) := by
        refine .inr ?_
        exact h2
      refine ⟨red_sorted f1, fun u => and_congr_right fun hu => sp_same fA wA (fun x hx => ?_) (fun x hx => ?_) u hu⟩
      · have := p.mem_iff.mp hx
        unfold fixL at this
        rcases List.mem_append.mp this with hx | hx
        · obtain ⟨y, hy, rfl⟩ := List.mem_map.mp hx
          have hy' : Sp n (w :: ws) y := .inl (sp_mem hA hy)
          split
          · exact sp_add wA (hA y hy) h1 hy' rw'
          · exact hy'
        · have := List.mem_singleton.mp hx; subst this; exact rw'
      · rcases List.mem_cons.mp hx with rfl | hx
        · exact hww
        · exact hrow x hx
    · exact absurd h5 ((one_mem h1.b).mp hm)
  · rename_i hm
    have hs : Sp n ws w := Classical.byContradiction fun z => hm ((rem_mem h.u hw).mpr z)
    refine ⟨h, fun u => and_congr_right fun hu => sp_same hA (fun x hx => (List.mem_cons.mp hx).elim (fun e => e ▸ hw) (hA x)) (fun x hx => .inl (sp_mem hA hx)) (fun x hx => ?_) u hu⟩
    rcases List.mem_cons.mp hx with rfl | hx
    · exact hs
    · exact sp_mem hA hx
def redL (ws : List Wd) : List Wd := ws.foldl stepL []
theorem sp_perm {n : Nat} {us vs : List Wd} (hu : AllW n us) (hv : AllW n vs) (h : ∀ x, x ∈ us ↔ x ∈ vs) (w : Wd) : SpW n us w ↔ SpW n vs w :=
  and_congr_right fun hw => sp_same hu hv (fun x hx => sp_mem hv ((h x).mp hx)) (fun x hx => sp_mem hu ((h x).mpr hx)) w hw
theorem sp_cons_congr {n : Nat} {us vs : List Wd} {x : Wd} (hx : Wn n x) (h : ∀ w, SpW n us w ↔ SpW n vs w) (w : Wd) : SpW n (x :: us) w ↔ SpW n (x :: vs) w := by
  rw [← sp_cons_iff w hx, ← sp_cons_iff w hx]
  exact and_congr_right fun hw => or_congr (h w) (h _)
theorem red_nil (n : Nat) : RedW n [] := ⟨⟨fun _ h => by simp at h, List.Pairwise.nil, fun _ h => by simp at h⟩, List.Pairwise.nil⟩
theorem redL_go {n : Nat} : ∀ (ws acc done : List Wd), AllW n ws → AllW n done → RedW n acc → (∀ u, SpW n acc u ↔ SpW n done u) → RedW n (ws.foldl stepL acc) ∧ ∀ u, SpW n (ws.foldl stepL acc) u ↔ SpW n (ws ++ done) u
  | [], acc, done, _, _, h1, h2 => ⟨h1, h2⟩
  | w :: ws, acc, done, hw, hd, h1, h2 => by
    obtain ⟨hx, hws⟩ := hw.cons
    obtain ⟨s1, s2⟩ := step_ok h1 hx
    have hd' : AllW n (w :: done) := fun y hy => (List.mem_cons.mp hy).elim (fun e => e ▸ hx) (hd y)
    obtain ⟨r1, r2⟩ := redL_go ws (stepL acc w) (w :: done) hws hd' s1 fun u => (s2 u).trans (sp_cons_congr hx h2 u)
    refine ⟨r1, fun u => (r2 u).trans (sp_perm (fun y hy => ?_) (fun y hy => ?_) (fun y => ?_) u)⟩
    · rcases List.mem_append.mp hy with hy | hy
      · exact hws y hy
      · exact hd' y hy
    · rcases List.mem_append.mp hy with hy | hy
      · exact hw y hy
      · exact hd y hy
    · simp only [List.mem_append, List.mem_cons]
      constructor
      · rintro (h | rfl | h)
        · exact .inl (.inr h)
        · exact .inl (.inl rfl)
        · exact .inr h
      · rintro ((rfl | h) | h)
        · exact .inr (.inl rfl)
        · exact .inl h
        · exact .inr (.inr h)
theorem redL_ok {n : Nat} {ws : List Wd} (h : AllW n ws) : RedW n (redL ws) ∧ ∀ u, SpW n (redL ws) u ↔ SpW n ws u := by
  have := redL_go ws [] [] h (fun _ z => by simp at z) (red_nil n) fun _ => Iff.rfl
  rw [List.append_nil] at this; exact this
/-- a reduced basis reduces to itself, and whatever spans the same does too -/
theorem redL_of {n : Nat} {ws bs : List Wd} (h : AllW n ws) (hb : RedW n bs) (e : ∀ u, SpW n ws u ↔ SpW n bs u) : redL ws = bs := by
  obtain ⟨h1, h2⟩ := redL_ok h
  have := red_uniq h1 hb fun u => by rw [bs_rows, bs_rows]; exact (h2 u).trans (e u)
  rw [bs_rows, bs_rows] at this; exact this
def cloStep (ks : List Wd) (w : Wd) : List Wd := if w ∈ ks then ks else ks ++ ks.map fun o => xo o w
def cloL (n : Nat) (ws : List Wd) : List Wd := ws.foldl cloStep [zr n]
theorem clo_go {n : Nat} : ∀ (ws ks done : List Wd), AllW n ws → AllW n done → EnumL (SpW n done) ks → EnumL (SpW n (ws.reverse ++ done)) (ws.foldl cloStep ks)
  | [], ks, done, _, _, h => h
  | w :: ws, ks, done, hw, hd, h => by
    obtain ⟨hx, hws⟩ := hw.cons
    have hd' : AllW n (w :: done) := fun y hy => (List.mem_cons.mp hy).elim (fun e => e ▸ hx) (hd y)
    have hs : EnumL (SpW n (w :: done)) (cloStep ks w) := by
      unfold cloStep
      split
      · rename_i hm
        have hsw := (h.m w).mp hm
        refine h.congr fun u => and_congr_right fun hu => sp_same hd hd' (fun x hx => .inl (sp_mem hd hx)) (fun x hx => ?_) u hu
        rcases List.mem_cons.mp hx with rfl | hx
        · exact hsw.2
        · exact sp_mem hd hx
      · rename_i hm
        exact (enum_more (sp_lin hd) h hx fun z => hm ((h.m w).mpr z)).congr fun u => sp_cons_iff u hx
    have := clo_go ws (cloStep ks w) (w :: done) hws hd' hs
    rw [List.reverse_cons, List.append_assoc]
    exact this
theorem clo_ok {n : Nat} {ws : List Wd} (h : AllW n ws) : EnumL (SpW n ws) (cloL n ws) := by
  have := clo_go ws [zr n] [] h (fun _ z => by simp at z) (enum_zr n)
  rw [List.append_nil] at this
  refine this.congr fun u => sp_perm (fun x hx => h x (List.mem_reverse.mp hx)) h (fun x => List.mem_reverse) u
/-- the law's words, the law's basis -/
def everyL (n : Nat) (ws : List Wd) : List Wd := srt ltL (cloL n ws)
theorem every_ok {n : Nat} {ws : List Wd} (h : AllW n ws) : EnumL (SpW n ws) (everyL n ws) := (clo_ok h).srt
theorem basis_of {n : Nat} {bs : List Wd} (hb : RedW n bs) {L : List Wd} (hL : ∀ w, w ∈ L ↔ SpW n bs w) : basisL n L = bs := by
  have := basis_eq hb (L := L) (by rw [bs_rows]; exact hL)
  rw [bs_rows] at this; exact this
theorem basis_every {n : Nat} {ws : List Wd} (h : AllW n ws) : basisL n (everyL n ws) = redL ws := by
  obtain ⟨h1, h2⟩ := redL_ok h
  exact basis_of h1 fun w => ((every_ok h).m w).trans (h2 w).symm
theorem words_of_red {n : Nat} {bs : List Wd} (h : RedW n bs) : EnumL (SpW n bs) (wordsL n bs) := by
  have := words_enum h.u
  rw [bs_rows] at this; exact this
theorem words_srt {n : Nat} {bs L : List Wd} (h : RedW n bs) (hL : EnumL (SpW n bs) L) : srt ltL (wordsL n bs) = srt ltL L := enum_srt (words_of_red h) hL
/-- sorted lists tell their set -/
theorem srt_fix {S : Wd → Prop} {L : List Wd} (h : EnumL S L) : srt ltL (srt ltL L) = srt ltL L := enum_srt h.srt h
theorem pw_lt_len : ∀ {l : List Nat} {lo n : Nat}, l.Pairwise (· < ·) → (∀ x ∈ l, lo ≤ x ∧ x < n) → l.length + lo ≤ n ∨ l = []
  | [], _, _, _, _ => .inr rfl
  | x :: l, lo, n, h, hb => by
    obtain ⟨h1, h2⟩ := List.pairwise_cons.mp h
    have hx := hb x (List.mem_cons_self ..)
    rcases pw_lt_len (lo := x + 1) (n := n) h2 (fun y hy => ⟨h1 y hy, (hb y (List.mem_cons_of_mem _ hy)).2⟩) with e | e
    · left; simp; omega
    · left; subst e; simp; omega
theorem red_len {n : Nat} {ws : List Wd} (h : RedW n ws) : ws.length ≤ n := by
  have hp : (ws.map ldOf).Pairwise (· < ·) := by
    have := h.p
    unfold rowsOf at this
    rw [List.pairwise_map] at this
    exact List.pairwise_map.mpr this
  rcases pw_lt_len (lo := 0) (n := n) hp (fun x hx => by
    obtain ⟨w, hw, rfl⟩ := List.mem_map.mp hx
    exact ⟨Nat.zero_le _, lead_lt (RedW.all h.u w hw) (RedW.idx h.u hw).2⟩) with e | e
  · simpa using e
  · have : ws = [] := by simpa using e
    subst this; exact Nat.zero_le _
end G7

set_option Elab.async false
set_option linter.all false
set_option maxRecDepth 100000
set_option autoImplicit false
namespace G7
theorem loopM_st {α σ : Type} {tg : PV → M Unit} {body : M Out} (f : α → PV) (I : σ → Env → Prop) (step : σ → α → σ) :
    ∀ {ys : List α} {s : σ} {ρ : Env}, I s ρ → (∀ y ∈ ys, ∀ s ρ, I s ρ → ∃ ρ1 ρ2, tg (f y) ρ = .ok () ρ1 ∧ body ρ1 = .ok .nx ρ2 ∧ I (step s y) ρ2) → ∃ ρ', loopM tg body (ys.map f) ρ = .ok .nx ρ' ∧ I (ys.foldl step s) ρ'
  | [], s, ρ, h0, _ => ⟨ρ, rfl, h0⟩
  | y :: ys, s, ρ, h0, h => by
    obtain ⟨ρ1, ρ2, h1, h2, h3⟩ := h y (List.mem_cons_self ..) s ρ h0
    obtain ⟨ρ', h4, h5⟩ := loopM_st f I step (ys := ys) (s := step s y) (ρ := ρ2) h3 fun z hz => h z (List.mem_cons_of_mem _ hz)
    refine ⟨ρ', ?_, h5⟩
    show bndN (tg (f y)) (bnd body (aft (loopM tg body (ys.map f)))) ρ = _
    simp [h1, h2, aft, h4]
theorem lcM_filt {α : Type} {it : M (List PV)} {tg : PV → M Unit} {c : M Bool} {el : M PV} {own : List Nat} {ρ ρ' : Env} {ys : List α} (f g : α → PV) (p : α → Bool) (hi : it ρ = .ok (ys.map f) ρ') (hl : ys.length ≤ LINE)
    (h : ∀ y ∈ ys, ∃ ρ1 ρ2, tg (f y) (wipeE ρ' own) = .ok () ρ1 ∧ c ρ1 = .ok (p y) ρ2 ∧ wipeE ρ2 own = wipeE ρ' own ∧ (p y = true → ∃ ρ3, el ρ2 = .ok (g y) ρ3 ∧ wipeE ρ3 own = wipeE ρ' own)) (hw : wipeE (wipeE ρ' own) own = wipeE ρ' own) :
    lcM it tg c el own ρ = .ok (.lst ((ys.filter p).map g)) (restE ρ' (wipeE ρ' own) own) := by
  show (bnd it _) ρ = _
  rw [e_bnd, hi]
  show (if (ys.map f).length ≤ LINE then _ else _) = _
  rw [if_pos (by rw [List.length_map]; exact hl)]
  have key : ∀ (zs : List α) (ρ0 : Env), (∀ y ∈ zs, y ∈ ys) → wipeE ρ0 own = wipeE ρ' own → lcL tg c el own (zs.map f) ρ0 = .ok ((zs.filter p).map g) (wipeE ρ' own) := by
    intro zs
    induction zs with
    | nil => intro ρ0 _ e; show Res.ok [] (wipeE ρ0 own) = _; rw [e]; rfl
    | cons z zs ih =>
      intro ρ0 hz e
      obtain ⟨ρ1, ρ2, h1, h2, h3, h4⟩ := h z (hz z (List.mem_cons_self ..))
      show bndN (tg (f z)) (bnd c fun b => if b then bnd el fun y => bnd (lcL tg c el own (zs.map f)) fun ys => ret (y :: ys) else lcL tg c el own (zs.map f)) (wipeE ρ0 own) = _
      rw [e]
      cases hp : p z with
      | false =>
        have := ih ρ2 (fun y hy => hz y (List.mem_cons_of_mem _ hy)) h3
        rw [hp] at h2
        simp [h1, h2, this, hp]
      | true =>
        obtain ⟨ρ3, h5, h6⟩ := h4 hp
        have := ih ρ3 (fun y hy => hz y (List.mem_cons_of_mem _ hy)) h6
        rw [hp] at h2
        simp [h1, h2, h5, this, hp]
  rw [key ys _ (fun _ z => z) hw]
theorem xo_zip : ∀ (a b : Wd), xo a b = (a.zip b).map fun p => if p.1 = p.2 then 48 else 49
  | [], _ => rfl
  | _ :: _, [] => rfl
  | x :: a, y :: b => by show xb x y :: xo a b = _; rw [xo_zip a b]; rfl
theorem Wn.ln {n : Nat} {w : Wd} (h : Wn n w) (hn : n ≤ 1000) : lenV (.str w) = some (.int n) := by rw [v_lenS w (by rw [h.l]; exact Nat.le_trans hn (by decide)), h.l]
theorem v_at {n : Nat} {w : Wd} (h : Wn n w) (hn : n ≤ 1000) {p : Nat} (hp : p < n) : getV (.str w) (.int p) = some (.str [at_ w p]) := by
  have hl : p < w.length := by rw [h.l]; exact hp
  show (if w.length ≤ LINE then (L2.atI w (p : Int)).map fun c => PV.str [c] else none) = _
  rw [if_pos (by rw [h.l]; exact Nat.le_trans hn (by decide)), L2.atI_nat (List.getElem?_eq_getElem hl)]
  unfold at_
  rw [List.getD_eq_getElem?_getD, List.getElem?_eq_getElem hl]; rfl
theorem v_idx {w : Wd} {p : Nat} (h : indexOf 49 w = some p) : indexV (.str w) (.str [49]) = some (.int p) := by show (indexOf 49 w).map _ = _; rw [h]; rfl
@[simp] theorem v_sortS (ws : List Wd) : sortV (.lst (ws.map .str)) = some (.lst ((srt ltL ws).map .str)) := by show (match strsP (ws.map .str) with | some ys => _ | none => _) = _; rw [strsP_map]
@[simp] theorem v_backL (ws : List PV) : backA (.lst ws) = some (.lst ws.reverse) := rfl
@[simp] theorem v_backT (ws : List PV) : backA (.tup ws) = some (.tup ws.reverse) := rfl
@[simp] theorem v_tupL (ws : List PV) : tupleV (.lst ws) = some (.tup ws) := rfl
@[simp] theorem v_tupT (ws : List PV) : tupleV (.tup ws) = some (.tup ws) := rfl
@[simp] theorem v_listL (ws : List PV) : listV (.lst ws) = some (.lst ws) := rfl
@[simp] theorem v_listT (ws : List PV) : listV (.tup ws) = some (.lst ws) := rfl
@[simp] theorem v_listD (ws : List (PV × PV)) : listV (.dct ws) = some (.lst (ws.map (·.1))) := rfl
theorem v_addL (xs ys : List PV) (h : xs.length + ys.length ≤ 16777216) : addV (.lst xs) (.lst ys) = some (.lst (xs ++ ys)) := if_pos h
theorem v_addT (xs ys : List PV) (h : xs.length + ys.length ≤ 16777216) : addV (.tup xs) (.tup ys) = some (.tup (xs ++ ys)) := if_pos h
theorem v_addS (xs ys : List Nat) (h : xs.length + ys.length ≤ 16777216) : addV (.str xs) (.str ys) = some (.str (xs ++ ys)) := if_pos h
@[simp] theorem v_pair0 (a b : PV) : getV (.tup [a, b]) (.int 0) = some a := rfl
@[simp] theorem v_pair1 (a b : PV) : getV (.tup [a, b]) (.int 1) = some b := rfl
theorem v_zeros (n : Nat) (h : n ≤ 1000) : mulV (.str [48]) (.int n) = some (.str (zr n)) := by
  show (if near 16777216 (n : Int) then _ else _) = _
  rw [if_pos (near_mk (by omega) (by omega)), Int.toNat_natCast]; rfl
theorem eqvs_str : ∀ (us vs : List Wd), eqvs (us.map .str) (vs.map .str) = decide (us = vs)
  | [], [] => rfl
  | [], _ :: _ => rfl
  | _ :: _, [] => rfl
  | u :: us, v :: vs => by
    show ((u == v) && eqvs (us.map .str) (vs.map .str)) = _
    rw [eqvs_str us vs, beqL]
    by_cases h1 : u = v <;> by_cases h2 : us = vs <;> simp [h1, h2]
theorem dp_strs (n : Nat) (ws : List Wd) : (ws.map PV.str).all (dp n) = true := by
  rw [List.all_eq_true]
  intro x hx
  obtain ⟨w, _, rfl⟩ := List.mem_map.mp hx
  cases n <;> rfl
@[simp] theorem v_eqLS (us vs : List Wd) : eqV (.lst (us.map .str)) (.lst (vs.map .str)) = some (.bl (decide (us = vs))) := by
  show (if ((us.map PV.str).all (dp 59) && (vs.map PV.str).all (dp 59)) = true then some (PV.bl (eqvs (us.map .str) (vs.map .str))) else none) = _
  rw [dp_strs, dp_strs, eqvs_str]; rfl
@[simp] theorem v_neLS (us vs : List Wd) : neV (.lst (us.map .str)) (.lst (vs.map .str)) = some (.bl !(decide (us = vs))) := by
  show (if ((us.map PV.str).all (dp 59) && (vs.map PV.str).all (dp 59)) = true then some (PV.bl !(eqvs (us.map .str) (vs.map .str))) else none) = _
  rw [dp_strs, dp_strs, eqvs_str]; rfl
@[simp] theorem v_neLS0 (us : List Wd) : neV (.lst (us.map .str)) (.lst []) = some (.bl !(decide (us = []))) := v_neLS us []
@[simp] theorem v_eqLS0 (us : List Wd) : eqV (.lst (us.map .str)) (.lst []) = some (.bl (decide (us = []))) := v_eqLS us []
/-- a code, as the program has it -/
def codeV (n : Nat) (bs : List Wd) : PV := .tup [.int n, .tup (bs.map .str)]
theorem eqv_code (n m : Nat) (us vs : List Wd) : eqv (codeV n us) (codeV m vs) = decide (n = m ∧ us = vs) := by
  show (((n : Int) == (m : Int)) && (eqvs (us.map .str) (vs.map .str) && true)) = _
  rw [eqvs_str, Bool.and_true]
  by_cases h1 : n = m
  · by_cases h2 : us = vs <;> simp [h1, h2]
  · have h3 : ¬ (n : Int) = m := by omega
    simp [h1, h3]
theorem dp_code (n : Nat) (us : List Wd) : dp 60 (codeV n us) = true := by
  show (true && ((us.map PV.str).all (dp 58) && true)) = true
  rw [dp_strs]; rfl
theorem v_eqC (n m : Nat) (us vs : List Wd) : eqV (codeV n us) (codeV m vs) = some (.bl (decide (n = m ∧ us = vs))) := by unfold eqV; rw [dp_code, dp_code, eqv_code]; rfl
theorem v_neC (n m : Nat) (us vs : List Wd) : neV (codeV n us) (codeV m vs) = some (.bl !(decide (n = m ∧ us = vs))) := by unfold neV; rw [dp_code, dp_code, eqv_code]; rfl
theorem any_str (w : Wd) (ws : List Wd) : ((ws.map PV.str).any fun y => eqv y (.str w)) = decide (w ∈ ws) := by
  induction ws with
  | nil => rfl
  | cons v ws ih =>
    rw [List.map_cons, List.any_cons, ih]
    show ((v == w) || _) = _
    rw [beqL]
    by_cases h1 : v = w
    · simp [h1]
    · simp [h1, Ne.symm h1, eq_comm]
theorem inV_lst (w : Wd) (ws : List Wd) : inV (.str w) (.lst (ws.map .str)) = some (decide (w ∈ ws)) := by
  have e : inV (.str w) (.lst (ws.map .str)) = if dp 59 (.str w) && (ws.map PV.str).all (dp 59) then some ((ws.map PV.str).any fun y => eqv y (.str w)) else none := by
    rcases w with _ | ⟨c, _ | ⟨d, r⟩⟩ <;> rfl
  rw [e, dp_strs, any_str]; rfl
theorem inV_tup (w : Wd) (ws : List Wd) : inV (.str w) (.tup (ws.map .str)) = some (decide (w ∈ ws)) := by
  have e : inV (.str w) (.tup (ws.map .str)) = if dp 0 (.str w) && (ws.map PV.str).all (dp 0) then some ((ws.map PV.str).any fun y => eqv y (.str w)) else none := by
    rcases w with _ | ⟨c, _ | ⟨d, r⟩⟩ <;> rfl
  rw [e, dp_strs, any_str]; rfl
@[simp] theorem v_inL (w : Wd) (ws : List Wd) : inV1 (.str w) (.lst (ws.map .str)) = some (.bl (decide (w ∈ ws))) := by unfold inV1; rw [inV_lst]; rfl
@[simp] theorem v_in0L (w : Wd) (ws : List Wd) : inV0 (.str w) (.lst (ws.map .str)) = some (.bl !(decide (w ∈ ws))) := by unfold inV0; rw [inV_lst]; rfl
@[simp] theorem v_inT (w : Wd) (ws : List Wd) : inV1 (.str w) (.tup (ws.map .str)) = some (.bl (decide (w ∈ ws))) := by unfold inV1; rw [inV_tup]; rfl
@[simp] theorem v_in0T (w : Wd) (ws : List Wd) : inV0 (.str w) (.tup (ws.map .str)) = some (.bl !(decide (w ∈ ws))) := by unfold inV0; rw [inV_tup]; rfl
theorem keys_look (w : Wd) : ∀ (ks : List (PV × PV)) (us : List Wd), ks.map (·.1) = us.map .str → (lookD (.str w) ks).isSome = decide (w ∈ us) ∧ hasD (.str w) ks = decide (w ∈ us)
  | [], [], _ => ⟨rfl, rfl⟩
  | [], _ :: _, h => by cases h
  | _ :: _, [], h => by cases h
  | (a, b) :: ks, u :: us, h => by
    obtain ⟨h1, h2⟩ : a = .str u ∧ ks.map (·.1) = us.map .str := by simpa using h
    subst h1
    obtain ⟨i1, i2⟩ := keys_look w ks us h2
    have e : eqv (.str u) (.str w) = decide (u = w) := beqL u w
    constructor
    · show (if eqv (.str u) (.str w) then some b else lookD (.str w) ks).isSome = _
      rw [e]
      by_cases h3 : u = w
      · simp [h3]
      · simp [h3, i1, Ne.symm h3, eq_comm]
    · show (eqv (.str u) (.str w) || hasD (.str w) ks) = _
      rw [e, i2]
      by_cases h3 : u = w
      · simp [h3]
      · simp [h3, Ne.symm h3, eq_comm]
theorem sIx_none (n d : Nat) : HT.sIx n d none = d := rfl
theorem sIx_nat (n d k : Nat) : HT.sIx n d (some (k : Int)) = min k n := by
  unfold HT.sIx
  simp
  omega
theorem cut_from {α : Type} (xs : List α) (k : Nat) : cut xs (some (k : Int)) none = xs.drop k := by
  unfold cut
  rw [sIx_nat, sIx_none]
  by_cases h : k ≤ xs.length
  · rw [Nat.min_eq_left h, List.take_of_length_le (by simp)]
  · rw [Nat.min_eq_right (by omega)]
    simp
    omega
theorem cut_to {α : Type} (xs : List α) (k : Nat) : cut xs none (some (k : Int)) = xs.take k := by
  unfold cut
  rw [sIx_nat, sIx_none, List.drop_zero, Nat.sub_zero]
  by_cases h : k ≤ xs.length
  · rw [Nat.min_eq_left h]
  · rw [Nat.min_eq_right (by omega), List.take_of_length_le (Nat.le_refl _), List.take_of_length_le (by omega)]
theorem cut_1 {α : Type} (xs : List α) : cut xs (some 1) none = xs.tail := by rw [show (some (1 : Int)) = some ((1 : Nat) : Int) from rfl, cut_from, List.drop_one]
theorem v_sliceS {n : Nat} {w : Wd} (h : Wn n w) (hn : n ≤ 1000) (lo hi : Option Int) : sliceV (.str w) lo hi = some (.str (cut w lo hi)) := by
  show (if w.length ≤ LINE then _ else _) = _
  rw [if_pos (by rw [h.l]; exact Nat.le_trans hn (by decide))]
@[simp] theorem v_sliceL (xs : List PV) (lo hi : Option Int) : sliceV (.lst xs) lo hi = some (.lst (cut xs lo hi)) := rfl
theorem loopM_ix {α σ : Type} {tg : PV → M Unit} {body : M Out} (f : α → PV) (I : Nat → σ → Env → Prop) (step : σ → α → σ) :
    ∀ {ys : List α} {k : Nat} {s : σ} {ρ : Env}, I k s ρ → (∀ i y, ys[i]? = some y → ∀ s ρ, I (k + i) s ρ → ∃ ρ1 ρ2, tg (f y) ρ = .ok () ρ1 ∧ body ρ1 = .ok .nx ρ2 ∧ I (k + i + 1) (step s y) ρ2) → ∃ ρ', loopM tg body (ys.map f) ρ = .ok .nx ρ' ∧ I (k + ys.length) (ys.foldl step s) ρ'
  | [], k, s, ρ, h0, _ => ⟨ρ, rfl, h0⟩
  | y :: ys, k, s, ρ, h0, h => by
    obtain ⟨ρ1, ρ2, h1, h2, h3⟩ := h 0 y rfl s ρ h0
    obtain ⟨ρ', h4, h5⟩ := loopM_ix f I step (ys := ys) (k := k + 1) (s := step s y) (ρ := ρ2) h3 fun i z hz s ρ hI => by
      have := h (i + 1) z hz s ρ (by rw [show k + (i + 1) = k + 1 + i by omega]; exact hI)
      rw [show k + (i + 1) + 1 = k + 1 + i + 1 by omega] at this
      exact this
    refine ⟨ρ', ?_, by rw [List.length_cons, show k + (ys.length + 1) = k + 1 + ys.length by omega]; exact h5⟩
    show bndN (tg (f y)) (bnd body (aft (loopM tg body (ys.map f)))) ρ = _
    simp [h1, h2, aft, h4]
theorem words_len : ∀ {n : Nat} {L : List Wd}, L.Nodup → AllW n L → L.length ≤ 2 ^ n
  | 0, L, hd, hw => by
    have h0 : ∀ w ∈ L, w = [] := fun w h => List.eq_nil_of_length_eq_zero (hw w h).l
    match L, hd, h0 with
    | [], _, _ => exact Nat.zero_le _
    | [_], _, _ => exact Nat.le_refl _
    | a :: b :: _, hd, h0 =>
      have := (List.nodup_cons.mp hd).1
      rw [h0 a (by simp), h0 b (by simp)] at this
      simp at this
  | n + 1, L, hd, hw => by
    have part : ∀ c : Nat, (L.filter fun w => w.head? == some c).length ≤ 2 ^ n := fun c => by
      have h1 : ((L.filter fun w => w.head? == some c).map List.tail).Nodup := by
        refine List.pairwise_map.mpr ((hd.filter _).imp_of_mem fun {a b} ha hb hab e => hab ?_)
        have ha' := (List.mem_filter.mp ha)
        have hb' := (List.mem_filter.mp hb)
        cases a with
        | nil => simp at ha'
        | cons x a => cases b with
          | nil => simp at hb'
          | cons y b =>
            have e1 : x = c := by simpa using ha'.2
            have e2 : y = c := by simpa using hb'.2
            have e3 : a = b := e
            rw [e1, e2, e3]
      have h2 : AllW n ((L.filter fun w => w.head? == some c).map List.tail) := fun w hw' => by
        obtain ⟨v, hv, rfl⟩ := List.mem_map.mp hw'
        have := hw v (List.mem_filter.mp hv).1
        rcases this.cases with ⟨h, _⟩ | ⟨m, x, a, h, rfl, _, ha⟩
        · cases h
        · cases h; exact ha
      have := words_len h1 h2
      rwa [List.length_map] at this
    have hs : L.length = (L.filter fun w => w.head? == some 48).length + (L.filter fun w => w.head? == some 49).length := by
      clear hd part
      induction L with
      | nil => rfl
      | cons w L ih =>
        have hi := ih fun v hv => hw v (List.mem_cons_of_mem _ hv)
        rcases (hw w (List.mem_cons_self ..)).cases with ⟨h, _⟩ | ⟨m, x, a, h, rfl, hx, ha⟩
        · cases h
        · rcases hx with rfl | rfl <;> simp [List.filter_cons] <;> omega
    have := part 48
    have := part 49
    rw [Nat.pow_succ]; omega
theorem enum_len {n : Nat} {ws L : List Wd} (h : EnumL (SpW n ws) L) (hn : n ≤ 10) : L.length ≤ 1024 :=
  Nat.le_trans (words_len h.nd fun w hw => ((h.m w).mp hw).1) (Nat.pow_le_pow_right (by decide) hn)
theorem RedW.nodup {n : Nat} {bs : List Wd} (h : RedU n (rowsOf bs)) : bs.Nodup := (RedW.dist h).imp fun {a b} hab e => hab (by rw [e])
theorem red_filter {n : Nat} {bs : List Wd} (h : RedU n (rowsOf bs)) {r : Wd} (hr : r ∈ bs) : (bs.filter fun w => decide (at_ w (ldOf r) = 49)).length = 1 := by
  have p : (bs.filter fun w => decide (at_ w (ldOf r) = 49)).Perm [r] := (List.perm_ext_iff_of_nodup ((RedW.nodup h).filter _) (by simp)).mpr fun w => by
    rw [List.mem_filter, List.mem_singleton, decide_eq_true_eq]
    constructor
    · rintro ⟨h1, h2⟩
      by_cases e : ldOf w = ldOf r
      · have hw := RedW.idx h h1
        have hr' := RedW.idx h hr
        have m1 : (ldOf w, w) ∈ rowsOf bs := List.mem_map.mpr ⟨w, h1, rfl⟩
        have m2 : (ldOf r, r) ∈ rowsOf bs := List.mem_map.mpr ⟨r, hr, rfl⟩
        have hs := h.mem m1
        exact h.only (r := (ldOf r, r)) m2 hs h2 fun s hs' hne => h.c (ldOf w, w) m1 s hs' (by show ldOf w ≠ s.1; rw [e]; exact fun z => hne z.symm)
      · have := h.c (ldOf w, w) (List.mem_map.mpr ⟨w, h1, rfl⟩) (ldOf r, r) (List.mem_map.mpr ⟨r, hr, rfl⟩) e
        rw [h2] at this; cases this
    · rintro rfl
      exact ⟨hr, (RedW.idx h hr).2.1⟩
  rw [p.length_eq]; rfl
theorem adj_lt : ∀ {l : List Nat}, l.Pairwise (· < ·) → ((l.zip l.tail).all fun p => decide (p.1 < p.2)) = true
  | [], _ => rfl
  | [x], _ => rfl
  | x :: y :: l, h => by
    obtain ⟨h1, h2⟩ := List.pairwise_cons.mp h
    have h3 := adj_lt h2
    have := h1 y (List.mem_cons_self ..)
    show (decide (x < y) && _) = true
    rw [decide_eq_true this, Bool.true_and]
    exact h3
theorem zr_notin {n : Nat} {bs : List Wd} (h : RedU n (rowsOf bs)) : zr n ∉ bs := fun hm => zr_noLead (RedW.idx h hm).2
def addK (ks : List Wd) (k : Wd) : List Wd := if k ∈ ks then ks else ks ++ [k]
theorem fold_addK : ∀ (news base : List Wd), (base ++ news).Nodup → news.foldl addK base = base ++ news
  | [], base, _ => by simp
  | k :: news, base, h => by
    have hk : k ∉ base := fun hm => by
      have := (List.nodup_append.mp h).2.2 k hm k (List.mem_cons_self ..)
      exact this rfl
    rw [List.foldl_cons, show addK base k = base ++ [k] from if_neg hk, fold_addK news (base ++ [k]) (by simpa using h)]
    simp
theorem words_fold (n : Nat) (bs : List Wd) : bs.reverse.foldl (fun L r => L ++ L.map fun w => xo w r) [zr n] = wordsL n bs := by
  rw [List.foldl_reverse]
  induction bs with
  | nil => rfl
  | cons b bs ih => rw [List.foldr_cons, ih]; rfl
theorem keys_put (w : Wd) (v : PV) : ∀ (ks : List (PV × PV)) (us : List Wd), ks.map (·.1) = us.map .str → (putD (.str w) v ks).map (·.1) = (addK us w).map .str := by
  intro ks us h
  unfold putD addK
  rw [(keys_look w ks us h).2]
  by_cases hm : w ∈ us
  · rw [if_pos hm]
    simp only [hm, decide_true, if_true]
    rw [← h]
    clear h hm
    induction ks with
    | nil => rfl
    | cons p ks ih =>
      obtain ⟨a, b⟩ := p
      show ((if eqv a (.str w) then (a, v) else (a, b)) :: swapD (.str w) v ks).map (·.1) = _
      rw [List.map_cons, ih]
      by_cases he : eqv a (.str w) = true <;> simp [he]
  · rw [if_neg hm]
    simp [hm, h]
theorem v_in0D {w : Wd} {kvs : List (PV × PV)} {ks : List Wd} (h : kvs.map (·.1) = ks.map .str) : inV0 (.str w) (.dct kvs) = some (.bl !(decide (w ∈ ks))) := by
  have e : inV (.str w) (.dct kvs) = some (lookD (.str w) kvs).isSome := by
    rcases w with _ | ⟨c, _ | ⟨d, r⟩⟩ <;> rfl
  unfold inV0
  rw [e, (keys_look w kvs ks h).1]; rfl
theorem addK_len (ks : List Wd) (k : Wd) : (addK ks k).length ≤ ks.length + 1 := by
  unfold addK
  split
  · omega
  · simp
theorem foldl_filt {α : Type} (q : α → Bool) : ∀ (l acc : List α), l.foldl (fun a p => if q p then a ++ [p] else a) acc = acc ++ l.filter q
  | [], acc => by simp
  | x :: l, acc => by
    rw [List.foldl_cons, foldl_filt q l, List.filter_cons]
    cases q x <;> simp
theorem foldl_snoc {α β : Type} (g : α → β) : ∀ (l : List α) (acc : List β), l.foldl (fun a p => a ++ [g p]) acc = acc ++ l.map g
  | [], acc => by simp
  | x :: l, acc => by rw [List.foldl_cons, foldl_snoc g l]; simp
theorem any_filter {α : Type} (q : α → Bool) (l : List α) : l.any q = !(decide (l.filter q = [])) := by
  induction l with
  | nil => rfl
  | cons x l ih =>
    rw [List.any_cons, List.filter_cons, ih]
    cases q x <;> simp
theorem v_neIN (a b : Nat) : neV (.int a) (.int b) = some (.bl !(decide (a = b))) := by
  show some (PV.bl !((a : Int) == (b : Int))) = _
  by_cases h : a = b
  · simp [h]
  · have : ¬ (a : Int) = b := by omega
    simp [h, this]
@[simp] theorem v_get0 (x : PV) (xs : List PV) : getV (.lst (x :: xs)) (.int 0) = some x := L2.atI_nat (j := 0) rfl
@[simp] theorem v_get0T (x : PV) (xs : List PV) : getV (.tup (x :: xs)) (.int 0) = some x := L2.atI_nat (j := 0) rfl
theorem v_head {ws : List Wd} (h : ws ≠ []) : getV (.lst (ws.map .str)) (.int 0) = some (.str (ws.headD [])) := by
  cases ws with
  | nil => exact absurd rfl h
  | cons w ws => exact v_get0 _ _
theorem loopM_chk {α : Type} {tg : PV → M Unit} {body : M Out} (f : α → PV) (v : PV) (good : α → Bool) (I : Env → Prop) :
    ∀ {ys : List α} {ρ : Env}, I ρ → (∀ y ∈ ys, ∀ ρ, I ρ → ∃ ρ1 ρ2, tg (f y) ρ = .ok () ρ1 ∧ body ρ1 = .ok (if good y then .nx else .rt v) ρ2 ∧ I ρ2) → ∃ ρ', loopM tg body (ys.map f) ρ = .ok (if ys.all good then .nx else .rt v) ρ' ∧ I ρ'
  | [], ρ, h0, _ => ⟨ρ, rfl, h0⟩
  | y :: ys, ρ, h0, h => by
    obtain ⟨ρ1, ρ2, h1, h2, h3⟩ := h y (List.mem_cons_self ..) ρ h0
    cases hg : good y with
    | false =>
      rw [hg] at h2
      refine ⟨ρ2, ?_, h3⟩
      show bndN (tg (f y)) (bnd body (aft (loopM tg body (ys.map f)))) ρ = _
      simp [h1, h2, aft, hg]
    | true =>
      rw [hg] at h2
      obtain ⟨ρ', h4, h5⟩ := loopM_chk f v good I (ys := ys) (ρ := ρ2) h3 fun z hz => h z (List.mem_cons_of_mem _ hz)
      refine ⟨ρ', ?_, h5⟩
      show bndN (tg (f y)) (bnd body (aft (loopM tg body (ys.map f)))) ρ = _
      simp [h1, h2, aft, h4, hg]
def isRedB (bs : List Wd) : Bool := (((bs.map ldOf).zip (bs.map ldOf).tail).all fun p => decide (p.1 < p.2)) && bs.all fun r => decide ((bs.filter fun w => decide (at_ w (ldOf r) = 49)).length = 1)
theorem RedW.inc {n : Nat} {bs : List Wd} (h : RedW n bs) : (bs.map ldOf).Pairwise (· < ·) := by
  have := h.p
  unfold rowsOf at this
  rw [List.pairwise_map] at this
  exact List.pairwise_map.mpr this
theorem isRedB_of {n : Nat} {bs : List Wd} (h : RedW n bs) : isRedB bs = true := by
  unfold isRedB
  rw [adj_lt h.inc, Bool.true_and, List.all_eq_true]
  intro r hr
  exact decide_eq_true (red_filter h.u hr)
theorem set_back {α : Type} (l : List (Option α)) (j : Nat) : (l.set j none).set j (l.getD j none) = l := by
  refine List.ext_getElem? fun i => ?_
  by_cases h : i = j
  · subst h
    by_cases hl : i < l.length
    · rw [List.getElem?_set_self (by simpa using hl), List.getD_eq_getElem?_getD, List.getElem?_eq_getElem hl]; rfl
    · rw [List.getElem?_eq_none (by simp; omega), List.getElem?_eq_none (by omega)]
  · rw [List.getElem?_set_ne (Ne.symm h), List.getElem?_set_ne (Ne.symm h)]
theorem set_back2 {α : Type} (l : List (Option α)) (j : Nat) : l.set j (l[j]?.getD none) = l := by
  have := set_back l j
  rwa [List.set_set, List.getD_eq_getElem?_getD] at this
@[simp] theorem v_get1 (x y : PV) (xs : List PV) : getV (.lst (x :: y :: xs)) (.int 1) = some y := L2.atI_nat (j := 1) rfl
theorem ixN_nat {n k : Nat} (h : k < n) : L2.ixN n (k : Int) = some k := by unfold L2.ixN; rw [if_pos (by omega), if_pos (by omega)]; rfl
theorem ixN_0 (n : Nat) : L2.ixN (n + 1) 0 = some 0 := ixN_nat (k := 0) (by omega)
/-- the changed basis of the law is none -/
theorem red_spoilt {n : Nat} {b0 b1 : Wd} {bs : List Wd} (h : RedW n (b0 :: b1 :: bs)) : isRedB (xo b0 b1 :: b1 :: bs) = false ∧ zr n ∉ (xo b0 b1 :: b1 :: bs) := by
  have m0 : b0 ∈ b0 :: b1 :: bs := by simp
  have m1 : b1 ∈ b0 :: b1 :: bs := by simp
  have hall := RedW.all h.u
  have w0 := hall b0 m0
  have w1 := hall b1 m1
  have l0 := (RedW.idx h.u m0).2
  have l1 := (RedW.idx h.u m1).2
  have hlt : ldOf b0 < ldOf b1 := by
    have := h.inc
    simp at this
    exact this.1.1
  have hat : at_ b0 (ldOf b1) = 48 := h.u.c (ldOf b0, b0) (List.mem_map.mpr ⟨b0, m0, rfl⟩) (ldOf b1, b1) (List.mem_map.mpr ⟨b1, m1, rfl⟩) (by show ldOf b0 ≠ ldOf b1; omega)
  have a1 : at_ (xo b0 b1) (ldOf b1) = 49 := by rw [at_xo w0 w1, hat, l1.1]; rfl
  constructor
  · unfold isRedB
    have : (List.all (xo b0 b1 :: b1 :: bs) fun r => decide (((xo b0 b1 :: b1 :: bs).filter fun w => decide (at_ w (ldOf r) = 49)).length = 1)) = false := by
      rw [List.all_eq_false]
      refine ⟨b1, by simp, ?_⟩
      simp [List.filter_cons, a1, l1.1]
    rw [this, Bool.and_false]
  · intro hm
    rcases List.mem_cons.mp hm with e | e
    · have := a1; rw [← e, at_zr] at this; cases this
    · exact zr_notin h.u (List.mem_cons_of_mem _ e)
@[simp] theorem v_neC1 (n m : Nat) (us vs : List Wd) : neV (codeV n us) (.tup [.int m, .tup (vs.map .str)]) = some (.bl !(decide (n = m ∧ us = vs))) := v_neC n m us vs
@[simp] theorem v_neC2 (n m : Nat) (us vs : List Wd) : neV (codeV n us) (codeV m vs) = some (.bl !(decide (n = m ∧ us = vs))) := v_neC n m us vs
@[simp] theorem v_eqC2 (n m : Nat) (us vs : List Wd) : eqV (codeV n us) (codeV m vs) = some (.bl (decide (n = m ∧ us = vs))) := v_eqC n m us vs
@[simp] theorem v_eqC1 (n m : Nat) (us vs : List Wd) : eqV (codeV n us) (.tup [.int m, .tup (vs.map .str)]) = some (.bl (decide (n = m ∧ us = vs))) := v_eqC n m us vs
@[simp] theorem v_codeI (n : Nat) (us : List Wd) : getV (codeV n us) (.int 0) = some (.int n) := rfl
@[simp] theorem v_codeB (n : Nat) (us : List Wd) : getV (codeV n us) (.int 1) = some (.tup (us.map .str)) := rfl
end G7

set_option Elab.async false
set_option linter.all false
set_option maxRecDepth 100000
set_option autoImplicit false
namespace G7
def xs (n : Nat) (f : Nat → Bool) : Bool := match n with
  | 0 => false
  | n + 1 => Bool.xor (xs n f) (f n)
theorem xs_congr : ∀ {n : Nat} {f g : Nat → Bool}, (∀ i, i < n → f i = g i) → xs n f = xs n g
  | 0, _, _, _ => rfl
  | n + 1, f, g, h => by
    show Bool.xor (xs n f) (f n) = Bool.xor (xs n g) (g n)
    rw [xs_congr (n := n) (f := f) (g := g) fun i hi => h i (by omega), h n (by omega)]
theorem xs_false : ∀ (n : Nat), xs n (fun _ => false) = false
  | 0 => rfl
  | n + 1 => by show Bool.xor (xs n fun _ => false) false = false; rw [xs_false n]; rfl
theorem xs_xor : ∀ (n : Nat) (f g : Nat → Bool), xs n (fun i => Bool.xor (f i) (g i)) = Bool.xor (xs n f) (xs n g)
  | 0, _, _ => rfl
  | n + 1, f, g => by
    show Bool.xor (xs n fun i => Bool.xor (f i) (g i)) (Bool.xor (f n) (g n)) = Bool.xor (Bool.xor (xs n f) (f n)) (Bool.xor (xs n g) (g n))
    rw [xs_xor n f g]
    cases xs n f <;> cases xs n g <;> cases f n <;> cases g n <;> rfl
theorem xs_one : ∀ {n k : Nat} (b : Bool), k < n → xs n (fun i => decide (i = k) && b) = b
  | 0, k, _, h => by omega
  | n + 1, k, b, h => by
    show Bool.xor (xs n fun i => decide (i = k) && b) (decide (n = k) && b) = b
    by_cases e : n = k
    · subst e
      rw [xs_congr (g := fun _ => false) (fun i hi => by rw [decide_eq_false (by omega)]; rfl), xs_false]
      simp
    · rw [xs_one b (show k < n by omega), decide_eq_false e]
      simp
def bt (w : Wd) (i : Nat) : Bool := decide (at_ w i = 49)
theorem bt_xo {n : Nat} {a b : Wd} (ha : Wn n a) (hb : Wn n b) (i : Nat) : bt (xo a b) i = Bool.xor (bt a i) (bt b i) := by
  unfold bt
  rw [at_xo ha hb]
  rcases at_bit ha i with h1 | h1 <;> rcases at_bit hb i with h2 | h2 <;> rw [h1, h2] <;> rfl
theorem bt_at {n : Nat} {a : Wd} (ha : Wn n a) {i : Nat} : (bt a i = false ↔ at_ a i = 48) ∧ (bt a i = true ↔ at_ a i = 49) := by
  unfold bt
  rcases at_bit ha i with h | h <;> rw [h] <;> simp
theorem bt_zr (n i : Nat) : bt (zr n) i = false := by unfold bt; rw [at_zr]; rfl
theorem bt_ext {n : Nat} {a b : Wd} (ha : Wn n a) (hb : Wn n b) (h : ∀ i, i < n → bt a i = bt b i) : a = b := ext_at ha hb fun i hi => by
  have := h i hi
  unfold bt at this
  rcases at_bit ha i with h1 | h1 <;> rcases at_bit hb i with h2 | h2 <;> rw [h1, h2] at this ⊢ <;> simp at this
/-- the inner product -/
def dot (n : Nat) (a b : Wd) : Bool := xs n fun i => bt a i && bt b i
theorem dot_comm (n : Nat) (a b : Wd) : dot n a b = dot n b a := xs_congr fun i _ => Bool.and_comm _ _
theorem dot_xo {n : Nat} {a u v : Wd} (hu : Wn n u) (hv : Wn n v) : dot n a (xo u v) = Bool.xor (dot n a u) (dot n a v) := by
  unfold dot
  rw [← xs_xor]
  refine xs_congr fun i _ => ?_
  rw [bt_xo hu hv]
  cases bt a i <;> cases bt u i <;> cases bt v i <;> rfl
theorem dot_zr (n : Nat) (a : Wd) : dot n a (zr n) = false := by
  unfold dot
  rw [xs_congr (g := fun _ => false) (fun i _ => by rw [bt_zr, Bool.and_false]), xs_false]
/-- orthogonal to a list -/
def Orth (n : Nat) (bs : List Wd) (w : Wd) : Prop := Wn n w ∧ ∀ b ∈ bs, dot n b w = false
theorem orth_lin (n : Nat) (bs : List Wd) : Lin n (Orth n bs) := ⟨fun _ h => h.1, ⟨Wn.zr n, fun b _ => dot_zr n b⟩, fun u v hu hv => ⟨hu.1.xo hv.1, fun b hb => by rw [dot_xo hu.1 hv.1, hu.2 b hb, hv.2 b hb]; rfl⟩⟩
/-- orthogonal to a list: to all that it spans -/
theorem orth_span {n : Nat} {bs : List Wd} (hb : AllW n bs) {w : Wd} (h : Orth n bs w) {u : Wd} (hu : SpW n bs u) : dot n u w = false := by
  have l : Lin n fun u => Wn n u ∧ dot n w u = false := ⟨fun _ h => h.1, ⟨Wn.zr n, dot_zr n w⟩, fun u v hu hv => ⟨hu.1.xo hv.1, by rw [dot_xo hu.1 hv.1, hu.2, hv.2]; rfl⟩⟩
  have := (sp_least l (ws := bs) (fun x hx => ⟨hb x hx, by rw [dot_comm]; exact h.2 x hx⟩) hu.1 hu.2).2
  rw [dot_comm]; exact this
theorem orth_same {n : Nat} {us vs : List Wd} (hu : AllW n us) (hv : AllW n vs) (h : ∀ w, SpW n us w ↔ SpW n vs w) (w : Wd) : Orth n us w ↔ Orth n vs w :=
  ⟨fun k => ⟨k.1, fun b hb => orth_span hu k ((h b).mpr ⟨hv b hb, sp_mem hv hb⟩)⟩, fun k => ⟨k.1, fun b hb => orth_span hv k ((h b).mp ⟨hu b hb, sp_mem hu hb⟩)⟩⟩
structure Cols (n : Nat) (rs : Rows) : Prop where
  w : ∀ r ∈ rs, Wn n r.2 ∧ at_ r.2 r.1 = 49
  d : rs.Pairwise fun r s => r.1 ≠ s.1
  c : ∀ r ∈ rs, ∀ s ∈ rs, r.1 ≠ s.1 → at_ r.2 s.1 = 48
theorem RedU.cols {n : Nat} {rs : Rows} (h : RedU n rs) : Cols n rs := ⟨fun r hr => ⟨(h.w r hr).1, (h.w r hr).2.1⟩, h.d, h.c⟩
theorem Cols.tail {n : Nat} {r : Nat × Wd} {rs : Rows} (h : Cols n (r :: rs)) : Cols n rs :=
  ⟨fun s hs => h.w s (List.mem_cons_of_mem _ hs), (List.pairwise_cons.mp h.d).2, fun s hs t ht => h.c s (List.mem_cons_of_mem _ hs) t (List.mem_cons_of_mem _ ht)⟩
theorem Cols.all {n : Nat} {rs : Rows} (h : Cols n rs) : AllW n (bsOf rs) := fun w hw => by
  obtain ⟨r, hr, rfl⟩ := List.mem_map.mp hw
  exact (h.w r hr).1
theorem Cols.fresh {n : Nat} {r : Nat × Wd} {rs : Rows} (h : Cols n (r :: rs)) : ¬ SpW n (bsOf rs) r.2 := fun hs => by
  have hr := h.w r (List.mem_cons_self ..)
  have := sp_at h.tail.all (i := r.1) (fun b hb => by
    obtain ⟨s, hs, rfl⟩ := List.mem_map.mp hb
    exact h.c s (List.mem_cons_of_mem _ hs) r (List.mem_cons_self ..) (Ne.symm ((List.pairwise_cons.mp h.d).1 s hs))) hr.1 hs.2
  rw [hr.2] at this; cases this
theorem cols_enum {n : Nat} : ∀ {rs : Rows}, Cols n rs → EnumL (SpW n (bsOf rs)) (wordsL n (bsOf rs))
  | [], _ => enum_zr n
  | r :: rs, h => (enum_more (sp_lin h.tail.all) (cols_enum h.tail) (h.w r (List.mem_cons_self ..)).1 h.fresh).congr fun w => sp_cons_iff w (h.w r (List.mem_cons_self ..)).1
theorem wordsL_len (n : Nat) : ∀ bs : List Wd, (wordsL n bs).length = 2 ^ bs.length
  | [] => rfl
  | b :: bs => by show (wordsL n bs ++ _).length = _; rw [List.length_append, List.length_map, wordsL_len n bs, List.length_cons, Nat.pow_succ]; omega
/-- what spans the same has as many rows -/
theorem cols_len {n : Nat} {rs ts : Rows} (h1 : Cols n rs) (h2 : Cols n ts) (h : ∀ w, SpW n (bsOf rs) w ↔ SpW n (bsOf ts) w) : rs.length = ts.length := by
  have := (enum_perm (cols_enum h1) ((cols_enum h2).congr fun w => (h w).symm)).length_eq
  rw [wordsL_len, wordsL_len, List.length_map, List.length_map] at this
  rcases Nat.lt_trichotomy rs.length ts.length with h' | h' | h'
  · have := Nat.pow_lt_pow_right (a := 2) (by decide) h'; omega
  · exact h'
  · have := Nat.pow_lt_pow_right (a := 2) (by decide) h'; omega
/-- the columns of the rows can be cleared -/
theorem Cols.clear {n : Nat} : ∀ {rs : Rows}, Cols n rs → ∀ {w : Wd}, Wn n w → ∃ v, SpW n (bsOf rs) v ∧ ∀ r ∈ rs, at_ (xo w v) r.1 = 48
  | [], _, w, hw => ⟨zr n, ⟨Wn.zr n, rfl⟩, fun _ h => by simp at h⟩
  | r :: rs, h, w, hw => by
    obtain ⟨v, hv, hc⟩ := Cols.clear h.tail hw
    have hr := h.w r (List.mem_cons_self ..)
    have hne := (List.pairwise_cons.mp h.d).1
    by_cases e : at_ (xo w v) r.1 = 49
    · refine ⟨xo v r.2, ⟨hv.1.xo hr.1, .inr ?_⟩, fun s hs => ?_⟩
      · rw [xo_back hv.1 hr.1]; exact hv.2
      · rw [← xo_assoc hw hv.1 hr.1, at_xo (hw.xo hv.1) hr.1]
        rcases List.mem_cons.mp hs with rfl | hs
        · rw [e, hr.2]; rfl
        · rw [hc s hs, h.c r (List.mem_cons_self ..) s (List.mem_cons_of_mem _ hs) (hne s hs)]; rfl
    · refine ⟨v, ⟨hv.1, .inl hv.2⟩, fun s hs => ?_⟩
      rcases List.mem_cons.mp hs with rfl | hs
      · exact (at_bit (hw.xo hv.1) _).resolve_right e
      · exact hc s hs
/-- the row of a place that is no lead -/
def duRow (n : Nat) (bs : List Wd) (q : Nat) : Wd := (List.range n).map fun k => if k = q ∨ ∃ r ∈ bs, ldOf r = k ∧ at_ r q = 49 then 49 else 48
def duPos (n : Nat) (bs : List Wd) : List Nat := (List.range n).filter fun q => !(decide (q ∈ bs.map ldOf))
def duRows (n : Nat) (bs : List Wd) : List Wd := (duPos n bs).map (duRow n bs)
theorem duRow_wn (n : Nat) (bs : List Wd) (q : Nat) : Wn n (duRow n bs q) := ⟨by simp [duRow], fun c hc => by
  obtain ⟨k, _, rfl⟩ := List.mem_map.mp hc
  split
  · exact .inr rfl
  · exact .inl rfl⟩
theorem at_duRow {n : Nat} {bs : List Wd} {q k : Nat} (hk : k < n) : at_ (duRow n bs q) k = if k = q ∨ ∃ r ∈ bs, ldOf r = k ∧ at_ r q = 49 then 49 else 48 := by
  unfold at_ duRow
  rw [List.getD_eq_getElem?_getD, List.getElem?_map, List.getElem?_range hk]
  rfl
theorem mem_duPos {n : Nat} {bs : List Wd} {q : Nat} : q ∈ duPos n bs ↔ q < n ∧ ∀ r ∈ bs, ldOf r ≠ q := by
  unfold duPos
  rw [List.mem_filter, List.mem_range]
  simp
theorem du_cols {n : Nat} {bs : List Wd} (h : RedU n (rowsOf bs)) : Cols n ((duPos n bs).map fun q => (q, duRow n bs q)) := by
  refine ⟨fun r hr => ?_, ?_, fun r hr s hs e => ?_⟩
  · obtain ⟨q, hq, rfl⟩ := List.mem_map.mp hr
    refine ⟨duRow_wn n bs q, ?_⟩
    rw [at_duRow (mem_duPos.mp hq).1, if_pos (.inl rfl)]
  · rw [List.pairwise_map]
    exact (List.pairwise_lt_range.filter _).imp fun {a b} hab => by show a ≠ b; omega
  · obtain ⟨q, hq, rfl⟩ := List.mem_map.mp hr
    obtain ⟨k, hk, rfl⟩ := List.mem_map.mp hs
    have e' : q ≠ k := e
    obtain ⟨k1, k2⟩ := mem_duPos.mp hk
    show at_ (duRow n bs q) k = 48
    rw [at_duRow k1, if_neg]
    rintro (z | ⟨r, hr, h1, _⟩)
    · exact e' z.symm
    · exact k2 r hr h1
theorem bs_du (n : Nat) (bs : List Wd) : bsOf ((duPos n bs).map fun q => (q, duRow n bs q)) = duRows n bs := by unfold bsOf duRows; rw [List.map_map]; rfl
theorem du_orth {n : Nat} {bs : List Wd} (h : RedU n (rowsOf bs)) {b : Wd} (hb : b ∈ bs) {q : Nat} (hq : q ∈ duPos n bs) : dot n b (duRow n bs q) = false := by
  obtain ⟨q1, q2⟩ := mem_duPos.mp hq
  have hbw := RedW.all h b hb
  have hl := (RedW.idx h hb).2
  have hp := lead_lt hbw hl
  have hc : ∀ s ∈ bs, ldOf s ≠ ldOf b → at_ b (ldOf s) = 48 := fun s hs e => h.c (ldOf b, b) (List.mem_map.mpr ⟨b, hb, rfl⟩) (ldOf s, s) (List.mem_map.mpr ⟨s, hs, rfl⟩) (Ne.symm e)
  have huniq : ∀ s ∈ bs, ldOf s = ldOf b → s = b := fun s hs e => by
    have m1 : (ldOf s, s) ∈ rowsOf bs := List.mem_map.mpr ⟨s, hs, rfl⟩
    have m2 : (ldOf b, b) ∈ rowsOf bs := List.mem_map.mpr ⟨b, hb, rfl⟩
    exact h.only (r := (ldOf b, b)) m2 (h.mem m1) (by show at_ s (ldOf b) = 49; rw [← e]; exact (RedW.idx h hs).2.1) fun t ht hne => h.c (ldOf s, s) m1 t ht (by show ldOf s ≠ t.1; rw [e]; exact fun z => hne z.symm)
  have key : dot n b (duRow n bs q) = xs n fun i => Bool.xor (decide (i = q) && bt b q) (decide (i = ldOf b) && bt b q) := by
    refine xs_congr fun i hi => ?_
    have hrow : bt (duRow n bs q) i = decide (i = q ∨ ∃ r ∈ bs, ldOf r = i ∧ at_ r q = 49) := by
      unfold bt
      rw [at_duRow hi]
      by_cases z : i = q ∨ ∃ r ∈ bs, ldOf r = i ∧ at_ r q = 49
      · rw [if_pos z, decide_eq_true z]; rfl
      · rw [if_neg z, decide_eq_false z]; rfl
    rw [hrow]
    by_cases e1 : i = q
    · subst e1
      have hne : ¬ i = ldOf b := fun z => q2 b hb z.symm
      simp [hne]
    · by_cases e2 : i = ldOf b
      · subst e2
        have hb1 : bt b (ldOf b) = true := (bt_at hbw).2.mpr hl.1
        rw [hb1, decide_eq_false e1]
        by_cases e3 : at_ b q = 49
        · rw [decide_eq_true (Or.inr ⟨b, hb, rfl, e3⟩)]
          have : bt b q = true := (bt_at hbw).2.mpr e3
          simp [this]
        · have : bt b q = false := (bt_at hbw).1.mpr ((at_bit hbw q).resolve_right e3)
          rw [decide_eq_false]
          · simp [this]
          · rintro (z | ⟨r, hr, h1, h2⟩)
            · exact e1 z
            · rw [huniq r hr h1] at h2; exact e3 h2
      · rw [decide_eq_false e1, decide_eq_false e2]
        by_cases e3 : ∃ r ∈ bs, ldOf r = i ∧ at_ r q = 49
        · obtain ⟨r, hr, h1, h2⟩ := e3
          have : bt b i = false := by
            rw [← h1]; exact (bt_at hbw).1.mpr (hc r hr (by rw [h1]; exact e2))
          simp [this]
        · rw [decide_eq_false]
          · simp
          · rintro (z | z)
            · exact e1 z
            · exact e3 z
  rw [key, xs_xor, xs_one _ q1, xs_one _ hp]
  cases bt b q <;> rfl
/-- the rows span exactly the orthogonal words -/
theorem du_span {n : Nat} {bs : List Wd} (h : RedU n (rowsOf bs)) (w : Wd) : SpW n (duRows n bs) w ↔ Orth n bs w := by
  have hc := du_cols h
  have hall := RedW.all h
  constructor
  · intro hs
    refine sp_least (orth_lin n bs) (ws := duRows n bs) (fun x hx => ?_) hs.1 hs.2
    obtain ⟨q, hq, rfl⟩ := List.mem_map.mp hx
    exact ⟨duRow_wn n bs q, fun b hb => du_orth h hb hq⟩
  · intro ho
    obtain ⟨v, hv, hcl⟩ := hc.clear ho.1
    rw [bs_du] at hv
    have hvo : Orth n bs v := sp_least (orth_lin n bs) (ws := duRows n bs) (fun x hx => by
      obtain ⟨q, hq, rfl⟩ := List.mem_map.mp hx
      exact ⟨duRow_wn n bs q, fun b hb => du_orth h hb hq⟩) hv.1 hv.2
    have hw' := (orth_lin n bs).a _ _ ho hvo
    have hz : xo w v = zr n := by
      refine ext_at hw'.1 (Wn.zr n) fun i hi => ?_
      rw [at_zr]
      by_cases hp : ∃ b ∈ bs, ldOf b = i
      · obtain ⟨b, hb, rfl⟩ := hp
        have hbw := hall b hb
        have hl := (RedW.idx h hb).2
        have hd := hw'.2 b hb
        have key : dot n b (xo w v) = xs n fun i => decide (i = ldOf b) && bt (xo w v) (ldOf b) := by
          refine xs_congr fun i hi => ?_
          by_cases e : i = ldOf b
          · subst e
            rw [(bt_at hbw).2.mpr hl.1, decide_eq_true rfl]
          · rw [decide_eq_false e]
            by_cases hp : ∃ s ∈ bs, ldOf s = i
            · obtain ⟨s, hs, rfl⟩ := hp
              have : bt b (ldOf s) = false := (bt_at hbw).1.mpr (h.c (ldOf b, b) (List.mem_map.mpr ⟨b, hb, rfl⟩) (ldOf s, s) (List.mem_map.mpr ⟨s, hs, rfl⟩) (Ne.symm e))
              simp [this]
            · have hi' : i ∈ duPos n bs := mem_duPos.mpr ⟨hi, fun r hr z => hp ⟨r, hr, z⟩⟩
              have : bt (xo w v) i = false := (bt_at hw'.1).1.mpr (hcl (i, duRow n bs i) (List.mem_map.mpr ⟨i, hi', rfl⟩))
              simp [this]
        rw [key, xs_one _ hi] at hd
        exact (bt_at hw'.1).1.mp hd
      · have hi' : i ∈ duPos n bs := mem_duPos.mpr ⟨hi, fun r hr z => hp ⟨r, hr, z⟩⟩
        exact hcl (i, duRow n bs i) (List.mem_map.mpr ⟨i, hi', rfl⟩)
    rw [xo_eq_zr ho.1 hv.1 hz]
    exact hv
/-- orthogonal to all orthogonal words: a word of the code -/
theorem dual_dual {n : Nat} {bs : List Wd} (h : RedU n (rowsOf bs)) (w : Wd) : Orth n (duRows n bs) w ↔ SpW n bs w := by
  have hall := RedW.all h
  have hdu : AllW n (duRows n bs) := by rw [← bs_du]; exact (du_cols h).all
  have sub : ∀ u, SpW n bs u → Orth n (duRows n bs) u := fun u hu => ⟨hu.1, fun d hd => by
    obtain ⟨q, hq, rfl⟩ := List.mem_map.mp hd
    rw [dot_comm]
    exact orth_span hall ⟨duRow_wn n bs q, fun b hb => du_orth h hb hq⟩ hu⟩
  refine ⟨fun ho => ?_, sub w⟩
  obtain ⟨v, hv, hcl⟩ := h.cols.clear ho.1
  rw [bs_rows] at hv
  have hw' := (orth_lin n (duRows n bs)).a _ _ ho (sub v hv)
  have hz : xo w v = zr n := by
    refine ext_at hw'.1 (Wn.zr n) fun i hi => ?_
    rw [at_zr]
    by_cases hp : ∃ b ∈ bs, ldOf b = i
    · obtain ⟨b, hb, rfl⟩ := hp
      exact hcl (ldOf b, b) (List.mem_map.mpr ⟨b, hb, rfl⟩)
    · have hi' : i ∈ duPos n bs := mem_duPos.mpr ⟨hi, fun r hr z => hp ⟨r, hr, z⟩⟩
      have hd := hw'.2 (duRow n bs i) (List.mem_map.mpr ⟨i, hi', rfl⟩)
      have key : dot n (duRow n bs i) (xo w v) = xs n fun k => decide (k = i) && bt (xo w v) i := by
        refine xs_congr fun k hk => ?_
        by_cases e : k = i
        · subst e
          have : bt (duRow n bs k) k = true := (bt_at (duRow_wn n bs k)).2.mpr (by rw [at_duRow hk, if_pos (.inl rfl)])
          rw [this, decide_eq_true rfl]
        · rw [decide_eq_false e]
          by_cases hpk : ∃ s ∈ bs, ldOf s = k
          · obtain ⟨s, hs, rfl⟩ := hpk
            have : bt (xo w v) (ldOf s) = false := (bt_at hw'.1).1.mpr (hcl (ldOf s, s) (List.mem_map.mpr ⟨s, hs, rfl⟩))
            simp [this]
          · have : bt (duRow n bs i) k = false := (bt_at (duRow_wn n bs i)).1.mpr (by
              rw [at_duRow hk, if_neg]
              rintro (z | ⟨r, hr, h1, _⟩)
              · exact e z
              · exact hpk ⟨r, hr, h1⟩)
            simp [this]
      rw [key, xs_one _ hi] at hd
      exact (bt_at hw'.1).1.mp hd
  rw [xo_eq_zr ho.1 hv.1 hz]
  exact hv
/-- the dual code's basis -/
def dualL (n : Nat) (bs : List Wd) : List Wd := redL (duRows n bs)
theorem du_all {n : Nat} {bs : List Wd} (h : RedU n (rowsOf bs)) : AllW n (duRows n bs) := by rw [← bs_du]; exact (du_cols h).all
theorem dual_ok {n : Nat} {bs : List Wd} (h : RedU n (rowsOf bs)) : RedW n (dualL n bs) ∧ ∀ w, SpW n (dualL n bs) w ↔ Orth n bs w := by
  obtain ⟨h1, h2⟩ := redL_ok (du_all h)
  exact ⟨h1, fun w => (h2 w).trans (du_span h w)⟩
theorem dual_twice {n : Nat} {bs : List Wd} (h : RedW n bs) : dualL n (dualL n bs) = bs := by
  obtain ⟨h1, h2⟩ := dual_ok h.u
  obtain ⟨h3, h4⟩ := dual_ok h1.u
  have := red_uniq h3 h fun w => by
    rw [bs_rows, bs_rows, h4 w, ← dual_dual h.u w]
    exact orth_same (RedW.all h1.u) (du_all h.u) (fun u => (h2 u).trans (du_span h.u u).symm) w
  rw [bs_rows, bs_rows] at this; exact this
theorem filter_split {α : Type} (p : α → Bool) (l : List α) : (l.filter p).length + (l.filter fun x => !p x).length = l.length := by
  induction l with
  | nil => rfl
  | cons x l ih => rw [List.filter_cons, List.filter_cons]; cases p x <;> simp <;> omega
theorem dual_len {n : Nat} {bs : List Wd} (h : RedW n bs) : (dualL n bs).length + bs.length = n := by
  obtain ⟨h1, h2⟩ := dual_ok h.u
  have hc := cols_len h1.u.cols (du_cols h.u) fun w => by rw [bs_rows, bs_du, h2 w, du_span h.u w]
  rw [List.length_map, List.length_map] at hc
  have hl : ((List.range n).filter fun q => decide (q ∈ bs.map ldOf)) = bs.map ldOf := by
    refine pw_lt_uniq (List.pairwise_lt_range.filter _) h.inc fun x => ?_
    rw [List.mem_filter, List.mem_range, decide_eq_true_eq]
    refine ⟨fun z => z.2, fun z => ⟨?_, z⟩⟩
    obtain ⟨b, hb, rfl⟩ := List.mem_map.mp z
    exact lead_lt (RedW.all h.u b hb) (RedW.idx h.u hb).2
  have := filter_split (fun q => decide (q ∈ bs.map ldOf)) (List.range n)
  rw [hl, List.length_map, List.length_range] at this
  have e : (duPos n bs).length = ((List.range n).filter fun x => !(decide (x ∈ bs.map ldOf))).length := rfl
  omega
def allB : Nat → List Wd
  | 0 => [[]]
  | n + 1 => (allB n).flatMap fun w => [w ++ [48], w ++ [49]]
theorem fm2_len (f g : Wd → Wd) : ∀ l : List Wd, (l.flatMap fun w => [f w, g w]).length = 2 * l.length
  | [] => rfl
  | w :: l => by rw [List.flatMap_cons, List.length_append, fm2_len f g l]; simp; omega
theorem allB_len : ∀ n : Nat, (allB n).length = 2 ^ n
  | 0 => rfl
  | n + 1 => by
    show ((allB n).flatMap fun w => [w ++ [48], w ++ [49]]).length = _
    rw [fm2_len, allB_len n, Nat.pow_succ]; omega
theorem allB_mem : ∀ {n : Nat} {w : Wd}, w ∈ allB n ↔ Wn n w
  | 0, w => by
    show w ∈ [[]] ↔ _
    rw [List.mem_singleton]
    exact ⟨fun e => e ▸ ⟨rfl, isW_nil⟩, fun h => List.eq_nil_of_length_eq_zero h.l⟩
  | n + 1, w => by
    show w ∈ (allB n).flatMap _ ↔ _
    rw [List.mem_flatMap]
    constructor
    · rintro ⟨v, hv, hw⟩
      have hv' := allB_mem.mp hv
      have : w = v ++ [48] ∨ w = v ++ [49] := by simpa using hw
      rcases this with rfl | rfl
      · exact ⟨by simp [hv'.l], fun c hc => by rcases List.mem_append.mp hc with h | h; exact hv'.b c h; exact .inl (by simpa using h)⟩
      · exact ⟨by simp [hv'.l], fun c hc => by rcases List.mem_append.mp hc with h | h; exact hv'.b c h; exact .inr (by simpa using h)⟩
    · intro h
      have hne : w ≠ [] := fun e => by have := h.l; rw [e] at this; simp at this
      refine ⟨w.dropLast, allB_mem.mpr ⟨by rw [List.length_dropLast, h.l]; rfl, fun c hc => h.b c (List.dropLast_subset w hc)⟩, ?_⟩
      have e : w.dropLast ++ [w.getLast hne] = w := List.dropLast_concat_getLast hne
      have hb := h.b (w.getLast hne) (List.getLast_mem hne)
      rcases hb with hb | hb
      · rw [hb] at e; simp [e]
      · rw [hb] at e; simp [e]
theorem ltL_snoc : ∀ {a b : Wd} {x y : Nat}, a.length = b.length → ltL a b = true → ltL (a ++ [x]) (b ++ [y]) = true
  | [], [], _, _, _, h => by cases h
  | [], _ :: _, _, _, h, _ => by simp at h
  | _ :: _, [], _, _, h, _ => by simp at h
  | p :: a, q :: b, x, y, hl, h => by
    unfold ltL at h
    show (if p < q then true else if q < p then false else ltL (a ++ [x]) (b ++ [y])) = true
    split at h
    · rename_i e; rw [if_pos e]
    · rename_i e
      split at h
      · cases h
      · rename_i e2; rw [if_neg e, if_neg e2]; exact ltL_snoc (by simpa using hl) h
theorem ltL_last : ∀ (w : Wd), ltL (w ++ [48]) (w ++ [49]) = true
  | [] => rfl
  | x :: w => by
    show (if x < x then true else if x < x then false else ltL (w ++ [48]) (w ++ [49])) = true
    rw [if_neg (Nat.lt_irrefl _), if_neg (Nat.lt_irrefl _)]; exact ltL_last w
theorem allB_up : ∀ n : Nat, (allB n).Pairwise fun a b => ltL a b = true
  | 0 => List.pairwise_singleton _ _
  | n + 1 => by
    show ((allB n).flatMap fun w => [w ++ [48], w ++ [49]]).Pairwise _
    rw [List.pairwise_flatMap]
    refine ⟨fun w _ => by simp [ltL_last], ?_⟩
    refine (allB_up n).imp_of_mem fun {a b} ha hb hab => ?_
    have hl : a.length = b.length := by rw [(allB_mem.mp ha).l, (allB_mem.mp hb).l]
    intro x hx y hy
    have h1 : x = a ++ [48] ∨ x = a ++ [49] := by simpa using hx
    have h2 : y = b ++ [48] ∨ y = b ++ [49] := by simpa using hy
    rcases h1 with rfl | rfl <;> rcases h2 with rfl | rfl <;> exact ltL_snoc hl hab
theorem allB_nodup (n : Nat) : (allB n).Nodup := (allB_up n).imp fun {a b} h e => by rw [e, ltL_tot.irr] at h; cases h
theorem all_enum (n : Nat) : EnumL (Wn n) (allB n) := ⟨allB_nodup n, fun _ => allB_mem⟩
theorem enum_filter {S : Wd → Prop} {L : List Wd} (h : EnumL S L) (p : Wd → Bool) : EnumL (fun w => S w ∧ p w = true) (L.filter p) := ⟨h.nd.filter _, fun w => by rw [List.mem_filter, h.m w]⟩
/-- a list that ascends is its own sorting -/
theorem srt_asc {S : Wd → Prop} {L M : List Wd} (h : EnumL S L) (hM : EnumL S M) (hu : M.Pairwise fun a b => ltL a b = true) : srt ltL L = M := srt_of ltL_tot (hu.imp fun {a b} e => ltL_asym _ _ e) (enum_perm hM h)
theorem srt_self {M : List Wd} (hu : M.Pairwise fun a b => ltL a b = true) : srt ltL M = M := srt_of ltL_tot (hu.imp fun {a b} e => ltL_asym _ _ e) (List.Perm.refl _)
theorem asc_of {S : Wd → Prop} {L : List Wd} (h : EnumL S L) : (srt ltL L).Pairwise fun a b => ltL a b = true := by
  have h1 := srt_up ltL_tot L
  have h2 : (srt ltL L).Nodup := h.srt.nd
  refine (h1.and h2).imp fun {a b} ⟨e1, e2⟩ => ?_
  cases e : ltL a b with
  | true => rfl
  | false => exact absurd (ltL_ext a b e e1) e2
theorem xs_front : ∀ (n : Nat) (f : Nat → Bool), xs (n + 1) f = Bool.xor (f 0) (xs n fun i => f (i + 1))
  | 0, f => by show Bool.xor false (f 0) = Bool.xor (f 0) false; cases f 0 <;> rfl
  | n + 1, f => by
    show Bool.xor (xs (n + 1) f) (f (n + 1)) = Bool.xor (f 0) (Bool.xor (xs n fun i => f (i + 1)) (f (n + 1)))
    rw [xs_front n f]
    cases f 0 <;> cases (xs n fun i => f (i + 1)) <;> cases f (n + 1) <;> rfl
def cnt2 (a b : Wd) : Nat := ((a.zip b).filter fun p => decide (p.1 = 49) && decide (p.2 = 49)).length
theorem dot_cnt : ∀ {n : Nat} {a b : Wd}, Wn n a → Wn n b → dot n a b = decide (cnt2 a b % 2 = 1)
  | 0, a, b, ha, hb => by
    have := List.eq_nil_of_length_eq_zero ha.l
    subst this; rfl
  | n + 1, a, b, ha, hb => by
    rcases ha.cases with ⟨h, _⟩ | ⟨m, x, a', h, rfl, hx, ha'⟩
    · cases h
    rcases hb.cases with ⟨h', _⟩ | ⟨m', y, b', h', rfl, hy, hb'⟩
    · cases h'
    cases h; cases h'
    have ih := dot_cnt ha' hb'
    have e1 : dot (n + 1) (x :: a') (y :: b') = Bool.xor (decide (x = 49) && decide (y = 49)) (dot n a' b') := xs_front n _
    have e2 : cnt2 (x :: a') (y :: b') = (if x = 49 ∧ y = 49 then 1 else 0) + cnt2 a' b' := by
      unfold cnt2
      rw [List.zip_cons_cons, List.filter_cons]
      by_cases h1 : x = 49 <;> by_cases h2 : y = 49 <;> simp [h1, h2] <;> omega
    rw [e1, e2, ih]
    by_cases h1 : x = 49 ∧ y = 49
    · rw [if_pos h1, h1.1, h1.2]
      by_cases h3 : cnt2 a' b' % 2 = 1
      · have h4 : ¬ (1 + cnt2 a' b') % 2 = 1 := by omega
        rw [decide_eq_true h3, decide_eq_false h4]; rfl
      · have h4 : (1 + cnt2 a' b') % 2 = 1 := by omega
        rw [decide_eq_false h3, decide_eq_true h4]; rfl
    · rw [if_neg h1, Nat.zero_add]
      have : (decide (x = 49) && decide (y = 49)) = false := by
        rw [← Bool.decide_and]; exact decide_eq_false h1
      rw [this, Bool.false_xor]
theorem v_zipSelf {α : Type} (f g : α → PV) : ∀ (l : List α), zipL (l.map f) (l.map g) = l.map fun x => .tup [f x, g x]
  | [] => rfl
  | x :: l => by show _ :: zipL (l.map f) (l.map g) = _; rw [v_zipSelf f g l]; rfl
theorem any_nat (k : Nat) (ks : List Nat) : ((ks.map fun i => PV.int (i : Nat)).any fun y => eqv y (.int k)) = decide (k ∈ ks) := by
  induction ks with
  | nil => rfl
  | cons v ws ih =>
    rw [List.map_cons, List.any_cons, ih]
    have e0 : eqv (.int (v : Nat)) (.int (k : Nat)) = decide (v = k) := by
      show ((v : Int) == (k : Int)) = _
      by_cases h1 : v = k
      · simp [h1]
      · have h2 : ¬ (v : Int) = k := by omega
        rw [decide_eq_false h1, beq_eq_false_iff_ne.mpr h2]
    rw [e0]
    by_cases h1 : v = k
    · subst h1; simp
    · rw [decide_eq_false h1, Bool.false_or]
      by_cases h2 : k ∈ ws
      · rw [decide_eq_true h2, decide_eq_true (List.mem_cons_of_mem _ h2)]
      · rw [decide_eq_false h2, decide_eq_false]
        intro h; rcases List.mem_cons.mp h with h | h
        · exact h1 h.symm
        · exact h2 h
theorem dp_nats (n : Nat) (ks : List Nat) : (ks.map fun i => PV.int (i : Nat)).all (dp n) = true := by
  rw [List.all_eq_true]
  intro x hx
  obtain ⟨w, _, rfl⟩ := List.mem_map.mp hx
  cases n <;> rfl
theorem v_inN (k : Nat) (ks : List Nat) : inV (.int k) (.lst (ks.map fun i => PV.int (i : Nat))) = some (decide (k ∈ ks)) := by
  show (if dp 59 (.int k) && (ks.map fun i => PV.int (i : Nat)).all (dp 59) then some ((ks.map fun i => PV.int (i : Nat)).any fun y => eqv y (.int k)) else none) = _
  rw [dp_nats, any_nat]; rfl
theorem v_inN1 (k : Nat) (ks : List Nat) : inV1 (.int k) (.lst (ks.map fun i => PV.int (i : Nat))) = some (.bl (decide (k ∈ ks))) := by unfold inV1; rw [v_inN]; rfl
theorem v_inN0 (k : Nat) (ks : List Nat) : inV0 (.int k) (.lst (ks.map fun i => PV.int (i : Nat))) = some (.bl !(decide (k ∈ ks))) := by unfold inV0; rw [v_inN]; rfl
theorem foldl_fm {α β : Type} (q : α → Bool) (g : α → β) : ∀ (l : List α) (acc : List β), l.foldl (fun a p => if q p then a ++ [g p] else a) acc = acc ++ (l.filter q).map g
  | [], acc => by simp
  | x :: l, acc => by
    rw [List.foldl_cons, foldl_fm q g l, List.filter_cons]
    cases q x <;> simp
end G7

set_option Elab.async false
set_option linter.all false
set_option maxRecDepth 100000
set_option autoImplicit false
namespace G7
def sgn (b : Bool) : Int := if b then -1 else 1
theorem sgn_xor (a b : Bool) : sgn (Bool.xor a b) = sgn a * sgn b := by cases a <;> cases b <;> rfl
def sumF {α : Type} (f : α → Int) : List α → Int
  | [] => 0
  | x :: l => f x + sumF f l
theorem sumF_app {α : Type} (f : α → Int) : ∀ l m : List α, sumF f (l ++ m) = sumF f l + sumF f m
  | [], m => by simp [sumF]
  | x :: l, m => by show f x + sumF f (l ++ m) = f x + sumF f l + sumF f m; rw [sumF_app f l m]; omega
theorem sumF_perm {α : Type} (f : α → Int) {l m : List α} (p : l.Perm m) : sumF f l = sumF f m := by
  induction p with
  | nil => rfl
  | cons x _ ih => show f x + _ = f x + _; rw [ih]
  | swap x y l => show f y + (f x + _) = f x + (f y + _); omega
  | trans _ _ h1 h2 => rw [h1, h2]
theorem sumF_congr {α : Type} {f g : α → Int} : ∀ {l : List α}, (∀ x ∈ l, f x = g x) → sumF f l = sumF g l
  | [], _ => rfl
  | x :: l, h => by show f x + _ = g x + _; rw [h x (List.mem_cons_self ..), sumF_congr fun y hy => h y (List.mem_cons_of_mem _ hy)]
theorem sumF_map {α β : Type} (f : β → Int) (g : α → β) : ∀ l : List α, sumF f (l.map g) = sumF (fun x => f (g x)) l
  | [] => rfl
  | x :: l => by show f (g x) + _ = f (g x) + _; rw [sumF_map f g l]
theorem sumF_add {α : Type} (f g : α → Int) : ∀ l : List α, sumF (fun x => f x + g x) l = sumF f l + sumF g l
  | [] => rfl
  | x :: l => by show f x + g x + _ = f x + _ + (g x + _); rw [sumF_add f g l]; omega
theorem sumF_mul {α : Type} (c : Int) (f : α → Int) : ∀ l : List α, sumF (fun x => c * f x) l = c * sumF f l
  | [] => by simp [sumF]
  | x :: l => by show c * f x + _ = c * (f x + _); rw [sumF_mul c f l, Int.mul_add]
theorem sumF_const {α : Type} (c : Int) : ∀ l : List α, sumF (fun _ => c) l = c * l.length
  | [] => by simp [sumF]
  | x :: l => by show c + _ = _; rw [sumF_const c l, List.length_cons]; push_cast; rw [Int.mul_add]; omega
theorem sumF_swap {α β : Type} (f : α → β → Int) (m : List β) : ∀ l : List α, sumF (fun x => sumF (fun y => f x y) m) l = sumF (fun y => sumF (fun x => f x y) l) m
  | [] => by
    induction m with
    | nil => rfl
    | cons y m ih => show (0 : Int) = 0 + _; rw [← ih]; rfl
  | x :: l => by
    show sumF (fun y => f x y) m + sumF (fun x => sumF (fun y => f x y) m) l = sumF (fun y => f x y + sumF (fun x => f x y) l) m
    rw [sumF_add, sumF_swap f m l]
/-- the sum of the signs over a code: its number of words at an orthogonal word, 0 at any other -/
theorem sign_sum {n : Nat} {bs : List Wd} (h : RedW n bs) {L : List Wd} (hL : EnumL (SpW n bs) L) {v : Wd} (hv : Wn n v) : sumF (fun u => sgn (dot n u v)) L = if (∀ b ∈ bs, dot n b v = false) then (L.length : Int) else 0 := by
  have hall := RedW.all h.u
  split
  · rename_i ho
    rw [sumF_congr (g := fun _ => 1) (fun u hu => by rw [orth_span hall ⟨hv, ho⟩ ((hL.m u).mp hu)]; rfl), sumF_const, Int.one_mul]
  · rename_i ho
    obtain ⟨b, hb, hd⟩ : ∃ b ∈ bs, dot n b v = true := by
      refine Classical.byContradiction fun z => ho fun b hb => ?_
      cases e : dot n b v with
      | false => rfl
      | true => exact absurd ⟨b, hb, e⟩ z
    have hbw := hall b hb
    have hLw : ∀ u ∈ L, Wn n u := fun u hu => ((hL.m u).mp hu).1
    -- adding b only rearranges the words
    have hp : (L.map fun u => xo u b).Perm L := by
      refine enum_perm (S := SpW n bs) ⟨?_, fun w => ?_⟩ hL
      · exact List.pairwise_map.mpr (hL.nd.imp_of_mem fun {x y} hx hy hxy e => hxy (xo_inj (hLw x hx) (hLw y hy) hbw e))
      · constructor
        · intro hw
          obtain ⟨u, hu, rfl⟩ := List.mem_map.mp hw
          exact (sp_lin hall).a _ _ ((hL.m u).mp hu) ⟨hbw, sp_mem hall hb⟩
        · intro hw
          exact List.mem_map.mpr ⟨xo w b, (hL.m _).mpr ((sp_lin hall).a _ _ hw ⟨hbw, sp_mem hall hb⟩), xo_back hw.1 hbw⟩
    have e1 := sumF_perm (fun u => sgn (dot n u v)) hp
    rw [sumF_map] at e1
    have e2 : sumF (fun u => sgn (dot n (xo u b) v)) L = -1 * sumF (fun u => sgn (dot n u v)) L := by
      rw [← sumF_mul]
      refine sumF_congr fun u hu => ?_
      rw [dot_comm, dot_xo (hLw u hu) hbw, sgn_xor, dot_comm n v u, dot_comm n v b, hd]
      show sgn _ * (-1) = -1 * _
      omega
    rw [e2] at e1
    omega
def wt (w : Wd) : Nat := (w.filter (· == 49)).length
theorem wt_cons (x : Nat) (w : Wd) : wt (x :: w) = (if x = 49 then 1 else 0) + wt w := by
  unfold wt
  rw [List.filter_cons]
  by_cases h : x = 49
  · simp [h]; omega
  · simp [h]
/-- coefficients of (1 - x)^b, of (1 + x)^a (1 - x)^b -/
def k0 : Nat → Nat → Int
  | 0, 0 => 1
  | 0, _ + 1 => 0
  | b + 1, 0 => k0 b 0
  | b + 1, j + 1 => k0 b (j + 1) - k0 b j
def kr : Nat → Nat → Nat → Int
  | 0, b, j => k0 b j
  | a + 1, b, 0 => kr a b 0
  | a + 1, b, j + 1 => kr a b (j + 1) + kr a b j
theorem kr_zero (b : Nat) : ∀ a, kr a (b + 1) 0 = kr a b 0
  | 0 => rfl
  | a + 1 => kr_zero b a
theorem kr_one : ∀ (a b j : Nat), kr a (b + 1) (j + 1) = kr a b (j + 1) - kr a b j
  | 0, b, j => rfl
  | a + 1, b, 0 => by
    show kr a (b + 1) 1 + kr a (b + 1) 0 = (kr a b 1 + kr a b 0) - kr a b 0
    have h1 : kr a (b + 1) 1 = kr a b 1 - kr a b 0 := kr_one a b 0
    rw [h1, kr_zero b a]; omega
  | a + 1, b, j + 1 => by
    show kr a (b + 1) (j + 2) + kr a (b + 1) (j + 1) = (kr a b (j + 2) + kr a b (j + 1)) - (kr a b (j + 1) + kr a b j)
    have h1 : kr a (b + 1) (j + 2) = kr a b (j + 2) - kr a b (j + 1) := kr_one a b (j + 1)
    rw [h1, kr_one a b j]; omega
def allF : Nat → List Wd
  | 0 => [[]]
  | n + 1 => ((allF n).map fun w => 48 :: w) ++ (allF n).map fun w => 49 :: w
theorem allF_enum : ∀ n : Nat, EnumL (Wn n) (allF n)
  | 0 => ⟨by simp [allF], fun w => by
      show w ∈ [[]] ↔ _
      rw [List.mem_singleton]
      exact ⟨fun e => e ▸ ⟨rfl, isW_nil⟩, fun h => List.eq_nil_of_length_eq_zero h.l⟩⟩
  | n + 1 => by
    have ih := allF_enum n
    refine ⟨List.nodup_append.mpr ⟨?_, ?_, ?_⟩, fun w => ?_⟩
    · exact List.pairwise_map.mpr (ih.nd.imp fun {a b} h e => h (by simpa using e))
    · exact List.pairwise_map.mpr (ih.nd.imp fun {a b} h e => h (by simpa using e))
    · intro a ha b hb e
      obtain ⟨x, _, rfl⟩ := List.mem_map.mp ha
      obtain ⟨y, _, rfl⟩ := List.mem_map.mp hb
      simp at e
    · show w ∈ _ ++ _ ↔ _
      rw [List.mem_append]
      constructor
      · rintro (h | h)
        · obtain ⟨x, hx, rfl⟩ := List.mem_map.mp h
          exact Wn.cons (.inl rfl) ((ih.m x).mp hx)
        · obtain ⟨x, hx, rfl⟩ := List.mem_map.mp h
          exact Wn.cons (.inr rfl) ((ih.m x).mp hx)
      · intro h
        rcases h.cases with ⟨e, _⟩ | ⟨m, x, a, e, rfl, hx, ha⟩
        · cases e
        · cases e
          rcases hx with rfl | rfl
          · exact .inl (List.mem_map.mpr ⟨a, (ih.m a).mpr ha, rfl⟩)
          · exact .inr (List.mem_map.mpr ⟨a, (ih.m a).mpr ha, rfl⟩)
/-- the sum of the signs at the words of one weight -/
def sgS (n : Nat) (u : Wd) (j : Nat) : Int := sumF (fun v => if wt v = j then sgn (dot n u v) else 0) (allF n)
theorem dot_cons (n x y : Nat) (a b : Wd) : dot (n + 1) (x :: a) (y :: b) = Bool.xor (decide (x = 49) && decide (y = 49)) (dot n a b) := xs_front n _
theorem wt_le {n : Nat} {u : Wd} (h : Wn n u) : wt u ≤ n := by unfold wt; have := List.length_filter_le (· == 49) u; rw [h.l] at this; exact this
theorem sgS_kr : ∀ {n : Nat} {u : Wd} (j : Nat), Wn n u → sgS n u j = kr (n - wt u) (wt u) j
  | 0, u, j, h => by
    have := List.eq_nil_of_length_eq_zero h.l
    subst this
    cases j <;> rfl
  | n + 1, u, j, h => by
    rcases h.cases with ⟨e, _⟩ | ⟨m, x, a, e, rfl, hx, ha⟩
    · cases e
    cases e
    have hle := wt_le ha
    have e1 : sgS (n + 1) (x :: a) j = sgS n a j + (match j with | 0 => 0 | j + 1 => sgn (decide (x = 49)) * sgS n a j) := by
      unfold sgS
      show sumF _ (((allF n).map fun w => 48 :: w) ++ (allF n).map fun w => 49 :: w) = _
      rw [sumF_app, sumF_map, sumF_map]
      congr 1
      · refine sumF_congr fun v _ => ?_
        rw [wt_cons, dot_cons]
        simp
      · cases j with
        | zero =>
          rw [sumF_congr (g := fun _ => 0) (fun v _ => by rw [wt_cons]; simp), sumF_const, Int.zero_mul]
        | succ j =>
          show _ = sgn (decide (x = 49)) * _
          rw [← sumF_mul]
          refine sumF_congr fun v _ => ?_
          rw [wt_cons, dot_cons, sgn_xor]
          by_cases hv : wt v = j
          · have : (if (49 : Nat) = 49 then 1 else 0) + wt v = j + 1 := by rw [hv]; simp; omega
            rw [if_pos this, if_pos hv]; simp
          · have : ¬ (if (49 : Nat) = 49 then 1 else 0) + wt v = j + 1 := by simp; omega
            rw [if_neg this, if_neg hv, Int.mul_zero]
    rw [e1]
    rcases hx with rfl | rfl
    · have hw : wt (48 :: a) = wt a := by rw [wt_cons]; simp
      rw [hw, show n + 1 - wt a = (n - wt a) + 1 by omega]
      cases j with
      | zero => rw [sgS_kr 0 ha]; show _ + 0 = kr (n - wt a) (wt a) 0; omega
      | succ j =>
        show sgS n a (j + 1) + 1 * sgS n a j = kr (n - wt a) (wt a) (j + 1) + kr (n - wt a) (wt a) j
        rw [sgS_kr (j + 1) ha, sgS_kr j ha]
        omega
    · have hw : wt (49 :: a) = wt a + 1 := by rw [wt_cons]; simp; omega
      rw [hw, show n + 1 - (wt a + 1) = n - wt a by omega]
      cases j with
      | zero => rw [sgS_kr 0 ha, kr_zero]; show _ + 0 = _; omega
      | succ j =>
        show sgS n a (j + 1) + (-1) * sgS n a j = _
        rw [sgS_kr (j + 1) ha, sgS_kr j ha, kr_one]
        omega
/-- how many words of a list have a weight -/
def cntW (L : List Wd) (j : Nat) : Nat := (L.filter fun w => decide (wt w = j)).length
theorem cntW_sum (j : Nat) : ∀ L : List Wd, (cntW L j : Int) = sumF (fun w => if wt w = j then 1 else 0) L
  | [] => rfl
  | w :: L => by
    have := cntW_sum j L
    unfold cntW at this ⊢
    rw [List.filter_cons]
    show _ = (if wt w = j then 1 else 0) + sumF _ L
    by_cases h : wt w = j
    · simp [h]; omega
    · simp [h]; exact this
theorem sumF_filter {α : Type} (f : α → Int) (p : α → Prop) [DecidablePred p] : ∀ L : List α, sumF (fun v => if p v then f v else 0) L = sumF f (L.filter fun v => decide (p v))
  | [] => rfl
  | v :: L => by
    rw [List.filter_cons]
    show (if p v then f v else 0) + _ = _
    rw [sumF_filter f p L]
    by_cases h : p v
    · simp [h, sumF]
    · simp [h]
/-- the main identity -/
theorem macw {n : Nat} {bs : List Wd} (h : RedW n bs) {L M : List Wd} (hL : EnumL (SpW n bs) L) (hM : EnumL (Orth n bs) M) (j : Nat) : sumF (fun u => kr (n - wt u) (wt u) j) L = (L.length : Int) * cntW M j := by
  have hLw : ∀ u ∈ L, Wn n u := fun u hu => ((hL.m u).mp hu).1
  rw [sumF_congr (g := fun u => sgS n u j) (fun u hu => (sgS_kr j (hLw u hu)).symm)]
  unfold sgS
  rw [sumF_swap]
  have e1 : sumF (fun v => sumF (fun u => if wt v = j then sgn (dot n u v) else 0) L) (allF n) = sumF (fun v => if (∀ b ∈ bs, dot n b v = false) then (if wt v = j then (L.length : Int) else 0) else 0) (allF n) := by
    refine sumF_congr fun v hv => ?_
    have hvw := ((allF_enum n).m v).mp hv
    by_cases hj : wt v = j
    · simp only [hj, if_true]
      exact sign_sum h hL hvw
    · simp only [hj, if_false]
      rw [sumF_const, Int.zero_mul]
      split <;> rfl
  rw [e1, sumF_filter]
  have hp : ((allF n).filter fun v => decide (∀ b ∈ bs, dot n b v = false)).Perm M := enum_perm (S := Orth n bs) ((enum_filter (allF_enum n) _).congr fun w => and_congr_right fun _ => by rw [decide_eq_true_eq]) hM
  rw [sumF_perm _ hp, cntW_sum, ← sumF_mul]
  refine sumF_congr fun v _ => ?_
  by_cases hj : wt v = j <;> simp [hj]
end G7

set_option Elab.async false
set_option linter.all false
set_option maxRecDepth 100000
namespace G7
open PySem PySem.Spec PyProof.Rows L2
section
variable {prog : Program} {w : World} {A : Around} {E : Value → Shared → Prop} {s : Shared}
/-- all items of a tuple -/
theorem collect_tp {t : Addr} {ys : List Value} {R : List Value → Shared → Prop} (ht : IsTup s.heap t ys.toArray) (hz : ys.length ≤ sizeLine)
    (hR : R ys { s with heap := (s.heap.push (seqObj "list" #[] 0)).update s.heap.objs.size (Obj.mapSeq (· ++ ys.toArray)) }) : wpAny (model prog w) A (collect (.ref t)) R E s := by
  obtain ⟨ob, e1, e2, k, e3⟩ := ht
  have e1' : (s.heap.push (seqObj "list" #[] 0)).get? t = some ob := Heap.get?_push_of_some _ e1
  have e0 : (Value.type "tuple" == Value.type "tuple") = true := by rfl
  unfold collect
  refine wpAny_bind (wpAny_runValue (codeAny_builtin entry_proto_collect' ?_))
  show wpAny _ _ (do again (.builtin "list.__iadd__" ⟨[← newList [], .ref t], []⟩)) _ _ s
  refine wpAny_bind (wpAny_newList (wpAny_pure ⟨Code.quiet_builtin _ (by decide +kernel), codeAny_builtin entry_list_iadd' ?_⟩))
  show wpAny _ _ (Builtin.List.listExtendWith (.ref s.heap.objs.size) (.ref t) (.ref s.heap.objs.size)) _ _ { s with heap := s.heap.push (seqObj "list" #[] 0) }
  unfold Builtin.List.listExtendWith
  refine wpAny_bind (wpAny_typeOf (T := "tuple") ⟨ob, e1', e2⟩ ?_)
  rw [if_pos (show (Builtin.List.listSameRef (.ref s.heap.objs.size) (.ref t) || Value.type "tuple" == Value.type "list" || Value.type "tuple" == Value.type "tuple") = true by rw [e0]; simp)]
  refine wpAny_bind (listItems_at e1' e3 ?_)
  refine wpAny_bind (listItems_at (xs := #[]) (n := 0) (Heap.get?_push_size _ rfl) rfl ?_)
  rw [if_neg (by simp)]
  refine wpAny_bind (listUpdate_at (xs := #[]) (n := 0) (Heap.get?_push_size _ rfl) rfl ?_ (Nat.zero_le _) (by show (#[] ++ ys.toArray).size ≤ sizeLine + 1; simp only [Array.size_append, List.size_toArray, List.length_nil]; omega))
  refine wpAny_pure ?_
  show wpAny (model prog w) A (do
      let o ← load s.heap.objs.size
      match o.data with
      | .seq zs _ => pure zs.toList
      | _ => unsupported "internal:collect") R E { s with heap := (s.heap.push (seqObj "list" #[] 0)).update s.heap.objs.size (Obj.mapSeq (· ++ ys.toArray)) }
  refine wpAny_bind (wpAny_load (get?_update_seq (Heap.get?_push_size _ rfl) _) ?_)
  show wpAny _ _ (pure ((#[] : Array Value) ++ ys.toArray).toList) R E _
  rw [show ((#[] : Array Value) ++ ys.toArray).toList = ys by simp]
  exact wpAny_pure hR
/-- sorted at a tuple -/
theorem sorted_tp {t : Addr} {ys : List Value} {lt : Value → Value → Bool} {R : Value → Shared → Prop} (O : SrtO.Swo lt) (ht : IsTup s.heap t ys.toArray) (hz : ys.length ≤ sizeLine)
    (hS : 2 ≤ ys.length → ∀ (h₁ : Heap) (a : Addr), SrtO.SortableO prog w A.in1.in1 { s with heap := h₁ } a ys lt)
    (hR : ∀ zs : List Value, SrtO.Srtd lt zs → SrtO.Stb lt zs ys → R (.ref (s.heap.objs.size + 1)) { s with heap := sortedAll s.heap ys zs.toArray }) :
    wpAny (model prog w) A (call (.builtin "sorted") [.ref t]) R E s := by
  refine Calls.call_function_entry kind_sorted plain_sorted entry_sorted (args_sorted1 _) ?_
  unfold Builtin.«sorted»
  refine wpAny_bind (m := checkCount "sorted" 1 1 _) (wpAny_pure ?_)
  refine wpAny_bind (collect_tp ht hz ?_)
  refine wpAny_bind (wpAny_newList ?_ hz)
  have n1 : ((s.heap.push (seqObj "list" #[] 0)).update s.heap.objs.size (Obj.mapSeq (· ++ ys.toArray))).objs.size = s.heap.objs.size + 1 := by rw [Heap.size_update, size_push']
  have n2 : (((s.heap.push (seqObj "list" #[] 0)).update s.heap.objs.size (Obj.mapSeq (· ++ ys.toArray))).push (seqObj "list" ys.toArray 0)).get? (s.heap.objs.size + 1) = some (seqObj "list" ys.toArray 0) := by
    rw [← n1]; exact Heap.get?_push_size _ rfl
  show wpAny _ _ _ _ _ { s with heap := ((s.heap.push (seqObj "list" #[] 0)).update s.heap.objs.size (Obj.mapSeq (· ++ ys.toArray))).push (seqObj "list" ys.toArray 0) }
  rw [n1]
  refine wpAny_bind (wpAny_holding (wpAny_call_entry slot_list_sort ⟨_, n2, rfl⟩ entry_list_sort (SrtO.list_sort_ord O n2 hz (fun z => hS z _ _) fun zs h1 h2 => ⟨_, rfl, ?_⟩) (args_list_sort _)))
  exact wpAny_pure ⟨_, rfl, hR zs h1 h2⟩
end
def rSortT (K : PySem.W.Frag) : List V → Hp → VK → Prop := fun xs H Q => ∃ (a : Addr) (js : List Int), xs = [V.ref a] ∧ SqT K H a (js.map V.int) ∧
  ∀ (ks : List Int) (p : Addr), ks.Perm js → ks.Pairwise (· ≤ ·) → H p = none → Q (.ref p) (upd H p (.lst (ks.map V.int)))
theorem cr_sortT {X : Cx} : CallR X (.builtin "sorted") (rSortT X.K) := by
  intro pins s σ H xs us Q I r h
  obtain ⟨a, js, rfl, hs, q⟩ := h
  obtain ⟨ys, rv, ht, hz⟩ := I.tuple hs
  have hi := rv.ints
  rw [Vals.ref1 r]
  refine sorted_tp SrtO.swo_int ht (by rw [← rv.length]; exact hz) (fun h2 h₁ a' => SrtO.ints_sortable hi h2) fun zs h1 h2 => ?_
  obtain ⟨k1, k2, k3⟩ := SrtO.ints_out hi h1 h2
  obtain ⟨ep, he⟩ := PyProof.Rows.sortedAll_at s.heap ys zs.toArray
  have hlen : ((zs.map SrtO.iv).map V.int).length ≤ sizeLine := by
    rw [List.length_map] at hz ⊢
    rw [k2.length_eq]; exact hz
  exact ⟨.ref _, upd H (s.heap.objs.size + 1) (.lst ((zs.map SrtO.iv).map V.int)),
    I.laid (t' := s.toks) (fun _ _ => PyProof.Rows.sortedAll_old) (Nat.le_succ _) ⟨hlen, zs, ep, vals_of_ints k1, he⟩, rfl, q _ _ k2 k3 (I.hok.fresh (Nat.le_succ _))⟩
def sortW : PV → Option PV
  | .tup xs => (intsP xs).map fun js => .lst ((srt ltI js).map .int)
  | v => sortV v
def rSortB (K : PySem.W.Frag) : List V → Hp → VK → Prop := fun xs H Q => rSortA K xs H Q ∨ rSortT K xs H Q
theorem call_sortW {X : Cx} : CallR X (.builtin "sorted") (rSortB X.K) := CallR.or call_sortX cr_sortT
theorem opr_sortW {K : PySem.W.Frag} : OprN K (rSortB K) (on1 sortW) := by
  intro F H xs as v Q le ss e q
  obtain ⟨a, rfl, e0⟩ := on1_some e
  by_cases ht : ∃ ys, a = .tup ys
  · obtain ⟨ys, rfl⟩ := ht
    obtain ⟨u, rfl, sx⟩ := ss.one
    obtain ⟨p, vs, rfl, h1, r1⟩ := sx.tup
    have e1 : (intsP ys).map (fun js => PV.lst ((srt ltI js).map .int)) = some v := e0
    cases hy : intsP ys with
    | none => rw [hy] at e1; cases e1
    | some js =>
      rw [hy] at e1
      cases e1
      rw [intsP_some hy] at r1
      have ev := r1.ints'
      subst ev
      refine .inr ⟨p, js, rfl, seqT_mono le h1, fun ks n hp hs hn => ?_⟩
      have e2 : srt ltI js = ks := srt_of ltI_tot (hs.imp fun {x y} h => decide_eq_false (by omega)) hp
      have q' : Fin1 K F H (PV.lst ((srt ltI js).map .int)) Q := q
      rw [e2] at q'
      exact q'.newL le hn Reps.ofInts
  · have e2 : on1 sortV [a] = some v := by
      cases a with
      | tup ys => exact absurd ⟨ys, rfl⟩ ht
      | _ => exact e0
    exact .inl (opr_sort _ _ _ _ _ _ le ss e2 q)
end G7

set_option Elab.async false
set_option linter.all false
set_option maxRecDepth 100000
set_option autoImplicit false
namespace G7
open PySem PySem.Spec PyProof.Rows L2
def lcO (i : Nat) (tg : PV → M Unit) (c : M Bool) (el : M PV) (own : List Nat) : M PV := fun ρ => match ρ[i]? with
  | some (some (.own (.lst xs))) => (match lcM (ret xs) tg c el own (ρ.set i none) with
    | .ok v ρ' => .ok v (ρ'.set i (some (.own (.lst xs))))
    | _ => .bad)
  | _ => .bad
section
variable {K : PySem.W.Frag} {Ex : Nat → Hp → Prop} {J : List Nat} {F F1 F' H H1 H' : Hp} {σ σ1 σ' : St} {ρ ρ1 : Env}
theorem lc_at {I : It} {pins : List (Addr × HO)} {xs zs : List PV} {ρe : Env} {tg : PV → M Unit} {c : M Bool} {el : M PV} {own : List Nat} {n : Nat} {Q : VK} (hn1 : σ.length = n) (hr1 : RE K F σ H ρ) (hsz : xs.length ≤ LINE) (el1 : lcL tg c el own xs (wipeE ρ own) = .ok zs ρe)
    (wk : Walks K F I pins xs) (pn : ∀ p ∈ pins, H p.1 = some p.2 ∧ ¬ OwnAt σ ρ p.1)
    (fin : ∀ F' H' D vs, Step K F σ H ρ F' σ H' (restE ρ ρe own) → H D = none → F' D = none → H' D = some (.lst vs) → Reps K F' vs zs → ¬ OwnAt σ (restE ρ ρe own) D → Q (.ref D) H') :
    tLc (fun _ H' R => R I H') (gX K (others n own) tg) (tT K Ex0 c) (tX K Ex0 el) own σ H Q := by
  intro D hD
  have stw := hr1.wiped own
  refine ⟨fun i m H2 => m = xs.length - i ∧ i ≤ xs.length ∧ ∃ F2 ρ2 vs ys yr, Step K F (L2.wipe σ own) H (wipeE ρ own) F2 (L2.wipe σ own) H2 ρ2 ∧ wipeE ρ2 own = ρ2 ∧ H2 D = some (.lst vs) ∧ F2 D = none ∧ ¬ OwnAt (L2.wipe σ own) ρ2 D ∧
      Reps K F2 vs ys ∧ ys.length ≤ i ∧ lcL tg c el own (xs.drop i) ρ2 = .ok yr ρe ∧ ys ++ yr = zs, ?_, ?_⟩
  · obtain ⟨s0, nf, no⟩ := (stw.re).fresh hD (.lst [])
    exact ⟨xs.length, by simp, Nat.zero_le _, F, wipeE ρ own, [], [], zs, s0, wipeE_idem _ _, upd_same, nf, no, .nil, Nat.le_refl _, el1, rfl⟩
  · rintro i m H2 ⟨rfl, hi, F2, ρ2, vs, ys, yr, s2, wi2, hD2, nf2, no2, rv, hyl, el2, ez⟩
    have pin2 : ∀ p ∈ pins, H2 p.1 = some p.2 := fun p hp => s2.frm _ _ (pn p hp).1 fun z => (pn p hp).2 (by
      rcases stw.sub _ z with y | y
      · exact y
      · rw [(pn p hp).1] at y; cases y)
    obtain ⟨w1, w2⟩ := wk F2 H2 s2.le s2.re.le pin2
    by_cases hlt : i < xs.length
    · have ex : xs[i]? = some xs[i] := List.getElem?_eq_getElem hlt
      obtain ⟨go, yl⟩ := w1 i _ ex
      rw [List.drop_eq_getElem_cons hlt] at el2
      refine .inr ⟨go, fun H3 => ∃ F3 ρ3 vs ys yr, Step K F (L2.wipe σ own) H (wipeE ρ own) F3 (L2.wipe σ own) H3 ρ3 ∧ wipeE ρ3 own = ρ3 ∧ H3 D = some (.lst vs) ∧ F3 D = none ∧ ¬ OwnAt (L2.wipe σ own) ρ3 D ∧
        Reps K F3 vs ys ∧ ys.length ≤ i + 1 ∧ lcL tg c el own (xs.drop (i + 1)) ρ3 = .ok yr ρe ∧ ys ++ yr = zs, ?_, ?_⟩
      · rintro H3 z
        exact ⟨xs.length - (i + 1), by omega, rfl, hlt, z⟩
      · intro w H3 hy
        obtain ⟨F3, gr, rp⟩ := yl w H3 hy
        have s3 := s2.trans (gr.step s2.re)
        obtain ⟨no3, nf3, hD3⟩ := not_own_of (gr.step s2.re) hD2 no2 nf2
        refine ⟨F3, ρ2, xs[i], s3.re, rp, ?_⟩
        unfold lcL bndN at el2
        rw [wi2] at el2
        cases et : tg xs[i] ρ2 with
        | exc cc r => rw [et] at el2; cases el2
        | bad => rw [et] at el2; cases el2
        | ok u ρ4 =>
        rw [et] at el2
        simp only at el2
        intro F4 σ4 H4 s34 kp
        have s4 := s3.trans s34
        have hl4 : σ4.length = σ.length := by rw [s34.len, L2.wipe_length]
        have hw : L2.wipe σ4 own = L2.wipe σ own := wipe_same hn1 hl4 kp
        refine ⟨hw, F4, ρ4, s34.re, ?_⟩
        obtain ⟨no4, nf4, hD4⟩ := not_own_of s34 hD3 no3 nf3
        unfold bnd at el2
        cases ec : c ρ4 with
        | exc cc r => rw [ec] at el2; cases el2
        | bad => rw [ec] at el2; cases el2
        | ok b ρ5 =>
        rw [ec] at el2
        simp only at el2
        intro b' F5 H5 s45 eb
        cases eb
        have s5 := s4.trans s45
        obtain ⟨no5, nf5, hD5⟩ := not_own_of s45 hD4 no4 nf4
        have fz : ∀ {F6 H6 : Hp} {ρ6 : Env}, Step K F (L2.wipe σ own) H (wipeE ρ own) F6 σ4 H6 ρ6 → Step K F (L2.wipe σ own) H (wipeE ρ own) F6 (L2.wipe σ own) H6 (wipeE ρ6 own) := fun {F6 H6 ρ6} s => by
          have q := s.trans (s.re.wiped own)
          rw [hw] at q
          exact q
        have nw : ∀ {ρ6 : Env}, ¬ OwnAt σ4 ρ6 D → ¬ OwnAt (L2.wipe σ own) (wipeE ρ6 own) D := fun {ρ6} z ⟨j, u, q1, q2⟩ => by
          obtain ⟨nj, q1⟩ := wipeE_get q1
          rw [← hw, wipe_get nj] at q2
          exact z ⟨j, u, q1, q2⟩
        cases b with
        | false =>
          rw [if_neg (by decide)]
          rw [if_neg (by decide)] at el2
          exact ⟨F5, wipeE ρ5 own, vs, ys, yr, fz s5, wipeE_idem _ _, hD5, nf5, nw no5, rv.mono ((gr.f.trans s34.le).trans s45.le), by omega, by rw [lcL_wipe]; exact el2, ez⟩
        | true =>
          rw [if_pos rfl]
          rw [if_pos rfl] at el2
          refine ⟨F5, ρ5, s45.re, ?_⟩
          cases ee : el ρ5 with
          | exc cc r => rw [ee] at el2; cases el2
          | bad => rw [ee] at el2; cases el2
          | ok y ρ6 =>
          rw [ee] at el2
          simp only at el2
          intro wy F6 H6 s56 ry
          have s6 := s5.trans s56
          obtain ⟨no6, nf6, hD6⟩ := not_own_of s56 hD5 no5 nf5
          have rv6 : Reps K F6 vs ys := rv.mono (((gr.f.trans s34.le).trans s45.le).trans s56.le)
          refine ⟨vs, hD6, ?_, ?_⟩
          · rw [line_eq, rv6.len]; omega
          · cases e7 : lcL tg c el own (xs.drop (i + 1)) ρ6 with
            | exc cc r => rw [e7] at el2; cases el2
            | bad => rw [e7] at el2; cases el2
            | ok yt ρ7 =>
            rw [e7] at el2
            cases el2
            refine ⟨F6, wipeE ρ6 own, vs ++ [wy], ys ++ [y], yt, (fz s6).put hD nf6 (nw no6), wipeE_idem _ _, upd_same, nf6, nw no6, rv6.app (.cons ry .nil), ?_, ?_, ?_⟩
            · rw [List.length_append]; simp; omega
            · rw [lcL_wipe]; exact e7
            · rw [List.append_assoc]; exact ez
    · have e : i = xs.length := by omega
      subst e
      rw [List.drop_length] at el2
      refine .inl ⟨w2, ?_⟩
      have el3 : Res.ok [] (wipeE ρ2 own) = Res.ok yr ρe := el2
      rw [wi2] at el3
      injection el3 with e1 e2
      subst e1 e2
      rw [List.append_nil] at ez
      subst ez
      have sr := Step.rest hr1 s2
      have nor : ¬ OwnAt σ (restE ρ ρ2 own) D := fun z => by
        rcases (Step.rest hr1 s2).sub D z with y | y
        · obtain ⟨j, u, q1, q2⟩ := y
          obtain ⟨a, q3, _, q4⟩ := hr1.own j u q1
          rw [q2] at q3; cases q3
          obtain ⟨o, ho⟩ := q4.some
          rw [hD] at ho; cases ho
        · obtain ⟨j, u, q1, q2⟩ := z
          have hl : ρ2.length = ρ.length := by rw [← s2.re.len, L2.wipe_length]; exact hr1.len
          rw [restE_get hl] at q1
          by_cases hm : j ∈ own
          · rw [if_pos hm] at q1
            obtain ⟨a, q3, _, q4⟩ := hr1.own j u q1
            rw [q2] at q3; cases q3
            obtain ⟨o, ho⟩ := q4.some
            rw [hD] at ho; cases ho
          · rw [if_neg hm] at q1
            exact no2 ⟨j, u, q1, by rw [wipe_get hm]; exact q2⟩
      exact fin F2 H2 D vs sr hD nf2 hD2 rv nor
theorem RE.hide (hr : RE K F σ H ρ) (i : Nat) : RE K F σ H (ρ.set i none) := by
  refine ⟨hr.le, fun j u q => ?_, fun j u q => ?_, fun j k u u' a q q' e e' => ?_, by rw [List.length_set]; exact hr.len⟩
  · rcases set_len q with ⟨_, _, z⟩ | ⟨_, z⟩
    · cases z
    · exact hr.val j u z
  · rcases set_len q with ⟨_, _, z⟩ | ⟨_, z⟩
    · cases z
    · exact hr.own j u z
  · rcases set_len q with ⟨_, _, z⟩ | ⟨_, z⟩
    · cases z
    · rcases set_len q' with ⟨_, _, z'⟩ | ⟨_, z'⟩
      · cases z'
      · exact hr.inj j k u u' a z z' e e'
theorem own_hide {i : Nat} {a : Addr} (z : OwnAt σ (ρ.set i none) a) : OwnAt σ ρ a := by
  obtain ⟨j, u, q1, q2⟩ := z
  rcases set_len q1 with ⟨_, _, z⟩ | ⟨_, z⟩
  · cases z
  · exact ⟨j, u, z, q2⟩
theorem Step.unhide {i : Nat} {u : PV} {ρ2 : Env} (hr : RE K F σ H ρ) (hi : ρ[i]? = some (some (.own u))) (s : Step K F σ H (ρ.set i none) F' σ H' ρ2) : Step K F σ H ρ F' σ H' (ρ2.set i (some (.own u))) := by
  obtain ⟨a, hσ, hF, ho⟩ := hr.own i u hi
  obtain ⟨o, hH⟩ := ho.some
  have no : ¬ OwnAt σ (ρ.set i none) a := fun ⟨j, v, q1, q2⟩ => by
    rcases set_len q1 with ⟨_, _, z⟩ | ⟨nj, z⟩
    · cases z
    · exact nj (hr.inj j i v u a z hi q2 hσ)
  obtain ⟨no2, nf2, hH2⟩ := not_own_of s hH no hF
  refine ⟨s.le, fun b p e n => s.frm b p e fun z => n (own_hide z), s.dom, fun b z => ?_, fun b p e => ?_, s.len, ⟨s.re.le, fun j v q => ?_, fun j v q => ?_, fun j k v v' b q q' e e' => ?_, by rw [List.length_set]; exact s.re.len⟩⟩
  · obtain ⟨j, v, q1, q2⟩ := z
    rcases set_len q1 with ⟨rfl, _, z⟩ | ⟨nj, z⟩
    · exact .inl ⟨j, u, hi, q2⟩
    · rcases s.sub b ⟨j, v, z, q2⟩ with y | y
      · exact .inl (own_hide y)
      · exact .inr y
  · rcases s.fz b p e with y | y | y
    · exact .inl y
    · exact .inr (.inl y)
    · exact .inr (.inr (own_hide y))
  · rcases set_len q with ⟨_, _, z⟩ | ⟨_, z⟩
    · cases z
    · exact s.re.val j v z
  · rcases set_len q with ⟨rfl, _, z⟩ | ⟨_, z⟩
    · cases z
      exact ⟨a, hσ, nf2, ho.mono s.le (hH2.trans hH.symm)⟩
    · exact s.re.own j v z
  · rcases set_len q with ⟨rfl, _, z⟩ | ⟨nj, z⟩
    · rcases set_len q' with ⟨rfl, _, z'⟩ | ⟨nk, z'⟩
      · rfl
      · rw [hσ] at e; cases e
        exact absurd ⟨k, v', z', e'⟩ no2
    · rcases set_len q' with ⟨rfl, _, z'⟩ | ⟨nk, z'⟩
      · rw [hσ] at e'; cases e'
        exact absurd ⟨j, v, z, e⟩ no2
      · exact s.re.inj j k v v' b z z' e e'
theorem x_lcO {i : Nat} {tg : PV → M Unit} {c : M Bool} {el : M PV} {own : List Nat} {n : Nat} {Q : VK} (hn : σ.length = n) (h : tX K Ex (lcO i tg c el own) σ H Q) : tLc (iAny K (tVar i)) (gX K (others n own) tg) (tT K Ex0 c) (tX K Ex0 el) own σ H Q := by
  obtain ⟨F, ρ, hr, h⟩ := h
  have key : ∃ xs zs ρe, ρ[i]? = some (some (.own (.lst xs))) ∧ xs.length ≤ LINE ∧ lcL tg c el own xs (wipeE (ρ.set i none) own) = .ok zs ρe ∧ lcO i tg c el own ρ = .ok (.lst zs) ((restE (ρ.set i none) ρe own).set i (some (.own (.lst xs)))) := by
    cases hb : lcO i tg c el own ρ with
    | bad => rw [hb] at h; exact h.elim
    | exc cc r =>
      unfold lcO at hb
      split at hb
      · split at hb <;> cases hb
      · cases hb
    | ok v r =>
      unfold lcO at hb
      split at hb
      · rename_i xs hx
        split at hb
        · rename_i v' ρ' e2
          cases hb
          have e2 : (if xs.length ≤ LINE then (match lcL tg c el own xs (wipeE (ρ.set i none) own) with | .ok ys ρ' => Res.ok (PV.lst ys) (restE (ρ.set i none) ρ' own) | _ => .bad) else .bad) = Res.ok v ρ' := e2
          by_cases hsz : xs.length ≤ LINE
          · rw [if_pos hsz] at e2
            cases e3 : lcL tg c el own xs (wipeE (ρ.set i none) own) with
            | ok zs ρe => rw [e3] at e2; cases e2; exact ⟨xs, zs, ρe, hx, hsz, e3, rfl⟩
            | exc cc r => rw [e3] at e2; cases e2
            | bad => rw [e3] at e2; cases e2
          · rw [if_neg hsz] at e2; cases e2
        · cases hb
      · cases hb
  obtain ⟨xs, zs, ρe, hi, hsz, el1, e⟩ := key
  rw [e] at h
  obtain ⟨a, hσ, hF, ho⟩ := hr.own i _ hi
  obtain ⟨vs, hH, rv⟩ := ho
  have no : ¬ OwnAt σ (ρ.set i none) a := fun ⟨j, v, q1, q2⟩ => by
    rcases set_len q1 with ⟨_, _, z⟩ | ⟨nj, z⟩
    · cases z
    · exact nj (hr.inj j i v _ a z hi q2 hσ)
  refine ⟨.ref a, hσ, .inl ⟨a, vs, rfl, .of hH, ?_⟩⟩
  refine lc_at (I := Itl K a) (pins := [(a, .lst vs)]) hn (hr.hide i) hsz el1 (Walks.listP rv) (fun p hp => ?_) fun F' H' D ws st n0 nf hD rw' nor => ?_
  · rw [List.mem_singleton] at hp
    subst hp
    exact ⟨hH, no⟩
  · have st2 := Step.unhide hr hi st
    have nor2 : ¬ OwnAt σ ((restE (ρ.set i none) ρe own).set i (some (.own (.lst xs)))) D := fun ⟨j, v, q1, q2⟩ => by
      rcases set_len q1 with ⟨rfl, _, z⟩ | ⟨nj, z⟩
      · rw [hσ] at q2; cases q2
        rw [hH] at n0; cases n0
      · exact nor ⟨j, v, z, q2⟩
    exact h _ _ _ (st2.fix n0 nf hD nor2) (.lst upd_same (rw'.mono fun b u e => by rw [upd_ne (ne_of_none e nf)]; exact e))
end
section
variable {X : Cx} {tg iter elt : Expr} {ifs : List Expr} {pos vpos : Pos} {Ex : Nat → Hp → Prop} {scope : Scope} {own : List (Str × Nat)} {tgm : PV → M Unit} {cm : M Bool} {el : M PV} {n i : Nat} {y : Str}
theorem dx_lcO (hi : PE X (.Name y vpos) (tVar i)) (hn : X.N.length = n) (hc : X.calm = true) (hN : X.N.Nodup) (ok : BlkOk X.N X.env.scope scope own)
    (hg : ∀ (s : Shared) (H : Hp) (C : Addr) (cl : List (Str × Addr)) (fp : List Addr), PG (X.blk s H scope (compEnvC scope cl C X.env) fp) tg (gX X.K (others n (own.map (·.2))) tgm)) (ht : ∀ (s : Shared) (H : Hp) (C : Addr) (cl : List (Str × Addr)) (fp : List Addr), PTs (X.blk s H scope (compEnvC scope cl C X.env) fp) ifs (tT X.K Ex0 cm))
    (he : ∀ (s : Shared) (H : Hp) (C : Addr) (cl : List (Str × Addr)) (fp : List Addr), PE (X.blk s H scope (compEnvC scope cl C X.env) fp) elt (tX X.K Ex0 el)) (hs : ∀ x, foldedSetIterable (.Name y vpos) X.env x = pure x := by intro _; rfl) :
    PE X (.ListComp elt [⟨tg, .Name y vpos, ifs, 0⟩] scope pos) (tX X.K Ex (lcO i tgm cm el (own.map (·.2)))) := pe_weakN (pe_lc hc hN (pi_any hi) ok hg ht he hs) fun σ H Q hl h => x_lcO (hl.trans hn) h
end
end G7

set_option Elab.async false
set_option linter.all false
set_option maxRecDepth 100000
set_option autoImplicit false
namespace G7
open PySem PySem.Spec PyProof.Rows L2
def prV (p : Int × List Nat) : PV := .tup [.int p.1, .str p.2]
def ltQ (p q : Int × List Nat) : Bool := decide (p.1 < q.1) || (decide (p.1 = q.1) && ltL p.2 q.2)
def minQ (p : Int × List Nat) (ps : List (Int × List Nat)) : Int × List Nat := ps.foldl (fun a y => if ltQ y a then y else a) p
def prsP : List PV → Option (List (Int × List Nat))
  | [] => some []
  | .tup [.int i, .str l] :: r => (prsP r).map ((i, l) :: ·)
  | _ => none
def minP : PV → Option PV
  | .lst xs => match prsP xs with
    | some (p :: ps) => some (prV (minQ p ps))
    | _ => none
  | _ => none
def dQ (p : Int × List Nat) : PyData := .tuple [.int p.1, .str ⟨p.2.toArray⟩]
theorem dQ_inj {p q : Int × List Nat} (h : dQ p = dQ q) : p = q := by
  unfold dQ at h
  injection h with h
  injection h with h1 h2
  injection h1 with h1
  injection h2 with h2 _
  injection h2 with h2
  injection h2 with h2
  have : p.2 = q.2 := by simpa using h2
  exact Prod.ext h1 this
theorem dQ_lt (p q : Int × List Nat) : PySem.W.dataLt (dQ p) (dQ q) = ltQ p q := by
  unfold dQ ltQ
  rw [PySem.W.dataLt_tuple]
  by_cases h : p.1 = q.1
  · rw [PySem.W.dataLt_all_yes (by rfl) (by show (p.1 == q.1) = true; rw [h]; simp)]
    by_cases h2 : p.2 = q.2
    · rw [PySem.W.dataLt_all_yes (by rfl) (by show ((⟨p.2.toArray⟩ : Str) == ⟨q.2.toArray⟩) = true; rw [h2]; simp)]
      have : ltL p.2 q.2 = false := by rw [h2]; exact ltL_tot.irr _
      rw [this, h]
      simp
      rfl
    · rw [PySem.W.dataLt_all_no (by rfl) (by
        show ((⟨p.2.toArray⟩ : Str) == ⟨q.2.toArray⟩) = false
        rw [beq_eq_false_iff_ne]
        intro e
        injection e with e
        exact h2 (by simpa using e)), PySem.W.dataLt_str, ltL_lt, h]
      simp
  · rw [PySem.W.dataLt_all_no (by rfl) (by show (p.1 == q.1) = false; rw [beq_eq_false_iff_ne]; exact h), PySem.W.dataLt_int]
    simp [h]
theorem dQ_min (p : Int × List Nat) : ∀ ps : List (Int × List Nat), PySem.W.minD (dQ p) (ps.map dQ) = dQ (minQ p ps) := by
  intro ps
  unfold PySem.W.minD minQ
  induction ps generalizing p with
  | nil => rfl
  | cons y ps ih =>
    rw [List.map_cons, List.foldl_cons, List.foldl_cons, dQ_lt]
    cases ltQ y p
    · exact ih p
    · exact ih y
theorem dQ_alike (ps : List (Int × List Nat)) : PySem.W.AlikeAll (ps.map dQ) := by
  refine ⟨fun x hx y hy => ?_, fun x hx => ?_⟩
  · obtain ⟨p, _, rfl⟩ := List.mem_map.mp hx
    obtain ⟨q, _, rfl⟩ := List.mem_map.mp hy
    rfl
  · obtain ⟨p, _, rfl⟩ := List.mem_map.mp hx
    unfold dQ
    intro h; cases h
theorem dQ_depth : ∀ ps : List (Int × List Nat), PyData.depthAll (ps.map dQ) ≤ 1
  | [] => Nat.zero_le _
  | p :: ps => by
    have := dQ_depth ps
    show max (PyData.depth (dQ p)) (PyData.depthAll (ps.map dQ)) ≤ 1
    have h1 : PyData.depth (dQ p) = 1 := rfl
    omega
def rMinQ (K : PySem.W.Frag) : List V → Hp → VK → Prop := fun vs H Q => ∃ (a : Addr) (xs : List V) (p : Int × List Nat) (ps : List (Int × List Nat)), vs = [V.ref a] ∧ SqL K H a xs ∧ DpAll K H xs ((p :: ps).map dQ) ∧ PyData.canLayAll0 ((p :: ps).map dQ) = true ∧
  ∀ (i : Nat) (w : V), xs[i]? = some w → (p :: ps)[i]? = some (minQ p ps) → Q w H
theorem vals_back : ∀ {xs : List V} {us : List Value} {i : Nat} {u : Value}, Vals xs us → us[i]? = some u → ∃ x, xs[i]? = some x ∧ RelV x u
  | _, _, _, _, .nil, h => by simp at h
  | _, _, 0, _, .cons r _, h => by simp at h; subst h; exact ⟨_, rfl, r⟩
  | _, _, i + 1, _, .cons _ t, h => by
    obtain ⟨x, h1, h2⟩ := vals_back t (i := i) (by simpa using h)
    exact ⟨x, by simpa using h1, h2⟩
theorem lay_at : ∀ {ds : List PyData} {d : PyData}, PyData.canLayAll0 ds = true → d ∈ ds → PyData.canLay0 d = true
  | [], _, _, h => by simp at h
  | x :: ds, d, h, hm => by
    have h' : (PyData.canLay0 x && PyData.canLayAll0 ds) = true := h
    rw [Bool.and_eq_true] at h'
    rcases List.mem_cons.mp hm with rfl | hm
    · exact h'.1
    · exact lay_at h'.2 hm
theorem cr_minQ {X : Cx} (hc : X.calm = true) (hu : X.A.units + 3 < cLine) : CallR X (.builtin "min") (rMinQ X.K) := by
  intro pins s σ H vs us Q I r h
  obtain ⟨a, xs, p, ps, rfl, hs, hd, hlay, q⟩ := h
  obtain ⟨its, rv, hl, hz⟩ := I.list hs
  rw [Vals.ref1 r]
  obtain ⟨as, hr⟩ := Dp.readsAll I _ _ _ hd rv
  refine PySem.W.min_list_data (x := dQ p) (xs := ps.map dQ) (I.ok.hd hc) hl.isList (by simpa using hr) (dQ_alike (p :: ps)) (by have := dQ_depth (p :: ps); rw [List.map_cons] at this; omega) fun i v h' tk bs hv rd hk => ?_
  have hv' : its[i]? = some v := by simpa using hv
  obtain ⟨w, hw, rw'⟩ := vals_back rv hv'
  obtain ⟨bs', r1, hi, hm, _⟩ := PySem.W.readsAll_at hr i v hv'
  have r2 := PySem.W.reads_keeps hk r1
  have e1 : ((p :: ps).map dQ).getD i .none = PySem.W.minD (dQ p) (ps.map dQ) := PySem.SeqAt.Reads.unique _ _ v _ _ (lay_at hlay hm) r2 rd
  have hi' : i < (p :: ps).length := by simpa using hi
  have e2 : (p :: ps)[i]? = some (minQ p ps) := by
    rw [dQ_min] at e1
    rw [List.getD_eq_getElem?_getD, List.getElem?_map, List.getElem?_eq_getElem hi'] at e1
    rw [List.getElem?_eq_getElem hi']
    exact congrArg some (dQ_inj e1)
  exact ⟨w, H, I.kept hk, rw', q i w hw e2⟩
theorem prsP_some : ∀ {xs : List PV} {ps : List (Int × List Nat)}, prsP xs = some ps → xs = ps.map prV
  | [], ps, h => by cases h; rfl
  | x :: r, ps, h => by
    unfold prsP at h
    split at h
    · cases h; rename_i hx; cases hx
    · rename_i i l r' hx
      cases hx
      cases e : prsP r with
      | none => rw [e] at h; cases h
      | some qs => rw [e] at h; cases h; rw [prsP_some e]; rfl
    · cases h
theorem prsP_map : ∀ ps : List (Int × List Nat), prsP (ps.map prV) = some ps
  | [] => rfl
  | p :: ps => by show (prsP (ps.map prV)).map _ = _; rw [prsP_map ps]; rfl
section
variable {K : PySem.W.Frag}
theorem opr_minP : OprN K (rMinQ K) (on1 minP) := by
  intro F H xs as v Q le ss e q
  obtain ⟨a, rfl, e0⟩ := on1_some e
  obtain ⟨u, rfl, sx⟩ := ss.one
  unfold minP at e0
  split at e0
  · rename_i ys
    obtain ⟨a, vs, rfl, h1, r1⟩ := sx.lst le
    split at e0
    · rename_i p ps hp
      cases e0
      rw [prsP_some hp] at r1
      have hdat : dats ((p :: ps).map prV) = true := dats_of fun y hy => by
        obtain ⟨z, _, rfl⟩ := List.mem_map.mp hy
        rfl
      obtain ⟨d1, d2⟩ := r1.data le hdat
      have ed : toDs ((p :: ps).map prV) = (p :: ps).map dQ := by
        have : ∀ l : List (Int × List Nat), toDs (l.map prV) = l.map dQ := by
          intro l
          induction l with
          | nil => rfl
          | cons x l ih => show toD (prV x) :: toDs (l.map prV) = _; rw [ih]; rfl
        exact this _
      rw [ed] at d1 d2
      refine ⟨a, vs, p, ps, rfl, .of h1, d1, d2, fun i w hw hm => ?_⟩
      obtain ⟨w', e1, rw'⟩ := r1.get (i := i) (a := prV (minQ p ps)) (by rw [List.getElem?_map, hm]; rfl)
      rw [hw] at e1; cases e1
      exact q.same le rw'
    · cases e0
  · cases e0
end
theorem hu3 {k : Nat} {A : Around} (h : Room k A) : A.units + 3 < cLine := by have := h.un; omega
end G7

set_option Elab.async false
set_option linter.all false
set_option maxRecDepth 100000
set_option autoImplicit false
namespace G7
open PySem PySem.Spec PyProof.Rows L2
def lc2L (tg : PV → M Unit) (c : M Bool) (it1 : M (List PV)) (tg1 : PV → M Unit) (c1 : M Bool) (el : M PV) (own own1 : List Nat) : List PV → M (List PV)
  | [] => fun ρ => .ok [] (wipeE ρ own)
  | x :: xs => fun ρ => bndN (tg x) (bnd c fun b => if b then bnd it1 fun xs1 => bnd (lcL tg1 c1 el own1 xs1) fun ys => bnd (lc2L tg c it1 tg1 c1 el own own1 xs) fun zs => ret (ys ++ zs) else lc2L tg c it1 tg1 c1 el own own1 xs) (wipeE ρ own)
def lc2M (it : M (List PV)) (tg : PV → M Unit) (c : M Bool) (it1 : M (List PV)) (tg1 : PV → M Unit) (c1 : M Bool) (el : M PV) (own own1 : List Nat) : M PV := bnd it fun xs ρ =>
  match lc2L tg c it1 tg1 c1 el own own1 xs (wipeE ρ own) with
  | .ok zs ρ' => if zs.length ≤ LINE then .ok (.lst zs) (restE ρ ρ' own) else .bad
  | _ => .bad
theorem lc2L_wipe (tg : PV → M Unit) (c : M Bool) (it1 : M (List PV)) (tg1 : PV → M Unit) (c1 : M Bool) (el : M PV) (own own1 : List Nat) (ρ : Env) : ∀ xs, lc2L tg c it1 tg1 c1 el own own1 xs (wipeE ρ own) = lc2L tg c it1 tg1 c1 el own own1 xs ρ
  | [] => by show Res.ok [] (wipeE (wipeE ρ own) own) = _; rw [wipeE_idem]; rfl
  | x :: xs => by
    show bndN (tg x) _ (wipeE (wipeE ρ own) own) = _
    rw [wipeE_idem]; rfl
def RI0 (K : PySem.W.Frag) : Hp → Hp → St → Env → It → List PV → Prop := fun F _ _ _ I xs => Walks K F I [] xs
def tI0 (K : PySem.W.Frag) (Ex : Nat → Hp → Prop) (f : M (List PV)) : TI := fun σ H Q => ∃ F ρ, At K Ex (RI0 K) F ρ f σ H Q
section
variable {K : PySem.W.Frag} {Ex : Nat → Hp → Prop} {J : List Nat} {F F1 F' H H1 H' : Hp} {σ σ1 σ' : St} {ρ ρ1 : Env}
theorem i_any0 {f : M PV} {R : It → Hp → Prop} (h : tI0 K Ex (itX f) σ H R) : iAny K (tX K Ex f) σ H R := by
  obtain ⟨F, ρ, h⟩ := h
  refine ⟨F, ρ, (At.bnd (R := RV K) h).mono fun x H1 ⟨F1, ρ1, v, st, r, h1⟩ => ?_⟩
  obtain ⟨xs, e, q⟩ := At.lft h1
  have q' : ∀ I, Walks K F1 I [] xs → R I H1 := fun I w => q I F1 H1 (Step.refl h1.1) w
  have le := h1.1.le
  have r : Rep K F1 x v := r
  unfold iterV at e
  split at e
  · cases e
    cases r with | lst a b => exact .inl ⟨_, _, rfl, .of (le _ _ a), q' _ (Walks.list a b)⟩
  · cases e
    cases r with | tup a b => exact .inr (.inl ⟨_, _, rfl, seqT_mono le a, q' _ (Walks.tuple a b)⟩)
  · cases e
    cases r with | scr a => exact .inl ⟨_, _, rfl, seqL_mono le a, q' _ (Walks.scr a)⟩
  · cases e
    cases r with | str a => exact .inr (.inr (.inl ⟨_, rfl, q' _ (Walks.str a)⟩))
  · cases e
    cases r with | dct a b => exact .inr (.inr (.inr ⟨_, _, _, rfl, le _ _ a, q' _ (Walks.keys a b)⟩))
  · cases e
theorem lc_in {Fb Hb : Hp} {σb : St} {ρb : Env} {I : It} {xs yt ys0 : List PV} {vs0 : List V} {ρe : Env} {tg : PV → M Unit} {c : M Bool} {el : M PV} {own : List Nat} {n : Nat} {D : Addr} {Nx : Hp → Prop} (hn1 : σ.length = n) (sb : Step K Fb σb Hb ρb F σ H ρ) (hDb : Hb D = none) (hD0 : H D = some (.lst vs0)) (nf0 : F D = none) (no0 : ¬ OwnAt σ ρ D) (rv0 : Reps K F vs0 ys0) (hsz : (ys0 ++ yt).length ≤ LINE)
    (el1 : lcL tg c el own xs (wipeE ρ own) = .ok yt ρe) (wk : Walks K F I [] xs)
    (fin : ∀ F' H' vs, Step K Fb σb Hb ρb F' (L2.wipe σ own) H' ρe → Same F F' → H' D = some (.lst vs) → F' D = none → ¬ OwnAt (L2.wipe σ own) ρe D → Reps K F' vs (ys0 ++ yt) → Nx H') :
    ∃ W1 : Nat → Nat → Hp → Prop, (∃ m, W1 0 m H) ∧ ∀ j k H, W1 j k H → (I.stop j H ∧ Nx H) ∨ (I.go j H ∧ ∃ Nx1 : Hp → Prop, (∀ H', Nx1 H' → ∃ k', k' < k ∧ W1 (j + 1) k' H') ∧ ∀ x H', I.yld j H x H' → gX K (others n own) tg x (L2.wipe σ own) H' fun σ3 H5 => L2.wipe σ3 own = L2.wipe σ own ∧ tT K Ex0 c σ3 H5 fun b H6 =>
      if b = true then tX K Ex0 el σ3 H6 fun y H7 => ∃ acc, H7 D = some (.lst acc) ∧ acc.length < sizeLine ∧ Nx1 (upd H7 D (.lst (acc ++ [y]))) else Nx1 H6) := by
  have hLE : LINE = 16777216 := rfl
  refine ⟨fun i m H2 => m = xs.length - i ∧ i ≤ xs.length ∧ ∃ F2 ρ2 vs ys yr, Step K Fb σb Hb ρb F2 (L2.wipe σ own) H2 ρ2 ∧ Same F F2 ∧ wipeE ρ2 own = ρ2 ∧ H2 D = some (.lst vs) ∧ F2 D = none ∧ ¬ OwnAt (L2.wipe σ own) ρ2 D ∧
      Reps K F2 vs ys ∧ lcL tg c el own (xs.drop i) ρ2 = .ok yr ρe ∧ ys ++ yr = ys0 ++ yt, ?_, ?_⟩
  · exact ⟨xs.length, by simp, Nat.zero_le _, F, wipeE ρ own, vs0, ys0, yt, sb.trans (sb.re.wiped own), Same.refl _, wipeE_idem _ _, hD0, nf0, fun ⟨j, u, q1, q2⟩ => by
      obtain ⟨nj, q1⟩ := wipeE_get q1
      rw [wipe_get nj] at q2
      exact no0 ⟨j, u, q1, q2⟩, rv0, el1, rfl⟩
  · rintro i m H2 ⟨rfl, hi, F2, ρ2, vs, ys, yr, s2, sm2, wi2, hD2, nf2, no2, rv, el2, ez⟩
    obtain ⟨w1, w2⟩ := wk F2 H2 sm2 s2.re.le fun p hp => by simp at hp
    by_cases hlt : i < xs.length
    · have ex : xs[i]? = some xs[i] := List.getElem?_eq_getElem hlt
      obtain ⟨go, yl⟩ := w1 i _ ex
      rw [List.drop_eq_getElem_cons hlt] at el2
      refine .inr ⟨go, fun H3 => ∃ F3 ρ3 vs ys yr, Step K Fb σb Hb ρb F3 (L2.wipe σ own) H3 ρ3 ∧ Same F F3 ∧ wipeE ρ3 own = ρ3 ∧ H3 D = some (.lst vs) ∧ F3 D = none ∧ ¬ OwnAt (L2.wipe σ own) ρ3 D ∧
        Reps K F3 vs ys ∧ lcL tg c el own (xs.drop (i + 1)) ρ3 = .ok yr ρe ∧ ys ++ yr = ys0 ++ yt, ?_, ?_⟩
      · rintro H3 z
        exact ⟨xs.length - (i + 1), by omega, rfl, hlt, z⟩
      · intro w H3 hy
        obtain ⟨F3, gr, rp⟩ := yl w H3 hy
        have s3 := s2.trans (gr.step s2.re)
        obtain ⟨no3, nf3, hD3⟩ := not_own_of (gr.step s2.re) hD2 no2 nf2
        refine ⟨F3, ρ2, xs[i], s3.re, rp, ?_⟩
        unfold lcL bndN at el2
        rw [wi2] at el2
        cases et : tg xs[i] ρ2 with
        | exc cc r => rw [et] at el2; cases el2
        | bad => rw [et] at el2; cases el2
        | ok u ρ4 =>
        rw [et] at el2
        simp only at el2
        intro F4 σ4 H4 s34 kp
        have s4 := s3.trans s34
        have hl4 : σ4.length = σ.length := by rw [s34.len, L2.wipe_length]
        have hw : L2.wipe σ4 own = L2.wipe σ own := wipe_same hn1 hl4 kp
        refine ⟨hw, F4, ρ4, s34.re, ?_⟩
        obtain ⟨no4, nf4, hD4⟩ := not_own_of s34 hD3 no3 nf3
        unfold bnd at el2
        cases ec : c ρ4 with
        | exc cc r => rw [ec] at el2; cases el2
        | bad => rw [ec] at el2; cases el2
        | ok b ρ5 =>
        rw [ec] at el2
        simp only at el2
        intro b' F5 H5 s45 eb
        cases eb
        have s5 := s4.trans s45
        obtain ⟨no5, nf5, hD5⟩ := not_own_of s45 hD4 no4 nf4
        have fz : ∀ {F6 H6 : Hp} {ρ6 : Env}, Step K Fb σb Hb ρb F6 σ4 H6 ρ6 → Step K Fb σb Hb ρb F6 (L2.wipe σ own) H6 (wipeE ρ6 own) := fun {F6 H6 ρ6} s => by
          have q := s.trans (s.re.wiped own)
          rw [hw] at q
          exact q
        have nw : ∀ {ρ6 : Env}, ¬ OwnAt σ4 ρ6 D → ¬ OwnAt (L2.wipe σ own) (wipeE ρ6 own) D := fun {ρ6} z ⟨j, u, q1, q2⟩ => by
          obtain ⟨nj, q1⟩ := wipeE_get q1
          rw [← hw, wipe_get nj] at q2
          exact z ⟨j, u, q1, q2⟩
        cases b with
        | false =>
          rw [if_neg (by decide)]
          rw [if_neg (by decide)] at el2
          exact ⟨F5, wipeE ρ5 own, vs, ys, yr, fz s5, sm2.trans ((gr.f.trans s34.le).trans s45.le), wipeE_idem _ _, hD5, nf5, nw no5, rv.mono ((gr.f.trans s34.le).trans s45.le), by rw [lcL_wipe]; exact el2, ez⟩
        | true =>
          rw [if_pos rfl]
          rw [if_pos rfl] at el2
          refine ⟨F5, ρ5, s45.re, ?_⟩
          cases ee : el ρ5 with
          | exc cc r => rw [ee] at el2; cases el2
          | bad => rw [ee] at el2; cases el2
          | ok y ρ6 =>
          rw [ee] at el2
          simp only at el2
          intro wy F6 H6 s56 ry
          have s6 := s5.trans s56
          obtain ⟨no6, nf6, hD6⟩ := not_own_of s56 hD5 no5 nf5
          have rv6 : Reps K F6 vs ys := rv.mono (((gr.f.trans s34.le).trans s45.le).trans s56.le)
          refine ⟨vs, hD6, ?_, ?_⟩
          · rw [line_eq, rv6.len]
            cases e7 : lcL tg c el own (xs.drop (i + 1)) ρ6 with
            | exc cc r => rw [e7] at el2; cases el2
            | bad => rw [e7] at el2; cases el2
            | ok yt' ρ7 =>
              rw [e7] at el2
              cases el2
              have := congrArg List.length ez
              rw [List.length_append, List.length_cons] at this
              omega
          · cases e7 : lcL tg c el own (xs.drop (i + 1)) ρ6 with
            | exc cc r => rw [e7] at el2; cases el2
            | bad => rw [e7] at el2; cases el2
            | ok yt' ρ7 =>
            rw [e7] at el2
            cases el2
            refine ⟨F6, wipeE ρ6 own, vs ++ [wy], ys ++ [y], yt', (fz s6).put hDb nf6 (nw no6), sm2.trans (((gr.f.trans s34.le).trans s45.le).trans s56.le), wipeE_idem _ _, upd_same, nf6, nw no6, rv6.app (.cons ry .nil), ?_, ?_⟩
            · rw [lcL_wipe]; exact e7
            · rw [List.append_assoc]; exact ez
    · have e : i = xs.length := by omega
      subst e
      rw [List.drop_length] at el2
      refine .inl ⟨w2, ?_⟩
      have el3 : Res.ok [] (wipeE ρ2 own) = Res.ok yr ρe := el2
      rw [wi2] at el3
      injection el3 with e1 e2
      subst e1 e2
      rw [List.append_nil] at ez
      rw [ez] at rv
      exact fin F2 H2 vs s2 sm2 hD2 nf2 no2 rv
theorem lc2_run {it it1 : M (List PV)} {tg tg1 : PV → M Unit} {c c1 : M Bool} {el : M PV} {own own1 : List Nat} {n : Nat} {Q : VK} {R : Hp → Hp → St → Env → V → PV → Prop} (hsub : ∀ i ∈ own1, i ∈ own) (hn1 : σ.length = n) (h : At K Ex R F ρ (lc2M it tg c it1 tg1 c1 el own own1) σ H Q)
    (fin : ∀ ys F' H' ρ' D vs, Step K F σ H ρ F' σ H' ρ' → H D = none → F' D = none → H' D = some (.lst vs) → Reps K F' vs ys → ¬ OwnAt σ ρ' D → (∀ w F' H', Step K F σ H ρ F' σ H' ρ' → R F' H' σ ρ' w (.lst ys) → Q w H') → Q (.ref D) H') :
    tLc2 (tI K Ex it) (gX K (others n own) tg) (tT K Ex0 c) (tI0 K Ex0 it1) (gX K (others n own1) tg1) (tT K Ex0 c1) (tX K Ex0 el) own own1 σ H Q := by
  obtain ⟨h0, h⟩ := h
  refine ⟨F, ρ, h0, ?_⟩
  unfold lc2M bnd at h
  cases ei : it ρ with
  | exc cc r => rw [ei] at h; exact h
  | bad => rw [ei] at h; exact h
  | ok xs ρ1 =>
  rw [ei] at h
  intro I F1 H1 st1 ⟨pins, wk, pn⟩ D hD
  simp only at h
  cases el1 : lc2L tg c it1 tg1 c1 el own own1 xs (wipeE ρ1 own) with
  | exc cc r => rw [el1] at h; exact h.elim
  | bad => rw [el1] at h; exact h.elim
  | ok zs ρe =>
  rw [el1] at h
  simp only at h
  by_cases hsz : zs.length ≤ LINE
  case neg => rw [if_neg hsz] at h; exact h.elim
  rw [if_pos hsz] at h
  have hr1 := st1.re
  have stw := hr1.wiped own
  refine ⟨fun i m H2 => m = xs.length - i ∧ i ≤ xs.length ∧ ∃ F2 ρ2 vs ys yr, Step K F1 (L2.wipe σ own) H1 (wipeE ρ1 own) F2 (L2.wipe σ own) H2 ρ2 ∧ wipeE ρ2 own = ρ2 ∧ H2 D = some (.lst vs) ∧ F2 D = none ∧ ¬ OwnAt (L2.wipe σ own) ρ2 D ∧
      Reps K F2 vs ys ∧ lc2L tg c it1 tg1 c1 el own own1 (xs.drop i) ρ2 = .ok yr ρe ∧ ys ++ yr = zs, ?_, ?_⟩
  · obtain ⟨s0, nf, no⟩ := (stw.re).fresh hD (.lst [])
    exact ⟨xs.length, by simp, Nat.zero_le _, F1, wipeE ρ1 own, [], [], zs, s0, wipeE_idem _ _, upd_same, nf, no, .nil, el1, rfl⟩
  · rintro i m H2 ⟨rfl, hi, F2, ρ2, vs, ys, yr, s2, wi2, hD2, nf2, no2, rv, el2, ez⟩
    have pin2 : ∀ p ∈ pins, H2 p.1 = some p.2 := fun p hp => s2.frm _ _ (pn p hp).1 fun z => (pn p hp).2 (by
      rcases stw.sub _ z with y | y
      · exact y
      · rw [(pn p hp).1] at y; cases y)
    obtain ⟨w1, w2⟩ := wk F2 H2 s2.le s2.re.le pin2
    by_cases hlt : i < xs.length
    · have ex : xs[i]? = some xs[i] := List.getElem?_eq_getElem hlt
      obtain ⟨go, yl⟩ := w1 i _ ex
      rw [List.drop_eq_getElem_cons hlt] at el2
      refine .inr ⟨go, fun H3 => ∃ F3 ρ3 vs ys yr, Step K F1 (L2.wipe σ own) H1 (wipeE ρ1 own) F3 (L2.wipe σ own) H3 ρ3 ∧ wipeE ρ3 own = ρ3 ∧ H3 D = some (.lst vs) ∧ F3 D = none ∧ ¬ OwnAt (L2.wipe σ own) ρ3 D ∧
        Reps K F3 vs ys ∧ lc2L tg c it1 tg1 c1 el own own1 (xs.drop (i + 1)) ρ3 = .ok yr ρe ∧ ys ++ yr = zs, ?_, ?_⟩
      · rintro H3 z
        exact ⟨xs.length - (i + 1), by omega, rfl, hlt, z⟩
      · intro w H3 hy
        obtain ⟨F3, gr, rp⟩ := yl w H3 hy
        have s3 := s2.trans (gr.step s2.re)
        obtain ⟨no3, nf3, hD3⟩ := not_own_of (gr.step s2.re) hD2 no2 nf2
        refine ⟨F3, ρ2, xs[i], s3.re, rp, ?_⟩
        unfold lc2L bndN at el2
        rw [wi2] at el2
        cases et : tg xs[i] ρ2 with
        | exc cc r => rw [et] at el2; cases el2
        | bad => rw [et] at el2; cases el2
        | ok u ρ4 =>
        rw [et] at el2
        simp only at el2
        intro F4 σ4 H4 s34 kp
        have s4 := s3.trans s34
        have hl4 : σ4.length = σ.length := by rw [s34.len, L2.wipe_length]
        have hw : L2.wipe σ4 own = L2.wipe σ own := wipe_same hn1 hl4 kp
        refine ⟨hw, F4, ρ4, s34.re, ?_⟩
        obtain ⟨no4, nf4, hD4⟩ := not_own_of s34 hD3 no3 nf3
        unfold bnd at el2
        cases ec : c ρ4 with
        | exc cc r => rw [ec] at el2; cases el2
        | bad => rw [ec] at el2; cases el2
        | ok b ρ5 =>
        rw [ec] at el2
        simp only at el2
        intro b' F5 H5 s45 eb
        cases eb
        have s5 := s4.trans s45
        obtain ⟨no5, nf5, hD5⟩ := not_own_of s45 hD4 no4 nf4
        have fz : ∀ {F6 H6 : Hp} {ρ6 : Env}, Step K F1 (L2.wipe σ own) H1 (wipeE ρ1 own) F6 σ4 H6 ρ6 → Step K F1 (L2.wipe σ own) H1 (wipeE ρ1 own) F6 (L2.wipe σ own) H6 (wipeE ρ6 own) := fun {F6 H6 ρ6} s => by
          have q := s.trans (s.re.wiped own)
          rw [hw] at q
          exact q
        have nw : ∀ {ρ6 : Env}, ¬ OwnAt σ4 ρ6 D → ¬ OwnAt (L2.wipe σ own) (wipeE ρ6 own) D := fun {ρ6} z ⟨j, u, q1, q2⟩ => by
          obtain ⟨nj, q1⟩ := wipeE_get q1
          rw [← hw, wipe_get nj] at q2
          exact z ⟨j, u, q1, q2⟩
        cases b with
        | false =>
          rw [if_neg (by decide)]
          rw [if_neg (by decide)] at el2
          exact ⟨F5, wipeE ρ5 own, vs, ys, yr, fz s5, wipeE_idem _ _, hD5, nf5, nw no5, rv.mono ((gr.f.trans s34.le).trans s45.le), by rw [lc2L_wipe]; exact el2, ez⟩
        | true =>
          rw [if_pos rfl]
          rw [if_pos rfl] at el2
          refine ⟨F5, ρ5, s45.re, ?_⟩
          cases ei1 : it1 ρ5 with
          | exc cc r => rw [ei1] at el2; cases el2
          | bad => rw [ei1] at el2; cases el2
          | ok xs1 ρ6 =>
          rw [ei1] at el2
          simp only at el2
          intro I1 F6 H6 s56 wk1
          have s6 := s5.trans s56
          obtain ⟨no6, nf6, hD6⟩ := not_own_of s56 hD5 no5 nf5
          have rv6 : Reps K F6 vs ys := rv.mono (((gr.f.trans s34.le).trans s45.le).trans s56.le)
          cases e6 : lcL tg1 c1 el own1 xs1 ρ6 with
          | exc cc r => rw [e6] at el2; cases el2
          | bad => rw [e6] at el2; cases el2
          | ok yt ρ7 =>
          rw [e6] at el2
          simp only at el2
          cases e7 : lc2L tg c it1 tg1 c1 el own own1 (xs.drop (i + 1)) ρ7 with
          | exc cc r => rw [e7] at el2; cases el2
          | bad => rw [e7] at el2; cases el2
          | ok zt ρ8 =>
          rw [e7] at el2
          cases el2
          have hl4' : σ4.length = n := hl4.trans hn1
          refine lc_in (yt := yt) hl4' s6 hD hD6 nf6 no6 rv6 (by have := congrArg List.length ez; simp only [List.length_append] at this ⊢; omega) (by rw [lcL_wipe]; exact e6) wk1 fun F7 H7 vs7 s7 sm7 hD7 nf7 no7 rv7 => ?_
          have hww : L2.wipe (L2.wipe σ4 own1) own = L2.wipe σ own := by
            rw [← hw]
            refine List.ext_getElem? fun j => ?_
            by_cases hj : j ∈ own
            · by_cases hjl : j < σ4.length
              · rw [wipe_in (by rw [L2.wipe_length]; exact hjl) hj, wipe_in hjl hj]
              · rw [List.getElem?_eq_none (by rw [L2.wipe_length, L2.wipe_length]; omega), List.getElem?_eq_none (by rw [L2.wipe_length]; omega)]
            · rw [wipe_get hj, wipe_get hj, wipe_get fun z => hj (hsub j z)]
          have s8 := s7.trans (s7.re.wiped own)
          rw [hww] at s8
          have no8 : ¬ OwnAt (L2.wipe σ own) (wipeE ρ7 own) D := fun ⟨j, u, q1, q2⟩ => by
            obtain ⟨nj, q1⟩ := wipeE_get q1
            rw [← hww, wipe_get nj] at q2
            exact no7 ⟨j, u, q1, q2⟩
          exact ⟨F7, wipeE ρ7 own, vs7, ys ++ yt, zt, s8, wipeE_idem _ _, hD7, nf7, no8, rv7, by rw [lc2L_wipe]; exact e7, by rw [List.append_assoc]; exact ez⟩
    · have e : i = xs.length := by omega
      subst e
      rw [List.drop_length] at el2
      refine .inl ⟨w2, ?_⟩
      have el3 : Res.ok [] (wipeE ρ2 own) = Res.ok yr ρe := el2
      rw [wi2] at el3
      injection el3 with e1 e2
      subst e1 e2
      rw [List.append_nil] at ez
      subst ez
      have sr := st1.trans (Step.rest hr1 s2)
      have nor : ¬ OwnAt σ (restE ρ1 ρ2 own) D := fun z => by
        rcases (Step.rest hr1 s2).sub D z with y | y
        · obtain ⟨j, u, q1, q2⟩ := y
          obtain ⟨a, q3, _, q4⟩ := hr1.own j u q1
          rw [q2] at q3; cases q3
          obtain ⟨o, ho⟩ := q4.some
          rw [hD] at ho; cases ho
        · obtain ⟨j, u, q1, q2⟩ := z
          have hl : ρ2.length = ρ1.length := by rw [← s2.re.len, L2.wipe_length]; exact hr1.len
          rw [restE_get hl] at q1
          by_cases hm : j ∈ own
          · rw [if_pos hm] at q1
            obtain ⟨a, q3, _, q4⟩ := hr1.own j u q1
            rw [q2] at q3; cases q3
            obtain ⟨o, ho⟩ := q4.some
            rw [hD] at ho; cases ho
          · rw [if_neg hm] at q1
            exact no2 ⟨j, u, q1, by rw [wipe_get hm]; exact q2⟩
      exact fin ys F2 H2 _ D vs sr (st1.none_of hD) nf2 hD2 rv nor h

theorem x_lc2 {it it1 : M (List PV)} {tg tg1 : PV → M Unit} {c c1 : M Bool} {el : M PV} {own own1 : List Nat} {n : Nat} {Q : VK} (hsub : ∀ i ∈ own1, i ∈ own) (hn : σ.length = n) (h : tX K Ex (lc2M it tg c it1 tg1 c1 el own own1) σ H Q) : tLc2 (tI K Ex it) (gX K (others n own) tg) (tT K Ex0 c) (tI0 K Ex0 it1) (gX K (others n own1) tg1) (tT K Ex0 c1) (tX K Ex0 el) own own1 σ H Q := by
  obtain ⟨F, ρ, h⟩ := h
  refine lc2_run hsub hn h fun ys F' H' ρ' D vs st n0 nf hD rv no q => ?_
  exact q _ _ _ (st.fix n0 nf hD no) (.lst upd_same (rv.mono fun a u e => by rw [upd_ne (ne_of_none e nf)]; exact e))
end
end G7
namespace G7
open PySem PySem.Spec PyProof.Rows L2
section
variable {X : Cx} {Ex : Nat → Hp → Prop} {J : List Nat} {e tg iter tg1 iter1 elt : Expr} {ifs ifs1 : List Expr} {pos : Pos} {scope : Scope} {own : List (Str × Nat)} {vs1 : List Nat} {it it1 : M (List PV)} {tgm tgm1 : PV → M Unit} {cm cm1 : M Bool} {el g1 : M PV} {n : Nat}
theorem di_any0 (he : PE X e (tX X.K Ex g1)) : PI X tg e (tI0 X.K Ex (itX g1)) := pi_weak (pi_any he) fun _ _ _ => i_any0
/-- name = [.. for .. for ..], the name a local -/
theorem ds_setLc2 {i : Nat} {y : Str} {py spos : Pos} (hi' : i ∉ J) (hn : X.N.length = n) (hc : X.calm = true) (hN : X.N.Nodup) (hy : X.N[i]? = some y) (hyl : X.env.scope.names.lookup y = some .local)
    (hsw : swapsWith (.ListComp elt [⟨tg, iter, ifs, 0⟩, ⟨tg1, iter1, ifs1, 0⟩] scope pos) (some (.Name y py)) spos.line X.env = pure true) (hi : PI X tg iter (tI X.K Ex it)) (ok : BlkOk X.N X.env.scope scope own) (hv : ∀ i ∈ vs1, i ∈ own.map (·.2))
    (hg : ∀ (s : Shared) (H : Hp) (C : Addr) (cl : List (Str × Addr)) (fp : List Addr), PG (X.blk s H scope (compEnvC scope cl C X.env) fp) tg (gX X.K (others n (own.map (·.2))) tgm)) (ht : ∀ (s : Shared) (H : Hp) (C : Addr) (cl : List (Str × Addr)) (fp : List Addr), PTs (X.blk s H scope (compEnvC scope cl C X.env) fp) ifs (tT X.K Ex0 cm))
    (hi1 : ∀ (s : Shared) (H : Hp) (C : Addr) (cl : List (Str × Addr)) (fp : List Addr), PI (X.blk s H scope (compEnvC scope cl C X.env) fp) tg1 iter1 (tI0 X.K Ex0 it1))
    (hg1 : ∀ (s : Shared) (H : Hp) (C : Addr) (cl : List (Str × Addr)) (fp : List Addr), PG (X.blk s H scope (compEnvC scope cl C X.env) fp) tg1 (gX X.K (others n vs1) tgm1)) (ht1 : ∀ (s : Shared) (H : Hp) (C : Addr) (cl : List (Str × Addr)) (fp : List Addr), PTs (X.blk s H scope (compEnvC scope cl C X.env) fp) ifs1 (tT X.K Ex0 cm1))
    (he : ∀ (s : Shared) (H : Hp) (C : Addr) (cl : List (Str × Addr)) (fp : List Addr), PE (X.blk s H scope (compEnvC scope cl C X.env) fp) elt (tX X.K Ex0 el)) (hs : ∀ x, foldedSetIterable iter X.env x = pure x := by intro _; rfl) (hs1 : ∀ env x, foldedSetIterable iter1 env x = pure x := by intro _ _; rfl) :
    PS X (.Assign [.Name y py] (.ListComp elt [⟨tg, iter, ifs, 0⟩, ⟨tg1, iter1, ifs1, 0⟩] scope pos) spos) (sX X.K Ex J (setV i (lc2M it tgm cm it1 tgm1 cm1 el (own.map (·.2)) vs1))) :=
  ps_weakN (ps_setLc2 hc hN hy hyl hsw hi ok hv hg ht hi1 hg1 ht1 he hs hs1) fun D σ H hl h => x_lc2 hv (hl.trans hn) (s_setV hi' h)
end
end G7

set_option Elab.async false
set_option linter.all false
set_option maxRecDepth 100000
set_option autoImplicit false
namespace G7
open PySem PySem.Spec PyProof.Rows L2
theorem ltQ_tot : TotO ltQ := by
  refine ⟨fun p q h => ?_, fun p q r h1 h2 => ?_, fun p q h1 h2 => ?_⟩
  · unfold ltQ at h ⊢
    rw [Bool.or_eq_true, decide_eq_true_eq, Bool.and_eq_true, decide_eq_true_eq] at h
    rcases h with h | ⟨h, h'⟩
    · rw [decide_eq_false (by omega), decide_eq_false (by omega)]; rfl
    · rw [decide_eq_false (by omega), ltL_asym _ _ h', Bool.and_false]; rfl
  · have e : ∀ a b : Int × List Nat, ltQ a b = false ↔ ¬ a.1 < b.1 ∧ (a.1 = b.1 → ltL a.2 b.2 = false) := fun a b => by
      unfold ltQ
      rw [Bool.or_eq_false_iff, decide_eq_false_iff_not, Bool.and_eq_false_iff, decide_eq_false_iff_not]
      refine and_congr_right fun _ => ⟨fun h g => h.resolve_left (fun z => z g), fun h => ?_⟩
      by_cases g : a.1 = b.1
      · exact .inr (h g)
      · exact .inl g
    rw [e] at h1 h2 ⊢
    refine ⟨by omega, fun g => ?_⟩
    have g1 : q.1 = p.1 := by omega
    have g2 : r.1 = q.1 := by omega
    exact ltL_tr _ _ _ (h1.2 g1) (h2.2 g2)
  · unfold ltQ at h1 h2
    rw [Bool.or_eq_false_iff, decide_eq_false_iff_not, Bool.and_eq_false_iff, decide_eq_false_iff_not] at h1 h2
    have g : p.1 = q.1 := by omega
    have a1 := h1.2.resolve_left (fun z => z g)
    have a2 := h2.2.resolve_left (fun z => z g.symm)
    exact Prod.ext g (ltL_ext _ _ a1 a2)
section
variable {α : Type} (d : α → PyData) (lt : α → α → Bool)
def rSortG (K : PySem.W.Frag) : List V → Hp → VK → Prop := fun vs H Q => ∃ (a : Addr) (xs : List V) (ps : List α), vs = [V.ref a] ∧ SqL K H a xs ∧ DpAll K H xs (ps.map d) ∧
  ∀ (zs : List (V × α)) (p : Addr), zs.Perm (xs.zip ps) → Up lt (zs.map (·.2)) → H p = none → Q (.ref p) (upd H p (.lst (zs.map (·.1))))
variable {d} {lt}
theorem each_rel : ∀ {xs : List V} {us : List Value} {ps : List α}, Vals xs us → xs.length = ps.length → PySem.W.EachIs (fun (v : Value) (b : V × α) => RelV b.1 v) us (xs.zip ps)
  | _, _, [], .nil, _ => .nil
  | _, _, _ :: _, .nil, h => by cases h
  | _, _, [], .cons _ _, h => by cases h
  | _, _, _ :: _, .cons r t, h => .cons r (each_rel t (by simpa using h))
theorem each_read {h : Heap} : ∀ {us : List Value} {xs : List V} {ps : List α} {as : List Addr}, xs.length = ps.length → ReadsAll h us (ps.map d) as → PySem.W.EachIs (fun v (b : V × α) => ∃ as, Reads h v (d b.2) as) us (xs.zip ps)
  | _, [], [], _, _, .nil => .nil
  | _, x :: xs, p :: ps, _, hl, .cons r t => .cons ⟨_, r⟩ (each_read (by simpa using hl) t)
  | _, [], _ :: _, _, hl, _ => by cases hl
  | _, _ :: _, [], _, hl, _ => by cases hl
theorem vals_each : ∀ {us : List Value} {zs : List (V × α)}, PySem.W.EachIs (fun (v : Value) (b : V × α) => RelV b.1 v) us zs → Vals (zs.map (·.1)) us
  | _, _, .nil => .nil
  | _, _, .cons r t => .cons r (vals_each t)
theorem dp_len {K : PySem.W.Frag} {H : Hp} : ∀ {xs : List V} {ds : List PyData}, DpAll K H xs ds → xs.length = ds.length
  | _, _, .nil => rfl
  | _, _, .cons _ t => congrArg (· + 1) (dp_len t)
theorem cr_sortG {X : Cx} (hlt : ∀ a b, PySem.W.dataLt (d a) (d b) = lt a b) (hal : ∀ a b, PySem.W.alike (d a) (d b) = true) (htup : ∀ a, ∃ x r, d a = .tuple (x :: r)) (hdep : ∀ a, (d a).depth ≤ 1) (hu : X.A.units + 3 < cLine) : CallR X (.builtin "sorted") (rSortG d lt X.K) := by
  intro pins s σ H vs us Q I r h
  obtain ⟨a, xs, ps, rfl, hs, hd, q⟩ := h
  obtain ⟨its, rv, hl, hz⟩ := I.list hs
  rw [Vals.ref1 r]
  obtain ⟨as, hr⟩ := Dp.readsAll I _ _ _ hd rv
  have hxl : xs.length = ps.length := by rw [dp_len hd, List.length_map]
  have hzl : (xs.zip ps).length = xs.length := by rw [List.length_zip]; omega
  refine PySem.W.sorted_data (enc := fun b : V × α => d b.2) hl.isList (each_rel rv hxl) (each_read hxl hr) ?_ ?_ (by rw [hzl]; exact hz) (fun b _ => by have := hdep b.2; show X.A.units + 2 + (d b.2).depth < cLine; omega) fun out hlen each => ?_
  · intro x hx y hy
    obtain ⟨b, _, rfl⟩ := List.mem_map.mp hx
    obtain ⟨c, _, rfl⟩ := List.mem_map.mp hy
    exact hal b.2 c.2
  · refine .inl fun x hx => ?_
    obtain ⟨b, _, rfl⟩ := List.mem_map.mp hx
    exact htup b.2
  · have T := PySem.W.sortLe_total (listOrd itemOrd) false (fun b : V × α => PySem.W.keyToks (d b.2))
    have hperm : ((xs.zip ps).mergeSort (PySem.W.dataLe false fun b : V × α => d b.2)).Perm (xs.zip ps) := List.mergeSort_perm _ _
    have hsort : ((xs.zip ps).mergeSort (PySem.W.dataLe false fun b : V × α => d b.2)).Pairwise fun x y => PySem.W.dataLe false (fun b : V × α => d b.2) x y = true := List.pairwise_mergeSort T.trans (fun a b => by have := T.total a b; simpa using this) _
    generalize (xs.zip ps).mergeSort (PySem.W.dataLe false fun b : V × α => d b.2) = zs at *
    have hv := vals_each each
    obtain ⟨ep, he⟩ := PyProof.Rows.sortedAll_at s.heap its out.toArray
    have hlz : (zs.map (·.1)).length ≤ sizeLine := by rw [List.length_map, hperm.length_eq, hzl]; exact hz
    have hup : Up lt (zs.map (·.2)) := List.pairwise_map.mpr (hsort.imp fun {x y} h => by
      have h' : (!PySem.W.dataLt (d y.2) (d x.2)) = true := h
      rw [hlt] at h'
      simpa using h')
    exact ⟨.ref _, upd H (s.heap.objs.size + 1) (.lst (zs.map (·.1))),
      I.laid (t' := s.toks) (fun _ _ => PyProof.Rows.sortedAll_old) (Nat.le_succ _) ⟨hlz, out, ep, hv, he⟩, rfl, q zs _ hperm hup (I.hok.fresh (Nat.le_succ _))⟩
end
def sortP : PV → Option PV
  | .lst xs => (prsP xs).map fun ps => .lst ((srt ltQ ps).map prV)
  | _ => none
theorem dQ_tup (p : Int × List Nat) : ∃ x r, dQ p = .tuple (x :: r) := ⟨_, _, rfl⟩
theorem cr_sortQ {X : Cx} (hu : X.A.units + 3 < cLine) : CallR X (.builtin "sorted") (rSortG dQ ltQ X.K) := cr_sortG dQ_lt (fun _ _ => rfl) dQ_tup (fun _ => Nat.le_refl 1) hu
theorem reps_zip {K : PySem.W.Frag} {F : Hp} {α : Type} (pv : α → PV) : ∀ {xs : List V} {ps : List α}, Reps K F xs (ps.map pv) → ∀ z ∈ xs.zip ps, Rep K F z.1 (pv z.2)
  | _, [], .nil, _, h => by simp at h
  | _, p :: ps, .cons r t, z, h => by
    rw [List.zip_cons_cons] at h
    rcases List.mem_cons.mp h with rfl | h
    · exact r
    · exact reps_zip pv t z h
theorem reps_of {K : PySem.W.Frag} {F : Hp} {α : Type} (pv : α → PV) : ∀ {zs : List (V × α)}, (∀ z ∈ zs, Rep K F z.1 (pv z.2)) → Reps K F (zs.map (·.1)) ((zs.map (·.2)).map pv)
  | [], _ => .nil
  | z :: zs, h => .cons (h z (List.mem_cons_self ..)) (reps_of pv fun y hy => h y (List.mem_cons_of_mem _ hy))
theorem zip_snd {α β : Type} : ∀ {xs : List α} {ps : List β}, xs.length = ps.length → (xs.zip ps).map (·.2) = ps
  | [], [], _ => rfl
  | [], _ :: _, h => by cases h
  | _ :: _, [], h => by cases h
  | x :: xs, p :: ps, h => by rw [List.zip_cons_cons, List.map_cons, zip_snd (by simpa using h)]
theorem opr_sortP {K : PySem.W.Frag} : OprN K (rSortG dQ ltQ K) (on1 sortP) := by
  intro F H xs as v Q le ss e q
  obtain ⟨a, rfl, e0⟩ := on1_some e
  obtain ⟨u, rfl, sx⟩ := ss.one
  unfold sortP at e0
  split at e0
  · rename_i ys
    obtain ⟨a, vs, rfl, h1, r1⟩ := sx.lst le
    cases hp : prsP ys with
    | none => rw [hp] at e0; cases e0
    | some ps =>
      rw [hp] at e0
      cases e0
      rw [prsP_some hp] at r1
      have hdat : dats (ps.map prV) = true := dats_of fun y hy => by
        obtain ⟨z, _, rfl⟩ := List.mem_map.mp hy
        rfl
      obtain ⟨d1, d2⟩ := r1.data le hdat
      have ed : ∀ l : List (Int × List Nat), toDs (l.map prV) = l.map dQ := by
        intro l
        induction l with
        | nil => rfl
        | cons x l ih => show toD (prV x) :: toDs (l.map prV) = _; rw [ih]; rfl
      rw [ed] at d1
      have hl : vs.length = ps.length := by rw [r1.len, List.length_map]
      refine ⟨a, vs, ps, rfl, .of h1, d1, fun zs p hperm hup hn => ?_⟩
      have hsr : srt ltQ ps = zs.map (·.2) := by
        refine srt_of ltQ_tot hup ?_
        have := hperm.map (·.2)
        rw [zip_snd hl] at this
        exact this
      have hrep : Reps K F (zs.map (·.1)) ((zs.map (·.2)).map prV) := reps_of prV fun z hz => reps_zip prV r1 z (hperm.mem_iff.mp hz)
      have q' : Fin1 K F H (PV.lst ((srt ltQ ps).map prV)) Q := q
      rw [hsr] at q'
      exact q'.newL le hn hrep
  · cases e0
end G7

set_option Elab.async false
set_option linter.all false
set_option maxRecDepth 100000
set_option autoImplicit false
namespace G7
open PySem PySem.Spec PyProof.Rows L2
def isOwn : Option (Option Sl) → Bool
  | some (some (.own _)) => true
  | _ => false
def onlyOwn (ρ : Env) (i : Nat) : Bool := (List.range ρ.length).all fun j => (j == i) || !(isOwn ρ[j]?)
def atomV : PV → Bool
  | .int _ => true
  | .bl _ => true
  | .non => true
  | _ => false
def lend (i : Nat) (f : M PV) : M PV := fun ρ => match ρ[i]? with
  | some (some (.own (.lst v))) => if onlyOwn ρ i then (match f (ρ.set i (some (.val (.lst v)))) with
    | .ok r _ => if atomV r then .ok r ρ else .bad
    | _ => .bad) else .bad
  | _ => .bad
section
variable {K : PySem.W.Frag} {Ex : Nat → Hp → Prop} {F F' H H' : Hp} {σ : St} {ρ : Env}
theorem only_own {i j : Nat} {v : PV} (h : onlyOwn ρ i = true) (hj : ρ[j]? = some (some (.own v))) : j = i := by
  have hl : j < ρ.length := (List.getElem?_eq_some_iff.mp hj).1
  have := List.all_eq_true.mp h j (List.mem_range.mpr hl)
  rw [hj] at this
  simpa [isOwn] using this
theorem rep_atom {w : V} {r : PV} (ha : atomV r = true) (h : Rep K F' w r) : Rep K F w r := by
  cases h <;> first | (simp [atomV] at ha; done) | exact .int _ | exact .bl _ | exact .non
theorem x_lend {i : Nat} {f : M PV} {Q : VK} (h : tX K Ex (lend i f) σ H Q) : tX K Ex f σ H Q := by
  obtain ⟨F, ρ, hr, h⟩ := h
  have key : ∃ v r r', ρ[i]? = some (some (.own (.lst v))) ∧ onlyOwn ρ i = true ∧ f (ρ.set i (some (.val (.lst v)))) = .ok r r' ∧ atomV r = true ∧ lend i f ρ = .ok r ρ := by
    cases hb : lend i f ρ with
    | bad => rw [hb] at h; exact h.elim
    | exc c r =>
      unfold lend at hb
      split at hb
      · split at hb
        · split at hb
          · split at hb <;> cases hb
          · cases hb
        · cases hb
      · cases hb
    | ok r0 r1 =>
      unfold lend at hb
      split at hb
      · rename_i v hv
        split at hb
        · rename_i ho
          split at hb
          · rename_i r r' e
            split at hb
            · rename_i ha
              cases hb
              exact ⟨v, r0, r', hv, ho, e, ha, rfl⟩
            · cases hb
          · cases hb
        · cases hb
      · cases hb
  obtain ⟨v, r, r', hi, ho, e, ha, el⟩ := key
  rw [el] at h
  obtain ⟨a, hσ, hF, hown⟩ := hr.own i _ hi
  obtain ⟨vs, hH, rv⟩ := id hown
  obtain ⟨s1, -⟩ := hr.freeze hi hσ (o := .lst vs) (o' := .lst vs) hH fun F' sm e => .lst e (rv.mono sm)
  have eH : upd H a (.lst vs) = H := by
    funext b
    by_cases hb : b = a
    · subst hb; rw [upd_same]; exact hH.symm
    · rw [upd_ne hb]
  rw [eH] at s1
  refine ⟨upd F a (.lst vs), ρ.set i (some (.val (.lst v))), s1.re, ?_⟩
  rw [e]
  intro w F2 H2 s2 rp
  refine h w F H2 ?_ (rep_atom ha rp)
  have hH2 : H2 a = some (.lst vs) := s2.re.le a _ (s2.le a _ upd_same)
  refine ⟨Same.refl _, fun b p q n => s2.frm b p q fun z => n ?_, s2.dom, fun b z => .inl z, fun b p q => .inl q, rfl, ⟨(s1.le.trans s2.le).trans s2.re.le, hr.val, fun j u q => ?_, hr.inj, hr.len⟩⟩
  · obtain ⟨j, u, q1, q2⟩ := z
    rcases set_len q1 with ⟨_, _, y⟩ | ⟨nj, y⟩
    · cases y
    · exact absurd (only_own ho y) nj
  · have := only_own ho q
    subst this
    rw [hi] at q
    cases q
    exact ⟨a, hσ, hF, hown.mono (Same.refl _) (hH2.trans hH.symm)⟩
end
section
variable {X : Cx} {Ex : Nat → Hp → Prop} {e : Expr} {f : M PV} {i : Nat}
theorem dx_lend (h : PE X e (tX X.K Ex f)) : PE X e (tX X.K Ex (lend i f)) := pe_weak h fun _ _ _ => x_lend
end
end G7

set_option Elab.async false
set_option linter.all false
set_option maxRecDepth 100000
set_option autoImplicit false
namespace G7
open PySem PySem.Spec PyProof.Rows L2
def setAll : Env → List Nat → List Md → Option Env
  | ρ, [], [] => some ρ
  | ρ, i :: is, m :: ms => setAll (ρ.set i (some m.sl)) is ms
  | _, _, _ => none
def parN (is : List Nat) (f : M (List Md)) : M Out := bnd f fun ms ρ => match setAll ρ is ms with
  | some ρ' => .ok .nx ρ'
  | none => .bad
def gNs : List Nat → TGs
  | [] => gNil
  | i :: is => gCons (gName i) (gNs is)
theorem setAll_len : ∀ {is : List Nat} {ms : List Md} {ρ ρ' : Env}, setAll ρ is ms = some ρ' → is.length = ms.length
  | [], [], _, _, _ => rfl
  | [], _ :: _, _, _, h => by simp [setAll] at h
  | _ :: _, [], _, _, h => by simp [setAll] at h
  | _ :: is, _ :: ms, _, _, h => congrArg (· + 1) (setAll_len h)
section
variable {K : PySem.W.Frag} {Ex : Nat → Hp → Prop} {J : List Nat} {F F0 F1 F' H H0 H1 H' : Hp} {σ σ1 σ' : St} {ρ ρ0 ρ1 : Env}
theorem RMs.push {p : Addr} {o : HO} (n : H p = none) : ∀ {ws : List V} {ms : List Md} {Hb : Hp}, RMs K F H σ ρ Hb ws ms → RMs K F (upd H p o) σ ρ Hb ws ms
  | [], [], _, _ => trivial
  | [], .v _ :: _, _, h => h.elim
  | [], .o _ :: _, _, h => h.elim
  | _ :: _, [], _, h => h.elim
  | w :: ws, .v a :: ms, _, ⟨h1, h2⟩ => ⟨h1, h2.push n⟩
  | w :: ws, .o a :: ms, Hb, ⟨q, Hm, h1, h2, h3, h4, h5, h6, h7, h8⟩ => by
    obtain ⟨u, hu⟩ := h3.some
    have e : upd H p o q = H q := upd_ne (ne_of_none hu n)
    exact ⟨q, Hm, h1, h2, h3.mono (Same.refl _) e, h4, h5, h6, h7, h8.push n⟩
theorem par_go : ∀ {is : List Nat} {ms : List Md} {ws : List V} {σ1 : St} {ρ1 ρ' : Env} {Hb : Hp} {Q : St → Hp → Prop}, setAll ρ1 is ms = some ρ' → Step K F0 σ H0 ρ0 F σ1 H ρ1 → Keep J σ σ1 → (∀ b, H0 b ≠ none → Hb b ≠ none) →
    RMs K F H σ1 ρ1 Hb ws ms → (∀ i ∈ is, i ∉ J) → (∀ σ', Step K F0 σ H0 ρ0 F σ' H ρ' → Keep J σ σ' → Q σ' H) → gNs is ws σ1 H Q
  | [], [], [], _, _, _, _, _, e, s, k, _, _, _, h => by
    cases e
    exact ⟨rfl, h _ s k⟩
  | [], [], _ :: _, _, _, _, _, _, _, _, _, _, r, _, _ => absurd r.len (by simp)
  | [], _ :: _, _, _, _, _, _, _, e, _, _, _, _, _, _ => by simp [setAll] at e
  | _ :: _, [], _, _, _, _, _, _, e, _, _, _, _, _, _ => by simp [setAll] at e
  | _ :: _, _ :: _, [], _, _, _, _, _, _, _, _, _, r, _, _ => absurd r.len (by simp)
  | i :: is, m :: ms, w :: ws, σ1, ρ1, ρ', Hb, Q, e, s, k, d, r, hj, h => by
    obtain ⟨s1, Hm, d1, r1⟩ := s.setM (i := i) d r
    exact ⟨w, ws, rfl, par_go e s1 (Keep.trans k (Keep.set (hj i (List.mem_cons_self ..)))) d1 r1 (fun j h => hj j (List.mem_cons_of_mem _ h)) h⟩
theorem s_parN {is : List Nat} {f : M (List Md)} {n : Nat} (hn : is.length = n) (hl : n ≤ 1000) (hj : ∀ i ∈ is, i ∉ J) {D : Ends} (h : sX K Ex J (parN is f) D σ H) : tAsg (tTup (tMs K Ex f)) (gTup K n (gNs is)) D σ H := by
  obtain ⟨F, ρ, hr, h⟩ := h
  refine ⟨F, ρ, hr, ?_⟩
  unfold parN G7.bnd at h
  cases e : f ρ with
  | bad => rw [e] at h; exact h
  | exc c r => rw [e] at h; exact fun F' H' st => h F' σ H' st Keep.refl
  | ok ms r =>
    rw [e] at h
    intro ws F1 H1 st rs
    simp only at h
    cases e2 : setAll r is ms with
    | none => rw [e2] at h; exact h.elim
    | some r' =>
      rw [e2] at h
      have hlen : ws.length = n := by rw [rs.len, ← setAll_len e2, hn]
      refine ⟨by rw [hlen, line_eq]; exact Nat.le_trans hl (by decide), fun p np => ⟨p, ws, rfl, .inl (.inl upd_same), hlen, ?_⟩⟩
      have g : Grow F1 H1 F1 (upd H1 p (.tup ws)) := ⟨Same.refl _, fun b u e => by rw [upd_ne (ne_of_none e np)]; exact e, fun b u e => by rw [upd_ne (ne_of_none (st.re.le b u e) np)]; exact st.re.le b u e, fun _ _ e => .inl e⟩
      exact par_go e2 (st.trans (g.step st.re)) Keep.refl (fun _ z => z) (rs.push np) hj fun σ' s' k' => h F1 σ' _ s' k'
end
theorem nins {J is : List Nat} (h : is.all (fun i => !J.contains i) = true) : ∀ i ∈ is, i ∉ J := fun i hi => nin (by have := List.all_eq_true.mp h i hi; simpa using this)
section
variable {X : Cx} {Ex : Nat → Hp → Prop} {J : List Nat}
theorem gn_nil : PGs X [] (gNs []) := pgs_nil
theorem gn_cons {e : Expr} {es : List Expr} {i : Nat} {is : List Nat} (h1 : PG X e (gName i)) (h2 : PGs X es (gNs is)) (hs : (assignEach (e :: es) X.env).map (·.2) = assign e X.env :: (assignEach es X.env).map (·.2) := by rfl) : PGs X (e :: es) (gNs (i :: is)) := pgs_cons h1 h2 hs
theorem ds_parN {is : List Nat} {n : Nat} {tgs es : List Expr} {fa : M (List Md)} {pos p1 p2 : Pos} {k1 k2 : Nat} (hj : ∀ i ∈ is, i ∉ J) (hl : is.length = n) (hn1 : n ≤ 1000) (hc : X.calm = true) (ht : PGs X tgs (gNs is)) (ha : PA X es (tMs X.K Ex fa))
    (hn : (assignEach tgs X.env).length = n := by rfl) (hst : (assignEach tgs X.env).findIdx? (·.1) = none := by rfl)
    (hs : swapsWithSole [.Tuple tgs k1 p1] (.Tuple es k2 p2) pos.line X.env = pure false := by rfl) (hw : swappedStores [.Tuple tgs k1 p1] (.Tuple es k2 p2) X.env = pure none := by rfl)
    (h1 : (assignEach [.Tuple tgs k1 p1] X.env).map (·.2) = [assign (.Tuple tgs k1 p1) X.env] := by rfl) : PS X (.Assign [.Tuple tgs k1 p1] (.Tuple es k2 p2) pos) (sX X.K Ex J (parN is fa)) :=
  ps_weak (ps_asg (pe_tup ha) (pg_tup hc ht hn hst) hs hw h1) fun _ _ _ => s_parN hl hn1 hj
end
theorem dss_bad {X : Cx} {Ex : Nat → Hp → Prop} {J : List Nat} {body : List Stmt} : PSs X body (sX X.K Ex J fun _ => .bad) := ⟨fun pins s σ H Q I q => by
  obtain ⟨_, _, _, h⟩ := q
  exact h.elim⟩
def ltA (a b : PV) : Bool := PySem.W.dataLt (toD a) (toD b)
def isTupN : PV → Bool
  | .tup (_ :: _) => true
  | _ => false
def isFlat : PV → Bool
  | .int _ => true
  | .str _ => true
  | .bl _ => true
  | .lst _ => true
  | _ => false
def goodL (xs : List PV) : Bool := xs.all (dp 20) && (xs.all isTupN || xs.all isFlat) && xs.all fun a => xs.all fun b => PySem.W.alike (toD a) (toD b)
def sortL (xs : List PV) : List PV := xs.mergeSort fun a b => !ltA b a
def sortA : PV → Option PV
  | .lst xs => if goodL xs then some (.lst (sortL xs)) else none
  | _ => none
theorem goodL_of {xs : List PV} (h : goodL xs = true) : (∀ x ∈ xs, dp 20 x = true) ∧ ((∀ x ∈ xs, isTupN x = true) ∨ ∀ x ∈ xs, isFlat x = true) ∧ ∀ x ∈ xs, ∀ y ∈ xs, PySem.W.alike (toD x) (toD y) = true := by
  unfold goodL at h
  simp only [Bool.and_eq_true, Bool.or_eq_true, List.all_eq_true] at h
  exact ⟨h.1.1, h.1.2, h.2⟩
theorem goodL_mk {xs : List PV} (h1 : ∀ x ∈ xs, dp 20 x = true) (h2 : (∀ x ∈ xs, isTupN x = true) ∨ ∀ x ∈ xs, isFlat x = true) (h3 : ∀ x ∈ xs, ∀ y ∈ xs, PySem.W.alike (toD x) (toD y) = true) : goodL xs = true := by
  unfold goodL
  simp only [Bool.and_eq_true, Bool.or_eq_true, List.all_eq_true]
  exact ⟨⟨h1, h2⟩, h3⟩
def rSortAll (K : PySem.W.Frag) : List V → Hp → VK → Prop := fun vs H Q => ∃ (a : Addr) (xs : List V) (ps : List PV), vs = [V.ref a] ∧ SqL K H a xs ∧ xs.length = ps.length ∧ DpAll K H xs (ps.map toD) ∧ goodL ps = true ∧
  ∀ (zs : List (V × PV)) (p : Addr), zs.Perm (xs.zip ps) → zs.map (·.2) = sortL ps → H p = none → Q (.ref p) (upd H p (.lst (zs.map (·.1))))
theorem isTupN_of {x : PV} (h : isTupN x = true) : ∃ y r, toD x = .tuple (y :: r) := by
  cases x with
  | tup xs =>
    cases xs with
    | nil => cases h
    | cons a b => exact ⟨_, _, rfl⟩
  | _ => cases h
theorem isFlat_of {x : PV} (h : isFlat x = true) : toD x ≠ .none ∧ ∀ xs, toD x ≠ .tuple xs := by
  cases x <;> first | (cases h; done) | exact ⟨(by intro e; cases e), fun xs e => (by cases e)⟩
theorem cr_sortA {X : Cx} (hu : X.A.units + 65 < cLine) : CallR X (.builtin "sorted") (rSortAll X.K) := by
  intro pins s σ H vs us Q I r h
  obtain ⟨a, xs, ps, rfl, hs, hxl, hd, hg, q⟩ := h
  obtain ⟨g1, g2, g3⟩ := goodL_of hg
  obtain ⟨its, rv, hl, hz⟩ := I.list hs
  rw [Vals.ref1 r]
  obtain ⟨as, hr⟩ := Dp.readsAll I _ _ _ hd rv
  have hzl : (xs.zip ps).length = xs.length := by rw [List.length_zip]; omega
  have hmem : ∀ b ∈ xs.zip ps, b.2 ∈ ps := fun b hb => (List.of_mem_zip (a := b.1) (b := b.2) hb).2
  refine PySem.W.sorted_data (enc := fun b : V × PV => toD b.2) hl.isList (each_rel rv hxl) (each_read hxl hr) ?_ ?_ (by rw [hzl]; exact hz) (fun b hb => by have := dp_depth (g1 b.2 (hmem b hb)); show X.A.units + 2 + (toD b.2).depth < cLine; omega) fun out hlen each => ?_
  · intro x hx y hy
    obtain ⟨b, hb, rfl⟩ := List.mem_map.mp hx
    obtain ⟨c, hc, rfl⟩ := List.mem_map.mp hy
    exact g3 _ (hmem b hb) _ (hmem c hc)
  · rcases g2 with g2 | g2
    · refine .inl fun x hx => ?_
      obtain ⟨b, hb, rfl⟩ := List.mem_map.mp hx
      exact isTupN_of (g2 _ (hmem b hb))
    · refine .inr fun x hx => ?_
      obtain ⟨b, hb, rfl⟩ := List.mem_map.mp hx
      exact isFlat_of (g2 _ (hmem b hb))
  · have hperm : ((xs.zip ps).mergeSort (PySem.W.dataLe false fun b : V × PV => toD b.2)).Perm (xs.zip ps) := List.mergeSort_perm _ _
    have hmap : ((xs.zip ps).mergeSort (PySem.W.dataLe false fun b : V × PV => toD b.2)).map (·.2) = sortL ps := by
      have e : ((xs.zip ps).mergeSort (PySem.W.dataLe false fun b : V × PV => toD b.2)).map (·.2) = sortL ((xs.zip ps).map (·.2)) := List.map_mergeSort (f := fun z : V × PV => z.2) fun a _ b _ => rfl
      rw [e, zip_snd hxl]
    generalize (xs.zip ps).mergeSort (PySem.W.dataLe false fun b : V × PV => toD b.2) = zs at *
    have hv := vals_each each
    obtain ⟨ep, he⟩ := PyProof.Rows.sortedAll_at s.heap its out.toArray
    have hlz : (zs.map (·.1)).length ≤ sizeLine := by rw [List.length_map, hperm.length_eq, hzl]; exact hz
    exact ⟨.ref _, upd H (s.heap.objs.size + 1) (.lst (zs.map (·.1))),
      I.laid (t' := s.toks) (fun _ _ => PyProof.Rows.sortedAll_old) (Nat.le_succ _) ⟨hlz, out, ep, hv, he⟩, rfl, q zs _ hperm hmap (I.hok.fresh (Nat.le_succ _))⟩
theorem toDs_map : ∀ xs : List PV, toDs xs = xs.map toD
  | [] => rfl
  | x :: xs => by show toD x :: toDs xs = _; rw [toDs_map xs]; rfl
theorem opr_sortA {K : PySem.W.Frag} : OprN K (rSortAll K) (on1 sortA) := by
  intro F H xs as v Q le ss e q
  obtain ⟨a, rfl, e0⟩ := on1_some e
  obtain ⟨u, rfl, sx⟩ := ss.one
  unfold sortA at e0
  split at e0
  · rename_i ys
    split at e0
    · rename_i hg
      cases e0
      obtain ⟨a, vs, rfl, h1, r1⟩ := sx.lst le
      have hdat : dats ys = true := dats_of fun y hy => dp_dat ((goodL_of hg).1 y hy)
      obtain ⟨d1, d2⟩ := r1.data le hdat
      rw [toDs_map] at d1
      refine ⟨a, vs, ys, rfl, .of h1, r1.len, d1, hg, fun zs p hperm hmap hn => ?_⟩
      have r1' : Reps K F vs (ys.map id) := by rw [List.map_id]; exact r1
      have hrep : Reps K F (zs.map (·.1)) ((zs.map (·.2)).map id) := reps_of id fun z hz => reps_zip id r1' z (hperm.mem_iff.mp hz)
      rw [List.map_id, hmap] at hrep
      have q' : Fin1 K F H (PV.lst (sortL ys)) Q := q
      exact q'.newL le hn hrep
    · cases e0
  · cases e0
/-- by a total order on what the values stand for -/
theorem sortA_map {α : Type} {pv : α → PV} {lt : α → α → Bool} (O : TotO lt) (ps : List α) (hg : goodL (ps.map pv) = true) (hlt : ∀ a ∈ ps, ∀ b ∈ ps, ltA (pv a) (pv b) = lt a b) : sortA (.lst (ps.map pv)) = some (.lst ((srt lt ps).map pv)) := by
  show (if goodL (ps.map pv) then some (PV.lst (sortL (ps.map pv))) else none) = _
  rw [if_pos hg]
  congr 2
  have h1 : (ps.mergeSort fun a b => !lt b a).map pv = sortL (ps.map pv) := List.map_mergeSort fun a ha b hb => by rw [hlt b hb a ha]
  rw [← h1]
  congr 1
  have hp : (ps.mergeSort fun a b => !lt b a).Perm ps := List.mergeSort_perm _ _
  have hs : (ps.mergeSort fun a b => !lt b a).Pairwise fun a b => (!lt b a) = true := List.pairwise_mergeSort (fun a b c h1 h2 => by
      have h1' : lt b a = false := by simpa using h1
      have h2' : lt c b = false := by simpa using h2
      simpa using O.tr _ _ _ h1' h2') (fun a b => by
      cases h : lt b a with
      | false => simp
      | true => simp [O.asym _ _ h]) _
  exact (srt_of O (hs.imp fun {a b} h => by simpa using h) hp).symm
end G7

set_option Elab.async false
set_option linter.all false
set_option maxRecDepth 100000
set_option autoImplicit false
namespace G7
open PySem PySem.Spec PyProof.Rows L2
def kVal : L2.Key → Tok → Value
  | .inl i, t => .int i t
  | .inr x, t => .str x t
def kOf : Value → L2.Key
  | .int i _ => .inl i
  | .str x _ => .inr x
  | _ => .inl 0
theorem kOf_kVal (k : L2.Key) (t : Tok) : kOf (kVal k t) = k := by cases k <;> rfl
theorem kVal_is (P : Program) (w : World) (k : L2.Key) (t : Tok) : (mixKind P w).is k (kVal k t) = true := by
  cases k with
  | inl i => exact mixKind_int P w i t
  | inr x => exact mixKind_str P w x t
theorem kVal_scan (k : L2.Key) (t : Tok) : (kVal k t).scannable = true := by cases k <;> rfl
abbrev ekey (e : Int × Value) : L2.Key := kOf e.2
def GoodK (P : Program) (w : World) (e : Int × Value) : Prop := ∃ k t, e.2 = kVal k t ∧ e.1 = (mixKind P w).hash k
theorem goodK_is {P : Program} {w : World} {e : Int × Value} (g : GoodK P w e) (k : L2.Key) : (mixKind P w).is k e.2 = true ↔ ekey e = k := by
  obtain ⟨j, t, h1, _⟩ := g
  unfold ekey
  rw [h1, kOf_kVal]
  constructor
  · intro h
    exact (mixKind P w).inj _ _ _ (kVal_is P w j t) h
  · rintro rfl
    exact kVal_is P w j t
theorem goodK_elems {P : Program} {w : World} {l : List (Int × Value)} (g : ∀ e ∈ l, GoodK P w e) : ElemsOf (mixKind P w) l := fun e he => by
  obtain ⟨k, t, h1, h2⟩ := g e he
  exact ⟨⟨k, by rw [h1]; exact kVal_is P w k t, h2⟩, by rw [h1]; exact kVal_scan k t⟩
/-- the set at a holds the keys ks, each once; it can be walked -/
def SetM (P : Program) (w : World) (h : Heap) (a : Addr) (ks : List L2.Key) : Prop :=
  ∃ o es ep t, h.get? a = some o ∧ o.ExactSet ∧ o.data = .set es ep t ∧ (∀ e ∈ es.toList, GoodK P w e) ∧ (es.toList.map ekey).Perm ks ∧ ks.Nodup ∧ es.size < scanBound ∧ t.fits es.size = true ∧
    Ris t.place.toList ∧ (w.params.followText "set-order" = true ∨ t.led = true)
section
variable {P : Program} {w : World} {A : Around} {E : Value → Shared → Prop} {s : Shared} {a : Addr} {ks : List L2.Key}
theorem SetM.at {h h' : Heap} (R : SetM P w h a ks) (k : ∀ o, h.get? a = some o → h'.get? a = some o) : SetM P w h' a ks := by
  obtain ⟨o, es, ep, t, ho, r⟩ := R
  exact ⟨o, es, ep, t, k o ho, r⟩
theorem SetM.len {h : Heap} (R : SetM P w h a ks) : ks.length < scanBound := by
  obtain ⟨o, es, ep, t, _, _, _, _, pk, _, hb, _⟩ := R
  rw [← pk.length_eq, List.length_map, Array.length_toList]; exact hb
theorem setM_tail {g : Bool → Sem Unit} (hg : ∀ (b : Bool) (s₁ : Shared) (Q' : Unit → Shared → Prop), Q' () s₁ → wpAny (model P w) A (g b) Q' E s₁) {o : Obj} {es : Array (Int × Value)} {ep : Nat} {t : SetTable} (ho : s.heap.get? a = some o) (hex : o.ExactSet) (hd : o.data = .set es ep t)
    {fs : Array (Int × Value)} {u : SetTable} (g1 : ∀ e ∈ fs.toList, GoodK P w e) (pk : (fs.toList.map ekey).Perm ks) (nd : ks.Nodup) (hb : fs.size < scanBound) (hf : u.fits fs.size = true) (hr : Ris u.place.toList) (hl : w.params.followText "set-order" = true ∨ u.led = true) {dm : Bool} {R : Option Bool → Shared → Prop}
    (hR : ∀ h', Heap.SameBut a s.heap h' → SetM P w h' a ks → R (some true) { s with heap := h' }) :
    wpAny (model P w) A (do
      storeSet a fs u
      if (!dm && u.tooFull) = true then do
        g (relayAll u fs (SetTable.grown fs.size)).2.2
        storeSet a (relayAll u fs (SetTable.grown fs.size)).1 (relayAll u fs (SetTable.grown fs.size)).2.1
        pure (some true)
      else pure (some true)) R E s := by
  refine wpAny_bind (wpAny_storeSet_of ho hd ?_ (fits_of_scanBound hb))
  have o1 := store_at (es' := fs) (t' := u) ho hd
  have s1 := Heap.SameBut.update s.heap a (Obj.putSet fs u)
  split
  · have pm := relayAll_perm u fs (SetTable.grown fs.size)
    have f3 := relayAll_fits u fs (SetTable.grown fs.size)
    have r3 := relayAll_ris u fs (SetTable.grown fs.size)
    have l3 := relayAll_led u fs (SetTable.grown fs.size)
    generalize relayAll u fs (SetTable.grown fs.size) = Z at pm f3 r3 l3 ⊢
    obtain ⟨gs, v, gave⟩ := Z
    dsimp only at pm f3 r3 l3 ⊢
    have hz : gs.size = fs.size := by rw [← Array.length_toList, pm.length_eq, Array.length_toList]
    refine wpAny_bind (hg _ _ _ ?_)
    refine wpAny_bind (wpAny_storeSet_of o1 rfl ?_ (fits_of_scanBound (by rw [hz]; exact hb)))
    have o2 := store_at (es' := gs) (t' := v) o1 rfl
    refine wpAny_pure (hR _ (s1.trans (Heap.SameBut.update _ a _)) ⟨_, gs, _, v, o2, hex, rfl, fun e he => g1 e (pm.mem_iff.mp he), (pm.map ekey).trans pk, nd, by rw [hz]; exact hb, f3, r3, hl.imp id fun z => by rw [l3]; exact z⟩)
  · exact wpAny_pure (hR _ s1 ⟨_, fs, _, u, o1, hex, rfl, g1, pk, nd, hb, hf, hr, hl⟩)
open Classical in
noncomputable def insK (ks : List L2.Key) (k : L2.Key) : List L2.Key := if k ∈ ks then ks else k :: ks
theorem setM_add {k : L2.Key} {t0 : Tok} {Q : Bool → Shared → Prop} (R : SetM P w s.heap a ks) (room : ks.length + 1 < scanBound) (hQ : ∀ b h', Heap.SameBut a s.heap h' → SetM P w h' a (insK ks k) → Q b { s with heap := h' }) :
    wpAny (model P w) A (setAddHashed a (kVal k t0) ((mixKind P w).hash k)) Q E s := by
  obtain ⟨o, es, ep, t, ho, hex, hd, g, pk, nd, hb, hf, hr, hl⟩ := R
  have hkey := kVal_is P w k t0
  have hsc := kVal_scan k t0
  have hel : ElemsOf (mixKind P w) es.toList := goodK_elems g
  unfold setAddHashed setAddHashedIn
  refine wpAny_holding (wpAny_bind (wpAny_setState_of ho hd hf ?_))
  dsimp only
  rw [byScan_of hsc hb hel]
  simp only [↓reduceIte]
  unfold setAddByScan
  refine wpAny_bind (wpAny_bind (wpAny_rule (wpAny_bind (wpAny_setScan_of hkey ho hd hf hel ?_))))
  have mem : k ∈ ks ↔ ∃ e ∈ es.toList, (mixKind P w).is k e.2 = true := by
    rw [← pk.mem_iff, List.mem_map]
    exact ⟨fun ⟨e, he, q⟩ => ⟨e, he, (goodK_is (g e he) k).mpr q⟩, fun ⟨e, he, q⟩ => ⟨e, he, (goodK_is (g e he) k).mp q⟩⟩
  cases hfi : List.findIdx? (fun e => (mixKind P w).is k e.2) es.toList with
  | some j =>
    dsimp only
    obtain ⟨hj, pj, _⟩ := List.findIdx?_eq_some_iff_getElem.mp hfi
    have hin : k ∈ ks := mem.mpr ⟨es.toList[j], List.getElem_mem hj, pj⟩
    refine wpAny_pure (wpAny_pure ?_)
    refine hQ _ s.heap (Heap.SameBut.refl a s.heap) ?_
    unfold insK
    rw [if_pos hin]
    exact ⟨o, es, ep, t, ho, hex, hd, g, pk, nd, hb, hf, hr, hl⟩
  | none =>
    dsimp only
    have hnk : k ∉ ks := fun z => by
      obtain ⟨e, he, q⟩ := mem.mp z
      have c := List.findIdx?_eq_none_iff.mp hfi e he
      rw [q] at c
      cases c
    have hgw : ∀ (b : Bool) {s₁ : Shared} {Q' : Unit → Shared → Prop}, Q' () s₁ → wpAny (model P w) A (match b with | true => rule "set.scan.the-table-gave-way" | false => pure ()) Q' E s₁ :=
      fun b s₁ Q' q => by cases b <;> first | exact wpAny_pure q | exact wpAny_rule q
    have pm := layNew_perm t es ((mixKind P w).hash k) (kVal k t0)
    have f1 := layNew_fits t es ((mixKind P w).hash k) (kVal k t0)
    have r1 := layNew_ris t es ((mixKind P w).hash k) (kVal k t0) hr
    have l1 := layNew_led t es ((mixKind P w).hash k) (kVal k t0)
    generalize layNew t es ((mixKind P w).hash k) (kVal k t0) = Z at pm f1 r1 l1 ⊢
    obtain ⟨fs, u, dm, gave⟩ := Z
    dsimp only at pm f1 r1 l1 ⊢
    rw [Array.toList_push] at pm
    have pc : fs.toList.Perm (((mixKind P w).hash k, kVal k t0) :: es.toList) := pm.trans (List.perm_append_singleton _ _)
    have pk1 : (fs.toList.map ekey).Perm (insK ks k) := by
      unfold insK
      rw [if_neg hnk]
      have := pc.map ekey
      rw [List.map_cons, show ekey ((mixKind P w).hash k, kVal k t0) = k from kOf_kVal k t0] at this
      exact this.trans (pk.cons k)
    have g1 : ∀ e ∈ fs.toList, GoodK P w e := fun e he => by
      rcases List.mem_cons.mp (pc.mem_iff.mp he) with z | z
      · rw [z]; exact ⟨k, t0, rfl, rfl⟩
      · exact g e z
    have nd1 : (insK ks k).Nodup := by
      unfold insK
      rw [if_neg hnk]
      exact List.nodup_cons.mpr ⟨hnk, nd⟩
    have hz : fs.size = ks.length + 1 := by rw [← Array.length_toList, pc.length_eq, List.length_cons, ← pk.length_eq, List.length_map]
    have hb1 : fs.size < scanBound := by rw [hz]; exact room
    have hled : w.params.followText "set-order" = true ∨ u.led = true := hl.imp id fun z => by rw [l1]; exact z
    refine wpAny_bind (hgw _ ?_)
    split
    · refine wpAny_bind ?_
      rw [hashByValue_scannable 8 hsc]
      refine wpAny_pure ?_
      refine setM_tail ?_ ho hex hd g1 pk1 nd1 hb1 ?_ ?_ ?_ ?_
      · intro b s₁ Q' q; cases b <;> first | exact wpAny_pure q | exact wpAny_rule q
      · first | (split <;> first | exact f1 | exact SetTable.fits_plain_off f1) | exact f1
      · first | (split <;> exact r1) | exact r1
      · first | (split <;> exact hled) | exact hled
      · intro h' sb r; dsimp only; exact wpAny_pure (hQ _ h' sb r)
    · refine wpAny_bind (wpAny_pure ?_)
      simp only [↓reduceIte]
      refine setM_tail ?_ ho hex hd g1 pk1 nd1 hb1 f1 r1 hled ?_
      · intro b s₁ Q' q; cases b <;> first | exact wpAny_pure q | exact wpAny_rule q
      · intro h' sb r; dsimp only; exact wpAny_pure (hQ _ h' sb r)
end
noncomputable def dedK (xs : List L2.Key) : List L2.Key := xs.foldl insK []
section
variable {prog : Program} {w : World} {A : Around} {R : Result → Shared → Prop} {I : Addr} {fp wr : List Addr} {G : Array GenState → Array GenState → Prop} {n : Nat} {P : Nat → Value → Prop} {St : Nat → Shared → Prop}
theorem insK_len (ks : List L2.Key) (k : L2.Key) : (insK ks k).length ≤ ks.length + 1 := by
  unfold insK
  split
  · omega
  · simp
theorem dedK_len : ∀ (xs ks : List L2.Key), (xs.foldl insK ks).length ≤ ks.length + xs.length
  | [], ks => by simp
  | x :: xs, ks => by
    rw [List.foldl_cons]
    have h1 := dedK_len xs (insK ks x)
    have h2 := insK_len ks x
    simp only [List.length_cons]
    omega
theorem set_loop (W : WalksS prog w A.in1 I fp wr G n P St) (S : Addr) (hSf : S ∉ fp) (xs : List L2.Key) (hsz : xs.length = n) (hn1 : n + 1 < scanBound) (hval : ∀ i v, P i v → ∃ k t, xs[i]? = some k ∧ v = kVal k t) :
    ∀ (k i : Nat) (s : Shared), n - i = k → i ≤ n → St i s → SetM prog w s.heap S (dedK (xs.take i)) → (∀ s', Moved (S :: wr) G s s' → SetM prog w s'.heap S (dedK xs) → R (.ok (.ret .none)) s') →
      codeAny (model prog w) A (.builtin "set.update.loop" ⟨[.ref S, .ref I], []⟩) R s := by
  have hSw : S ∉ wr := fun h => hSf (W.sub _ h)
  have hsub : ∀ b ∈ wr, b ∈ S :: wr := fun b hb => List.mem_cons_of_mem _ hb
  intro k
  induction k with
  | zero =>
    intro i s hk hi hst hS hR
    have hin : i = n := by omega
    subst hin
    refine codeAny_builtin PyProof.Rows.F.entry_set_update_loop ?_
    rw [Around.under_plainId PyProof.Rows.F.plain_set_update_loop _]
    show wpAny _ A.in1 (pyNext (.ref I) >>= _) _ _ s
    refine wpAny_bind (W.done s _ _ hst fun s' hm => ?_)
    show wpAny _ A.in1 (PySem.ret Value.none) _ _ s'
    rw [List.take_of_length_le (by omega)] at hS
    exact wpAny_pure (hR s' (hm.mono hsub) (hS.at fun o e => hm.heap S _ hSw e))
  | succ k ih =>
    intro i s hk hi hst hS hR
    have hlt : i < n := by omega
    refine codeAny_builtin PyProof.Rows.F.entry_set_update_loop ?_
    rw [Around.under_plainId PyProof.Rows.F.plain_set_update_loop _]
    show wpAny _ A.in1 (pyNext (.ref I) >>= _) _ _ s
    refine wpAny_bind (W.item i s _ _ hlt hst fun v s' hP hst' hm => ?_)
    obtain ⟨key, t, hx, rfl⟩ := hval i v hP
    have hS' : SetM prog w s'.heap S (dedK (xs.take i)) := hS.at fun o e => hm.heap S _ hSw e
    show wpAny _ A.in1 (holding [kVal key t] (setAdd S (kVal key t)) >>= _) _ _ s'
    refine wpAny_bind (wpAny_holding ?_)
    unfold setAdd
    refine wpAny_holding (wpAny_bind ((mixKind prog w).pyHash (k := key) (kVal_is _ _ _ _) ?_))
    have hl1 := dedK_len (xs.take i) []
    refine setM_add (s := { s' with toks := s'.toks + 1 }) hS' (by
      have : (dedK (xs.take i)).length ≤ 0 + (xs.take i).length := hl1
      rw [List.length_take] at this
      omega) fun b h' hsb hS2 => ?_
    have e : dedK (xs.take (i + 1)) = insK (dedK (xs.take i)) key := by
      unfold dedK
      rw [List.take_succ, hx, List.foldl_append]; rfl
    rw [← e] at hS2
    refine wpAny_pure ⟨plainId_quiet PyProof.Rows.F.plain_set_update_loop _, ih (i + 1) _ (by omega) hlt (W.frame _ s' _ _ hst' (Nat.le_succ _) fun b hb o e => ?_) hS2 fun s'' hm'' hS'' => ?_⟩
    · rw [hsb.2 b (fun h : b = S => hSf (by rw [← h]; exact hb))]; exact e
    · refine hR s'' (Moved.trans W.gtrans ((hm.mono hsub).then_heap (Nat.le_succ _) fun b o hb e => ?_) hm'') hS''
      rw [hsb.2 b (fun h : b = S => hb (by rw [h]; exact List.mem_cons_self))]; exact e
end
section
variable {prog : Program} {w : World} {A : Around} {E : Value → Shared → Prop} {s : Shared}
abbrev emptyS (led : Bool) : Obj := { cls := .type "set", dict := none, data := .set #[] 0 (.fresh 0 0 led) }
theorem setM_fresh {h : Heap} {a : Addr} (ha : h.get? a = some (emptyS (!w.params.followText "set-order"))) : SetM prog w h a [] :=
  ⟨_, #[], 0, _, ha, ⟨rfl, rfl, rfl⟩, rfl, (fun e he => by simp at he), (by simp), List.nodup_nil, (by decide), (by rfl), List.Pairwise.nil, by
    show _ ∨ (!w.params.followText "set-order") = true
    cases w.params.followText "set-order"
    · exact .inr rfl
    · exact .inl rfl⟩
theorem set_new1 (a : Value) {Q₁ : Value → Shared → Prop} (h : Q₁ (.ref s.heap.objs.size) { s with heap := s.heap.push (emptyS (!w.params.followText "set-order")) }) :
    codeAny (model prog w) A (.call (.builtin "set.__new__") ⟨[.type "set", a], []⟩) (wants Q₁ E) s := by
  refine codeAny_of_tree ?_
  show wpAny _ A.in1 (do checkBuiltinCall "set.__new__" ⟨[.type "set", a], []⟩; again (.builtin "set.__new__" ⟨[.type "set", a], []⟩)) _ _ s
  refine wpAny_bind (wpAny_of_eq (PySem.F.newCall_set_1 a) (wpAny_pure ⟨plainId_quiet PySem.F.plain_set_new _, codeAny_builtin PySem.F.entry_set_new ?_⟩))
  rw [Around.under_plainId PySem.F.plain_set_new _]
  unfold Builtin.«set.__new__» Builtin.Frozenset.newClass
  have hsub := sub_set_self
  obtain ⟨hp, g, d, tk, os⟩ := s
  dsimp only
  wp_walk
  refine wpAny_askSetting (wpAny_pure ?_)
  dsimp only
  simp only [newObj]
  exact wpAny_bind (wpAny_alloc (wpAny_pure (wpAny_pure h)))
def KeysAre (us : List Value) (xs : List L2.Key) : Prop := us.length = xs.length ∧ ∀ (i : Nat) (v : Value), us[i]? = some v → ∃ k t, xs[i]? = some k ∧ v = kVal k t
set_option maxHeartbeats 3200000 in
theorem set_of_list {l : Addr} {items : Array Value} {xs : List L2.Key} {Q : Value → Shared → Prop} (hh : A.handled = none) (hl : s.heap.IsList l items) (hi : KeysAre items.toList xs) (hn1 : xs.length + 1 < scanBound)
    (h : ∀ (h' : Heap) (tk : Nat), SetM prog w h' s.heap.objs.size (dedK xs) → (∀ b o, b < s.heap.objs.size → s.heap.get? b = some o → h'.get? b = some o) → Q (.ref s.heap.objs.size) { s with heap := h', toks := tk }) :
    wpAny (model prog w) A (call (.type "set") [.ref l]) Q E s := by
  obtain ⟨c, tl, hmro⟩ := PySem.F.called_set.mro
  have hmade := PySem.F.called_set.made
  have hsub := PySem.F.called_set.sub
  refine wpAny_call (codeAny_of_tree ?_)
  show wpAny _ _ (callAny (.type "set") _) _ _ _
  refine wpAny_pure ⟨Code.quiet_builtin _ (by decide +kernel), codeAny_builtin PySem.F.entry_type_call ?_⟩
  rw [Around.under_plain (weight_type_call_type "set" [.ref l] []) rfl]
  have h1 := PySem.F.called_set.notType
  have h2 := PySem.F.called_set.canCreate
  have hct := PySem.F.typeCall_set_1 (.ref l)
  repeat (any_goals (first | assumption | wp_step))
  generalize hled : (!w.params.followText "set-order") = led
  refine codeAny_mono (set_new1 (.ref l) (E := E) (Q₁ := fun obj s₁ => obj = .ref s.heap.objs.size ∧ s₁ = { s with heap := s.heap.push (emptyS led) }) (by rw [hled]; exact ⟨rfl, rfl⟩)) fun r s₁ hr => ?_
  cases r with
  | error e => exact hr
  | ok fl =>
    cases fl with
    | ret obj =>
      obtain ⟨rfl, rfl⟩ := hr
      have hS : (s.heap.push (emptyS led)).get? s.heap.objs.size = some (emptyS led) := Heap.get?_push_size _ rfl
      have hT : Shared.TypeIs { s with heap := s.heap.push (emptyS led) } (.ref s.heap.objs.size) "set" := ⟨_, hS, rfl⟩
      have hli := PySem.F.called_set.init.lookup
      have hbi := PySem.F.called_set.init.bind (.ref s.heap.objs.size)
      repeat (any_goals (first | assumption | wp_step))
      refine codeAny_mono (codeAny_call_builtin (R := wants (fun r s₂ => r = .none ∧ ∃ h' tk, s₂ = { s with heap := h', toks := tk } ∧ SetM prog w h' s.heap.objs.size (dedK xs) ∧
          (∀ b o, b < s.heap.objs.size → s.heap.get? b = some o → h'.get? b = some o)) E) PySem.F.called_set.init.plain PySem.F.entry_set_init (check_set_init_1 hT ?_)) fun r₂ s₂ hr₂ => ?_
      · obtain ⟨ol, hol, hcl, nl, hdl⟩ := hl
        obtain ⟨ocls, odict, odata, oslots⟩ := ol
        simp only at hcl hdl
        subst hcl; subst hdl
        have hol' : (s.heap.push (emptyS led)).get? l = some { cls := .type "list", dict := odict, data := .seq items nl, slots := oslots } := Heap.get?_push_of_some _ hol
        have hsls := PySem.F.sub_list_set
        have hslf := PySem.F.sub_list_frozenset
        have hne : (Value.type "list" == Value.type "dict") = false := by decide
        have hl1 : (s.heap.push (emptyS led)).IsList l items := ⟨_, hol', rfl, nl, rfl⟩
        unfold Builtin.«set.__init__» noKeywords Builtin.Frozenset.updateFrom
        generalize hPI : pyIter = PI
        wp_walk
        subst hPI
        refine wpAny_pyIter_list hl1 (wpAny_bind (wpAny_runValue ?_))
        have hlS : l < s.heap.objs.size := Heap.lt_size hol
        have hh3 : A.in1.in1.in1.handled = none := by simp [hh]
        have hneI : l ≠ (s.heap.push (emptyS led)).objs.size := by
          rw [Heap.size_push]; exact Nat.ne_of_lt (Nat.lt_succ_of_lt hlS)
        have hSf : s.heap.objs.size ∉ [(s.heap.push (emptyS led)).objs.size, l] := by
          rw [Heap.size_push]; simp only [List.mem_cons, List.mem_singleton, List.not_mem_nil, or_false, not_or]
          exact ⟨Nat.ne_of_lt (Nat.lt_succ_self _), Nat.ne_of_gt hlS⟩
        have hsz : xs.length = items.size := by rw [← hi.1, Array.length_toList]
        have hval : ∀ (i : Nat) (v : Value), items[i]? = some v → ∃ k t, xs[i]? = some k ∧ v = kVal k t := fun i v hv => hi.2 i v (by rw [Array.getElem?_toList]; exact hv)
        refine set_loop ((PySem.Walks.list hh3 _ l hneI items).toS) s.heap.objs.size hSf xs hsz (by rw [← hsz]; exact hn1) hval (items.size - 0) 0 _ (by omega) (Nat.zero_le _) ⟨⟨_, Heap.get?_push_size _ rfl, rfl, rfl⟩, (hl1.push _)⟩ ?hS0 ?hR
        case hS0 =>
          rw [← hled] at hS ⊢
          exact setM_fresh (Heap.get?_push_of_some _ hS)
        case hR =>
          intro s' hm hS'
          obtain ⟨h', g', d', tk', os'⟩ := s'
          have eg : g' = s.gens := hm.gens
          have ed : d' = s.drawn := hm.drawn
          have eo : os' = s.os := hm.os
          subst eg; subst ed; subst eo
          show wpAny _ _ _ _ _ _
          refine wpAny_pure ?_
          show wpAny _ _ (PySem.ret Value.none) _ _ _
          refine wpAny_pure ⟨rfl, h', tk', rfl, hS', fun b o hb e => ?_⟩
          have hb2 : b ≠ (s.heap.push (emptyS led)).objs.size := by
            rw [Heap.size_push]; exact Nat.ne_of_lt (Nat.lt_succ_of_lt hb)
          exact hm.heap b o (by simp only [List.mem_cons, List.mem_singleton, List.not_mem_nil, or_false, not_or]; exact ⟨Nat.ne_of_lt hb, hb2⟩) (Heap.get?_push_of_some _ (Heap.get?_push_of_some _ e))
      · cases r₂ with
        | error e => exact hr₂
        | ok fl₂ =>
          cases fl₂ with
          | ret r =>
            obtain ⟨rfl, h', tk, rfl, hS', hk'⟩ := hr₂
            repeat (any_goals (first | assumption | wp_step))
            exact h _ _ hS' hk'
          | _ => exact hr₂.elim
    | _ => exact hr.elim
end
end G7

set_option Elab.async false
set_option linter.all false
set_option maxRecDepth 100000
set_option autoImplicit false
namespace G7
open PySem PySem.Spec PyProof.Rows L2
def dedL : List (List Nat) → List (List Nat) := fun ys => ys.foldl (fun a y => if y ∈ a then a else y :: a) []
def setKO (P : Program) (w : World) (a : Addr) (ks : List L2.Key) : HO := .ext fun h => SetM P w h a ks
section
variable {P : Program} {w : World} {A : Around} {E : Value → Shared → Prop} {s : Shared} {a : Addr}
theorem sorted_setS {ss : List (List Nat)} {Q : Value → Shared → Prop} (R : SetM P w s.heap a (ss.map fun l => .inr ⟨l.toArray⟩)) (hh : A.handled = none)
    (hQ : ∀ s' p (out : List Value) (c : Nat), (∀ b o, s.heap.get? b = some o → s'.heap.get? b = some o) → s'.gens = s.gens → s'.os = s.os → s.heap.objs.size ≤ p → s'.heap.get? p = some (seqObj "list" out.toArray c) →
      (∀ u ∈ out, ∃ x t, u = Value.str x t) → out.map cpsOf = srt ltL ss → Q (.ref p) s') : wpAny (model P w) A (call (.builtin "sorted") [.ref a]) Q E s := by
  obtain ⟨o, es, ep, t, ho, hex, hd, g, pk, nd, hb, hf, hr, hl⟩ := R
  refine Calls.call_function_entry kind_sorted plain_sorted entry_sorted (args_sorted1 _) ?_
  unfold Builtin.«sorted»
  refine wpAny_bind (m := checkCount "sorted" 1 1 _) (wpAny_pure ?_)
  refine wpAny_bind (collect_set (A := A.in1) hh ⟨o, ho, hex.1, hd⟩ hf hb hr hl fun s1 vs k1 hz g1 o1 pm => ?_)
  have hall : ∀ v ∈ vs, ∃ x t, v = Value.str x t := fun v hv => by
    obtain ⟨e, he, rfl⟩ := List.mem_map.mp (pm.mem_iff.mp hv)
    obtain ⟨k, t, h1, _⟩ := g e he
    have hk : ekey e ∈ ss.map fun l => (Sum.inr ⟨l.toArray⟩ : L2.Key) := pk.mem_iff.mp (List.mem_map.mpr ⟨e, he, rfl⟩)
    obtain ⟨l, _, h2⟩ := List.mem_map.mp hk
    unfold ekey at h2
    rw [h1, kOf_kVal] at h2
    rw [h1, ← h2]
    exact ⟨_, t, rfl⟩
  have hvc : (vs.map cpsOf).Perm ss := by
    have h1 : (vs.map kOf).Perm (ss.map fun l => (Sum.inr ⟨l.toArray⟩ : L2.Key)) := by
      have := pm.map kOf
      rw [List.map_map] at this
      exact this.trans pk
    have h2 := h1.map fun k : L2.Key => match k with | .inr x => x.cps.toList | .inl _ => []
    rw [List.map_map, List.map_map] at h2
    have e1 : vs.map ((fun k : L2.Key => match k with | .inr x => x.cps.toList | .inl _ => []) ∘ kOf) = vs.map cpsOf := List.map_congr_left fun v hv => by
      obtain ⟨x, t, rfl⟩ := hall v hv
      rfl
    have e2 : ss.map ((fun k : L2.Key => match k with | .inr x => x.cps.toList | .inl _ => []) ∘ fun l => (Sum.inr ⟨l.toArray⟩ : L2.Key)) = ss := (List.map_congr_left fun l _ => rfl).trans (List.map_id _)
    rw [e1, e2] at h2
    exact h2
  have hI : ∃ xs, StrsAre vs xs := by
    clear hvc pm
    induction vs with
    | nil => exact ⟨[], .nil⟩
    | cons v vs ih =>
      obtain ⟨x, t, rfl⟩ := hall v (List.mem_cons_self ..)
      obtain ⟨xs, h⟩ := ih fun u hu => hall u (List.mem_cons_of_mem _ hu)
      exact ⟨x :: xs, .cons x t h⟩
  obtain ⟨xs, hI⟩ := hI
  have hvl : vs.length ≤ sizeLine := by
    rw [pm.length_eq, List.length_map, Array.length_toList]
    exact fits_of_scanBound hb
  refine wpAny_bind (wpAny_newList ?_ hvl)
  have hoL : (s1.heap.push (seqObj "list" vs.toArray 0)).get? s1.heap.objs.size = some (seqObj "list" vs.toArray 0) := Heap.get?_push_size _ rfl
  refine wpAny_bind (wpAny_holding (wpAny_call_entry slot_list_sort ⟨_, hoL, rfl⟩ entry_list_sort (SrtO.list_sort_ord swoS hoL hvl (fun h2 => strs_sortable hI h2) fun out hs hst => ⟨_, rfl, ?_⟩) (args_list_sort _)))
  obtain ⟨c, hc⟩ := sortedHeap_at (vs := vs) (out := out.toArray) hoL
  refine wpAny_pure ⟨_, rfl, hQ _ s1.heap.objs.size out c (fun b u e => ?_) g1 o1 hz hc (fun u hu => hall u (hst.perm.mem_iff.mp hu)) ?_⟩
  · have q := k1 b u e
    have hlt := Heap.lt_size q
    show (sortedHeap (s1.heap.push (seqObj "list" vs.toArray 0)) s1.heap.objs.size vs out.toArray).get? b = some u
    rw [sortedHeap_old (Nat.ne_of_lt hlt) (by rw [size_push']; exact Nat.lt_succ_of_lt hlt)]
    exact Heap.get?_push_of_some _ q
  · exact (srt_of ltL_tot (List.pairwise_map.mpr hs) ((hst.perm.map cpsOf).trans hvc)).symm
end
section
variable {X : Cx}
theorem setKO_new {w : World} {P : Program} {H : Hp} {h : Heap} {a : Addr} {ks : List L2.Key} (R : SetM P w h a ks) : ObjOk P w H h a (setKO P w a ks) := by
  have ⟨o, _, _, _, ho, _⟩ := R
  exact ⟨R, ⟨o, ho⟩, fun h1 h2 p k => SetM.at p k⟩
theorem setKO_get {pins : List (Addr × Obj)} {σ : L2.St} {H : Hp} {s : Shared} {a : Addr} {ks : List L2.Key} (I : Inv X pins σ H s) (ha : H a = some (setKO X.prog X.w a ks)) : SetM X.prog X.w s.heap a ks := (I.hok a _ ha).1
def rSetL (P : Program) (w : World) (K : PySem.W.Frag) : List V → Hp → VK → Prop := fun vs H Q => ∃ (l : Addr) (ks : List L2.Key), vs = [V.ref l] ∧ SqL K H l (ks.map kV) ∧ ks.length + 1 < scanBound ∧ ∀ p, H p = none → Q (.ref p) (upd H p (setKO P w p (dedK ks)))
theorem keys_vals : ∀ {ks : List L2.Key} {us : List Value}, Vals (ks.map kV) us → KeysAre us ks := by
  intro ks us h
  refine ⟨by rw [← h.length, List.length_map], fun i v hv => ?_⟩
  obtain ⟨x, h1, h2⟩ := vals_back h hv
  rw [List.getElem?_map] at h1
  cases e : ks[i]? with
  | none => rw [e] at h1; cases h1
  | some k =>
    rw [e] at h1
    cases h1
    cases k with
    | inl j => obtain ⟨t, rfl⟩ := h2; exact ⟨_, t, rfl, rfl⟩
    | inr x => obtain ⟨t, rfl⟩ := h2; exact ⟨_, t, rfl, rfl⟩
theorem cr_setL (hc : X.calm = true) : CallR X (.type "set") (rSetL X.prog X.w X.K) := by
  intro pins s σ H vs us Q I r h
  obtain ⟨l, ks, rfl, hs, hb, q⟩ := h
  obtain ⟨its, rv, hl, hz⟩ := I.list hs
  rw [Vals.ref1 r]
  refine set_of_list (I.ok.hd hc) hl.isList (xs := ks) (by simpa using keys_vals rv) hb fun h' tk R hk => ?_
  have hk' : ∀ b o, s.heap.get? b = some o → h'.get? b = some o := fun b o e => hk b o (Heap.lt_size e) e
  exact ⟨.ref _, upd H s.heap.objs.size (setKO X.prog X.w s.heap.objs.size (dedK ks)), I.laid (t' := tk) hk' (Nat.le_refl _) (setKO_new R), rfl, q _ (I.hok.fresh (Nat.le_refl _))⟩
def rSortSet (P : Program) (w : World) : List V → Hp → VK → Prop := fun vs H Q => ∃ (a : Addr) (ss : List (List Nat)), vs = [V.ref a] ∧ H a = some (setKO P w a (ss.map fun l => .inr ⟨l.toArray⟩)) ∧
  ∀ p, H p = none → Q (.ref p) (upd H p (.lst ((srt ltL ss).map fun l => V.str ⟨l.toArray⟩)))
theorem cr_sortSet (hc : X.calm = true) : CallR X (.builtin "sorted") (rSortSet X.prog X.w) := by
  intro pins s σ H vs us Q I r h
  obtain ⟨a, ss, rfl, ha, q⟩ := h
  have R := setKO_get I ha
  rw [Vals.ref1 r]
  refine sorted_setS R (I.ok.hd hc) fun s' p out c k g o hp hg hall hs => ?_
  have hlen : ((srt ltL ss).map fun l => V.str ⟨l.toArray⟩).length ≤ sizeLine := by
    have := R.len
    rw [List.length_map] at this
    rw [List.length_map, (srt_perm ss).length_eq]
    exact fits_of_scanBound this
  have hn : H p = none := I.hok.fresh hp
  have hv : Vals ((srt ltL ss).map fun l => V.str ⟨l.toArray⟩) out := by rw [← hs]; exact vals_of_cps hall
  have J : Inv X pins σ (upd H p (.lst ((srt ltL ss).map fun l => V.str ⟨l.toArray⟩))) { s with heap := s'.heap, gens := s'.gens, drawn := s'.drawn, toks := s'.toks } :=
    I.call (ch := []) (Un.laid k hp hn) (I.hok.laid k hp ⟨hlen, out, c, hv, hg⟩) (by rw [g]; exact I.bare) (fun _ z => nomatch z)
  have e : s' = { s with heap := s'.heap, gens := s'.gens, drawn := s'.drawn, toks := s'.toks } := by
    cases s'
    cases s
    cases o
    rfl
  rw [e]
  exact ⟨.ref p, _, J, rfl, q p hn⟩
end
def sortSetV : PV → Option PV
  | .lst xs => match strsP xs with
    | some ys => if ys.length < 4000 then some (.lst ((srt ltL (dedL ys)).map .str)) else none
    | none => none
  | _ => none
theorem strK_inj {l m : List Nat} (h : (Sum.inr ⟨l.toArray⟩ : L2.Key) = Sum.inr ⟨m.toArray⟩) : l = m := by
  injection h with h
  exact str_inj h
theorem ded_go : ∀ (ys acc : List (List Nat)), (ys.map fun l => (Sum.inr ⟨l.toArray⟩ : L2.Key)).foldl insK (acc.map fun l => .inr ⟨l.toArray⟩) = (ys.foldl (fun a y => if y ∈ a then a else y :: a) acc).map fun l => .inr ⟨l.toArray⟩
  | [], acc => rfl
  | y :: ys, acc => by
    rw [List.map_cons, List.foldl_cons, List.foldl_cons, ← ded_go ys]
    congr 1
    unfold insK
    by_cases h : y ∈ acc
    · rw [if_pos h, if_pos (List.mem_map.mpr ⟨y, h, rfl⟩)]
    · rw [if_neg h, if_neg]
      · rfl
      · intro h2
        obtain ⟨z, hz, e⟩ := List.mem_map.mp h2
        exact h (strK_inj e ▸ hz)
theorem dedL_mem (ys : List (List Nat)) : (dedL ys).Nodup ∧ ∀ y, y ∈ dedL ys ↔ y ∈ ys := by
  have : ∀ (ys acc : List (List Nat)), acc.Nodup → (ys.foldl (fun a y => if y ∈ a then a else y :: a) acc).Nodup ∧ ∀ y, y ∈ ys.foldl (fun a y => if y ∈ a then a else y :: a) acc ↔ y ∈ acc ∨ y ∈ ys := by
    intro ys
    induction ys with
    | nil => intro acc h; exact ⟨h, fun y => by simp⟩
    | cons x ys ih =>
      intro acc h
      rw [List.foldl_cons]
      by_cases hx : x ∈ acc
      · rw [if_pos hx]
        obtain ⟨h1, h2⟩ := ih acc h
        refine ⟨h1, fun y => (h2 y).trans ?_⟩
        rw [List.mem_cons]
        exact ⟨fun z => z.elim .inl fun z => .inr (.inr z), fun z => z.elim .inl fun z => z.elim (fun e => .inl (e ▸ hx)) .inr⟩
      · rw [if_neg hx]
        obtain ⟨h1, h2⟩ := ih (x :: acc) (List.nodup_cons.mpr ⟨hx, h⟩)
        refine ⟨h1, fun y => (h2 y).trans ?_⟩
        rw [List.mem_cons, List.mem_cons]
        exact ⟨fun z => z.elim (fun z => z.elim (fun e => .inr (.inl e)) .inl) fun z => .inr (.inr z), fun z => z.elim (fun z => .inl (.inr z)) fun z => z.elim (fun e => .inl (.inl e)) .inr⟩
  obtain ⟨h1, h2⟩ := this ys [] List.nodup_nil
  exact ⟨h1, fun y => (h2 y).trans (by simp)⟩
theorem opr_sortSet {P : Program} {w : World} {K : PySem.W.Frag} : OprN K (fun xs H Q => rSetL P w K xs H fun x H1 => rSortSet P w [x] H1 Q) (on1 sortSetV) := by
  intro F H xs as v Q le ss e q
  obtain ⟨a, rfl, e0⟩ := on1_some e; replace e := e0
  obtain ⟨u, rfl, sx⟩ := ss.one
  unfold sortSetV at e
  split at e
  · rename_i xs
    obtain ⟨p, vs, rfl, h1, r1⟩ := sx.lst le
    split at e
    · rename_i ys hy
      split at e
      · rename_i hlen
        cases e
        rw [strsP_some hy] at r1
        obtain ⟨rfl, hb⟩ := r1.strs2
        refine ⟨p, ys.map fun l => .inr ⟨l.toArray⟩, rfl, ?_, by rw [List.length_map]; exact Nat.lt_of_lt_of_le (Nat.add_lt_add_right hlen 1) (by decide), fun n hn => ⟨n, dedL ys, rfl, ?_, fun m hm => ?_⟩⟩
        · rw [List.map_map]; exact .of h1
        · rw [upd_same, show dedK (ys.map fun l => (Sum.inr ⟨l.toArray⟩ : L2.Key)) = (dedL ys).map fun l => .inr ⟨l.toArray⟩ from ded_go ys []]
        · have g1 : Grow F H F (upd H n (setKO P w n (dedK (ys.map fun l => .inr ⟨l.toArray⟩)))) := ⟨Same.refl _, fun b u e => by rw [upd_ne (ne_of_none e hn)]; exact e, fun b u e => by rw [upd_ne (ne_of_none (le b u e) hn)]; exact le b u e, fun _ _ e => .inl e⟩
          have g2 := Grow.new (o := .lst ((srt ltL (dedL ys)).map fun l => V.str ⟨l.toArray⟩)) g1.le hm
          exact q _ _ _ (g1.trans g2) (.lst upd_same ((Reps.ofStrs fun l hl => hb l ((dedL_mem ys).2 l |>.mp ((srt_perm _).mem_iff.mp hl))).mono g2.f))
      · cases e
    · cases e
  · cases e
section
variable {X : Cx} {Ex : Nat → Hp → Prop} {e : Expr} {fa : M (List Tk)} {pos p p2 pos2 : Pos}
theorem dx_sortSet (hc : X.calm = true) (hg : Gl X "sorted") (hm : X.mg "sorted" = none) (hg2 : Gl X "set") (hm2 : X.mg "set" = none) (ha : PA X [e] (tOA X.K Ex fa))
    (hpl : (backTo pos2 (starEach [] X.env)).any (·.1) = false := by rfl) (he : starEach [e] X.env = (false, eval e X.env) :: starEach [] X.env := by rfl)
    (he2 : starEach [.Call (.Name "set" p2) [e] [] pos2] X.env = (false, eval (.Call (.Name "set" p2) [e] [] pos2) X.env) :: starEach [] X.env := by rfl) (hpl2 : (backTo pos (starEach [] X.env)).any (·.1) = false := by rfl) :
    PE X (.Call (.Name "sorted" p) [.Call (.Name "set" p2) [e] [] pos2] [] pos) (tX X.K Ex (opn (on1 sortSetV) fa)) :=
  pe_weak (pe_callB (cr_sortSet hc) hg hm (by decide +kernel) (pa_cons (pe_callTy (cr_setL hc) hg2 hm2 (by decide +kernel) ha (by decide) (by decide) he hpl) pa_nil he2) (by decide) (by decide) he2 hpl2) fun _ _ _ => x_opn opr_sortSet
end
end G7

set_option Elab.async false
set_option linter.all false
set_option maxRecDepth 100000
set_option autoImplicit false
namespace G7
open PySem PySem.Spec PyProof.Rows L2

def excN : List Str := ["InvalidLength", "InvalidWord", "InvalidCode", "InvalidBlock", "InvalidCounts", "InvalidIndex", "InvalidPosition", "InvalidOrder", "TooLong", "NoWords", "InvalidDistance", "InvalidPartial", "Underdetermined", "InvalidAnswers", "ParseError", "NothingToUndo"]
def excA (K : PySem.W.Frag) (c : Nat) : Addr := He.ga K (excN.getD c "")
def EE1 (K : PySem.W.Frag) : XK → Nat → Hp → Prop := fun E c H => c < 16 ∧ E (.ref (excA K c)) none H
def raiseM (c : Nat) : M Out := fun ρ => .exc c ρ
def whichV (c : Nat) : PV := .tup [.str [114, 97, 105, 115, 101, 100], .int c]
def tryM (fb : M Out) : M Out := fun ρ => match fb ρ with
  | .exc c ρ' => if c < 16 then .ok (.rt (whichV c)) ρ' else .bad
  | r => r
/-- what a context takes of the calls in it -/
structure Tak (X : Cx) (E : XK) : Prop where
  ps : Passes (L2N.CX X.prog X.w) X E
  po : PassesOwn (model X.prog X.w) X.A X.env X.xe

section
variable {P : Program} {w : World} {K : PySem.W.Frag} {mg : Str → Option Value} {base : Heap}
theorem okE {x : Str} {st : Stmt} {f : Addr} {fd : FuncData} {N ps : List Str} {k n : Nat} {fb : M Out} (F : FnP K x st f fd) (S : FnScope N ps (defScope st)) (hn : ps.length = n)
    (hb : ∀ (cdv : Value) (A : Around) (outer : List PySem.Env) (s : Shared) (H : Hp) (E : XK), Room k (A.deeper (envOfC x (defScope st) s.heap.objs.size f cdv)) →
      L2N.Takes (cxOf (L2N.CX P w) P w K mg base N x (defScope st) f cdv A outer s H E) (fun cls d _ H => E cls d H) → Tak (cxOf (L2N.CX P w) P w K mg base N x (defScope st) f cdv A outer s H E) E →
      PSs (cxOf (L2N.CX P w) P w K mg base N x (defScope st) f cdv A outer s H E) (defBody st) (sX K (EE1 K E) [] fb)) : FnOk P w K mg base (L2N.CX P w) (k + 1) f fd ps (spP K (EE1 K) n (runP N.length fb)) := by
  refine F.ok S (fun vs H Q E h => ?_) (fun cdv A outer s H vs Q E hr h => ?_)
  · obtain ⟨_, _, _, _, h1, _⟩ := h
    rw [h1, hn]
  · have tk : L2N.Takes (cxOf (L2N.CX P w) P w K mg base N x (defScope st) f cdv A outer s H E) (fun cls d _ H => E cls d H) := L2N.takes_of rfl rfl rfl rfl
    exact ⟨_, hb cdv A outer s H E hr tk ⟨L2N.passes_call tk fun _ _ _ _ z => z, passes_of rfl⟩, body_P (fun c H' z => z) h⟩
theorem okER {x : Str} {st : Stmt} {f : Addr} {fd : FuncData} {N ps : List Str} {k n j : Nat} {fb : M Out} (F : FnP K x st f fd) (S : FnScope N ps (defScope st)) (hn : ps.length = n)
    (hb : ∀ (cdv : Value) (A : Around) (outer : List PySem.Env) (s : Shared) (H : Hp) (E : XK), Room k (A.deeper (envOfC x (defScope st) s.heap.objs.size f cdv)) →
      L2N.Takes (cxOf (L2N.CX P w) P w K mg base N x (defScope st) f cdv A outer s H E) (fun cls d _ H => E cls d H) → Tak (cxOf (L2N.CX P w) P w K mg base N x (defScope st) f cdv A outer s H E) E →
      PSs (cxOf (L2N.CX P w) P w K mg base N x (defScope st) f cdv A outer s H E) (defBody st) (sX K (EE1 K E) [j] fb)) : FnOk P w K mg base (L2N.CX P w) (k + 1) f fd ps (spR K (EE1 K) n j (runR N.length j fb)) := by
  refine F.ok S (fun vs H Q E h => ?_) (fun cdv A outer s H vs Q E hr h => ?_)
  · obtain ⟨_, _, _, _, _, h1, _⟩ := h
    rw [h1, hn]
  · have tk : L2N.Takes (cxOf (L2N.CX P w) P w K mg base N x (defScope st) f cdv A outer s H E) (fun cls d _ H => E cls d H) := L2N.takes_of rfl rfl rfl rfl
    exact ⟨_, hb cdv A outer s H E hr tk ⟨L2N.passes_call tk fun _ _ _ _ z => z, passes_of rfl⟩, body_R (fun c H' z => z) h⟩
/-- where nothing is raised -/
theorem quiet {k : Nat} {f : Addr} {fd : FuncData} {ps : List Str} {sp sp' : L2.Sp} (h : FnOk P w K mg base (L2N.CX P w) k f fd ps sp) (hs : ∀ vs H Q E, sp' vs H Q E → sp vs H Q fun _ _ _ => False) : FnOk P w K mg base CX0 k f fd ps sp' := by
  refine ⟨fun vs H Q E hh => h.len vs H Q _ (hs vs H Q E hh), fun A outer s H args us vs Q E hr e0 hb r hsp => codeAny_mono (h.run A outer s H args us vs Q _ hr e0 hb r (hs vs H Q E hsp)) fun r s' hq => ?_⟩
  cases r with
  | error e =>
    obtain ⟨_, _, _, _, _, _, _, _, _, _, _, _, z⟩ := hq
    exact z.elim
  | ok fl => cases fl <;> exact hq
theorem okq {k n : Nat} {f : Addr} {fd : FuncData} {ps : List Str} {D : List PV → FR} (h : FnOk P w K mg base (L2N.CX P w) k f fd ps (spP K (EE1 K) n D)) : FnOk P w K mg base CX0 k f fd ps (spP K EE0 n D) := by
  refine quiet h fun vs H Q E ⟨F, as, le, rr, hn, hh⟩ => ⟨F, as, le, rr, hn, ?_⟩
  cases e : D as with
  | ok v u => rw [e] at hh; exact hh
  | exc c u => rw [e] at hh; exact fun F' H' g => (hh F' H' g).elim
  | bad => rw [e] at hh; exact hh
theorem okqR {k n j : Nat} {f : Addr} {fd : FuncData} {ps : List Str} {D : List PV → FR} (h : FnOk P w K mg base (L2N.CX P w) k f fd ps (spR K (EE1 K) n j D)) : FnOk P w K mg base CX0 k f fd ps (spR K EE0 n j D) := by
  refine quiet h fun vs H Q E ⟨F, as, a, u, le, hn, A, hh⟩ => ⟨F, as, a, u, le, hn, A, ?_⟩
  cases e : D as with
  | ok v u => rw [e] at hh; exact hh
  | exc c u => rw [e] at hh; exact fun F' H' g o => (hh F' H' g o).elim
  | bad => rw [e] at hh; exact hh
end
section
variable {X : Cx} {E : XK} {J : List Nat}
theorem ds_raise {c : Nat} {x m : Str} {j : Nat} {p p2 pos pos' : Pos} (tk : L2N.Takes X (fun cls d _ H => E cls d H)) (hc : X.calm = true) (hx : excN[c]? = some x) (q : PySem.W.excIn X.K (He.ga X.K x) He.veBase "ValueError.__new__" = true) (gC : X.mg x = some (.ref (He.ga X.K x)))
    (kC : PySem.W.keepIn X.K (.ref (He.ga X.K x)) = true) (r : Raises X (.ref (He.ga X.K x))) (hg : Gl X x) (hdb : (x == ("__debug__" : Str)) = false := by decide) :
    PS X (.Raise (some (.Call (.Name x p) [.Constant (.str m) j p2] [] pos)) none pos') (sX X.K (EE1 X.K E) J (raiseM c)) := by
  refine ps_weak (L2N.ps_raise hc tk (L2N.pmk_own PySem.F.excBase_ValueError q gC kC r hg hdb)) fun D σ H ⟨F, ρ, hr, h⟩ => ?_
  have h2 := (h F σ H (Step.refl hr) Keep.refl).2
  have e : excA X.K c = He.ga X.K x := by
    unfold excA
    rw [List.getD_eq_getElem?_getD, hx]; rfl
  rw [e] at h2
  exact h2
end
structure FnX (P : Program) (w : World) (K : PySem.W.Frag) (mg : Str → Option Value) (base : Heap) (k : Nat) (f : Addr) (fd : FuncData) (ps : List Str) (sp : Addr × Obj → L2.Sp) : Prop where
  len : ∀ p vs H Q E, sp p vs H Q E → vs.length = ps.length
  run : ∀ (A : Around) (outer : List PySem.Env) (s : Shared) (H : Hp) (args : Args) (us : List Value) (vs : List V) (Q : VK) (E : XK) (p : Addr × Obj), L2H.RoomH k A → L2H.Hot1 A p → L2H.PinOk outer H s p → Env0 P w K mg base A outer s H → BindsTo s fd args (ps.zip us) → Vals vs us → sp p vs H Q E →
    codeAny (model P w) A (.call (.ref f) args) (CR CX0 outer P w H s Q E) s
theorem fnX_of {P : Program} {w : World} {K : PySem.W.Frag} {mg : Str → Option Value} {base : Heap} {k : Nat} {f : Addr} {name qual : Str} {params : Arguments} {body : List Stmt} {scope : Scope} {dvs : List V} {kws : List (Str × V)} {fd : FuncData}
    {N ps : List Str} {sp : Addr × Obj → L2.Sp} (F : FunD K name qual params body scope dvs kws f fd) (S : FnScope N ps scope)
    (len : ∀ p vs H Q E, sp p vs H Q E → vs.length = ps.length)
    (hbody : ∀ (cdv : Value) (A : Around) (outer : List PySem.Env) (s : Shared) (H : Hp) (vs : List V) (Q : VK) (E : XK) (p : Addr × Obj), L2H.Hot1 A p → L2H.RoomH k (A.deeper (envOfC qual scope s.heap.objs.size f cdv)) → sp p vs H Q E →
      ∃ t, PSs (L2H.cxH CX0 P w K mg base N qual scope f cdv A outer s H E p).nox body t ∧ t { nx := fun _ H' => Q .non H', rt := Q } (L2.start N vs) H) :
    FnX P w K mg base (k + 1) f fd ps sp := by
  obtain ⟨oc, od, dV, kV, doc, pm, an, cdv, ct, osl, rfl, lk, hcd, _, _⟩ := F.ex
  refine ⟨len, fun A outer s H args us vs Q E p hr hot hpin e0 hb r hsp => ?_⟩
  have hl := len _ _ _ _ _ hsp
  have KX : K.In s.heap := e0.mod.kin.keeps fun b o e => (e0.bs b o e).1
  have lim : s.heap.NoLimit := e0.mod.nolimit.keeps fun b o e => (e0.bs b o e).1
  have hkind : ∀ y ∈ ps.zip us, scope.names.lookup y.1 = some .local ∨ (scope.names.lookup y.1 = some .cell ∧ ((cellsFrom (s.heap.objs.size + 1) scope.names []).lookup y.1).isSome = true) := fun ⟨n, v⟩ hy => by
    rcases S.par n (List.of_mem_zip hy).1 with q | q
    · exact .inl q
    · exact .inr ⟨q, PySem.W.cellsFrom_some _ _ _ (.inl q)⟩
  refine codeAny_call_function hr.depth (KX _ _ lk) rfl S.co S.gen rfl (PySem.W.codeRec_of KX hcd) (hb _ _ _ _ ?_)
  refine wpAny_newFunctionEnv_cells S.kind hkind fun env he s1 x => ?_
  subst he
  refine ⟨lim.keeps x.toInCall.keep, codeAny_func ?_⟩
  obtain ⟨t, ht, hq⟩ := hbody cdv A outer s H vs Q E p hot (hr.deeper _) hsp
  have I : Inv (L2H.cxH CX0 P w K mg base N qual scope f cdv A outer s H E p) [] (L2.start N vs) H s1 := L2H.inv_startH S hpin e0 hl r x
  refine wpAny_mono (ht.nox.run [] s1 (L2.start N vs) H _ I hq) (fun fl s' hs => ?_) fun e s' hs => hs
  have fin : ∀ {σ' : St} {H' : Hp} {v : V} {u : Value}, Inv (L2H.cxH CX0 P w K mg base N qual scope f cdv A outer s H E p) [] σ' H' s' → RelV v u → Q v H' → CE outer P w H s Q u s' :=
    fun {σ' H' v u} J rv q => ⟨v, H', J.os, J.bare, J.base, J.hok, rv, q⟩
  cases fl with
  | ret u =>
    obtain ⟨v, σ', H', J, rv, q⟩ := hs
    exact fin J rv q
  | next =>
    obtain ⟨σ', H', J, q⟩ := hs
    exact fin (v := V.non) (u := Value.none) J rfl q
  | brk =>
    obtain ⟨_, _, _, q⟩ := hs
    exact False.elim q
  | cont =>
    obtain ⟨_, _, _, q⟩ := hs
    exact False.elim q
theorem run_fnX {X : Cx} {k : Nat} {f : Addr} {fd : FuncData} {ps : List Str} {sp : Addr × Obj → L2.Sp} {E : XK} {p : Addr × Obj} {pins : List (Addr × Obj)} {σ : St} {H : Hp} {s : Shared} {Q : VK} {us : List Value} {vs : List V} (F : FnX X.prog X.w X.K X.mg X.base k f fd ps sp) (hr : L2H.RoomH k X.A) (hot : L2H.Hot1 X.A p) (hp : p ∈ X.pn) (hb : Binds X.K fd ps [])
    (I : Inv X pins σ H s) (r : Vals vs us) (h : sp p vs H Q E) : wpAny (model X.prog X.w) X.A (call (.ref f) us) (EP X pins σ Q) X.xe s := by
  have hl : us.length = ps.length := by rw [← r.length]; exact F.len _ _ _ _ _ h
  have b := hb s us I.kIn (by rw [List.append_nil]; exact hl)
  rw [List.append_nil] at b
  have P1 := I.pin p (List.mem_append_left _ hp)
  have hpin : L2H.PinOk X.stack H s p := ⟨P1.1, P1.2.1, fun hm => (List.mem_cons.mp (I.stkSub p.1 hm)).elim P1.2.2.1 P1.2.2.2.1, P1.2.2.2.2⟩
  refine wpAny_call (codeAny_mono (F.run X.A X.stack s H ⟨us, []⟩ us vs Q E p hr hot hpin I.env0 b r h) fun r s' hq => ?_)
  cases r with
  | error e => exact hq.elim
  | ok fl =>
    cases fl with
    | ret u => exact I.after hq
    | next => exact False.elim hq
    | brk => exact False.elim hq
    | cont => exact False.elim hq
/-- the promise of such a def: p's class by its number -/
def spW (K : PySem.W.Frag) (p : Addr × Obj) : L2.Sp := fun vs H Q _ => ∃ (c : Nat) (F : Hp), c < 16 ∧ p.2.cls = .ref (excA K c) ∧ p.2.dict = none ∧ vs = [.ref p.1] ∧ Same F H ∧ ∀ w F' H', Grow F H F' H' → Rep K F' w (whichV c) → Q w H'
section
variable {X : Cx} {E : XK} {J : List Nat}
/-- what the suite asks -/
def tsW (K : PySem.W.Frag) (i : Nat) (a : Addr) (cls : Value) (d : Option Addr) : TS := fun D σ H => ∃ (c : Nat) (F : Hp), c < 16 ∧ cls = .ref (excA K c) ∧ d = none ∧ σ[i]? = some (some (.ref a)) ∧ Same F H ∧ ∀ w F' H', Grow F H F' H' → Rep K F' w (whichV c) → D.rt w H'
theorem which_suite {i k : Nat} {f : Addr} {fd : FuncData} {ps : List Str} {wh n : Str} {q1 q2 q3 q4 : Pos} (hr : Room k X.A) (F : FnX X.prog X.w X.K X.mg X.base k f fd ps (spW X.K)) (hg : Gl X wh) (hm : X.mg wh = some (.ref f)) (hk : PySem.W.keepIn X.K (.ref f) = true) (hb : Binds X.K fd ps [])
    {a : Addr} {oe : Obj} {cls : Value} {d : Option Addr} {pn : List (Addr × Obj)} (hz : L2N.Zn cls d oe) (hf : ∃ vs, oe.data = .fields vs) (hv : PE (X.suite a ((a, oe) :: pn)) (.Name n q2) (tVar i)) (hdb : (wh == ("__debug__" : Str)) = false := by decide) :
    PSs (X.suite a ((a, oe) :: pn)) [.Return (some (.Call (.Name wh q1) [.Name n q2] [] q3)) q4] (tsW X.K i a cls d) := by
  have pe : PE (X.suite a ((a, oe) :: pn)) (.Call (.Name wh q1) [.Name n q2] [] q3) (fun σ H Q => tCons (tVar i) tNil σ H fun vs H1 => spW X.K (a, oe) vs H1 Q fun _ _ _ => False) := by
    refine ⟨fun pins s σ H Q I h => ?_⟩
    refine wpAny_Call_Name_kw (ld_glob I hg hm ?_ hdb)
    refine PySem.W.callWith_K (h₀ := X.base) I.ok.mod.kin hk (thn ((pa_cons hv pa_nil).run q3 pins s σ H _ I h) fun us s1 ⟨vs, H1, I1, r, q⟩ => ⟨I1.kIn, ?_⟩)
    obtain ⟨vs0, hd0⟩ := hf
    exact run_fnX (p := (a, oe)) F ⟨hr.dp, hr.un⟩ ⟨rfl, vs0, hd0, hz.2.2 vs0 hd0⟩ List.mem_cons_self hb I1 r q
  refine pss_weak (pss_one (ps_ret pe)) fun D σ H ⟨c, F, hc, hcls, hd, hs, le, q⟩ => ?_
  refine ⟨.ref a, hs, ?_⟩
  exact ⟨c, F, hc, hz.1.trans hcls, hz.2.1.trans hd, rfl, le, q⟩
/-- try: .. except CodeError as e: return which(e) -/
theorem ds_try {i k : Nat} {f : Addr} {fd : FuncData} {ps : List Str} {wh n x : Str} {np pos pos' q1 q2 q3 q4 : Pos} {body : List Stmt} {fb : M Out} (hs : X.stack = X.env :: X.outer) (hf : X.env.frame = some X.env.locals) (hN : X.N.Nodup) (hi : X.N[i]? = some n) (hln : X.env.kindOf n = some .local)
    (hc : Names X x (.ref (He.ga X.K x))) (hex : ∀ c, c < 16 → PySem.W.exmOne X.K (.ref (excA X.K c)) (.ref (He.ga X.K x)) = some true)
    (hr : Room k X.A) (F : FnX X.prog X.w X.K X.mg X.base k f fd ps (spW X.K)) (hg : Gl X wh) (hm : X.mg wh = some (.ref f)) (hk : PySem.W.keepIn X.K (.ref f) = true) (hb : Binds X.K fd ps [])
    (hv : ∀ (a : Addr) (oe : Obj) (pn : List (Addr × Obj)), PE (X.suite a ((a, oe) :: pn)) (.Name n q2) (tVar i))
    (hbd : ∀ (pn : List (Addr × Obj)) (xe : Value → Shared → Prop) (E' : XK), Tak (X.tr pn xe) E' → PSs (X.tr pn xe) body (sX X.K (EE1 X.K E') J fb)) (hdb : (wh == ("__debug__" : Str)) = false := by decide) :
    PS X (.Try body [.ExceptHandler (some (.Name x np)) (some n) [.Return (some (.Call (.Name wh q1) [.Name n q2] [] q3)) q4] pos'] [] [] pos) (sX X.K (EE1 X.K E) J (tryM fb)) := by
  refine ps_weak (L2N.ps_try_as (tb := fun W => sX X.K (EE1 X.K fun cls d H => ∀ σ : St, σ.length = X.N.length → W cls d σ H) J fb) (ts := tsW X.K i) (Wout := fun _ _ _ _ => False) hs hf hN hi hln hc (fun u s' ⟨_, _, _, _, _, _, _, _, _, _, _, _, _, _, _, _, z⟩ => z.elim)
    (fun W pn xe tk po => hbd pn xe _ ⟨fun pins σ H s e s' I c => tk e s' (L2N.XE.of_call I (fun cls d H' h => h σ I.len) c), po⟩)
    (fun a oe cls d pn hz hfl => which_suite hr F hg hm hk hb hz hfl (hv a oe pn) hdb)) fun D σ H ⟨F0, ρ, hre, h⟩ => ⟨F0, ρ, hre, ?_⟩
  unfold tryM at h
  cases e : fb ρ with
  | bad => rw [e] at h; exact h
  | ok o r => rw [e] at h; cases o <;> exact h
  | exc c r =>
    rw [e] at h
    by_cases hc16 : c < 16
    · simp only [if_pos hc16] at h
      intro F' σ' H' st kp
      refine ⟨hc16, fun σ2 hl => ⟨true, hex c hc16, fun _ a na => ?_, fun z => nomatch z⟩⟩
      refine ⟨c, F', hc16, rfl, rfl, ?_, st.re.le, fun w F2 H2 g rp => h w F2 σ' H2 (st.trans (g.step st.re)) kp rp⟩
      rw [List.getElem?_set_self]
      rw [hl]
      exact (List.getElem?_eq_some_iff.mp hi).1
    · simp only [if_neg hc16] at h
end
def isE (i : Nat) (a : Nat) (b : Bool) : M PV := fun ρ => match ρ[i]? with
  | some (some (.val (.ref a'))) => if a' = a then .ok (.bl b) ρ else .bad
  | _ => .bad
theorem call_isE2 {X : Cx} {p : Addr × Obj} {D : Addr} (hp : p ∈ X.pn) (C : ExcC X.K D) (hz : Zc (.ref D) none p.2) (hf : ∃ vs, p.2.data = .fields vs) : CallR X (.builtin "isinstance") (rIsE X.K D p.1) := by
  obtain ⟨a, oe⟩ := p
  intro pins s σ H xs us Q I r h
  obtain ⟨c, cv, b, rfl, hcv, e, q⟩ := h
  cases r with
  | cons rx rr =>
    cases rr with
    | cons rt rr =>
      cases rr
      cases rx
      have ec := hcv _ rt
      subst ec
      obtain ⟨hget, _⟩ := I.pin (a, oe) (List.mem_append.mpr (.inl hp))
      obtain ⟨vs, hv⟩ := hf
      have J : PySem.W.InstAt s.heap a oe D none := by
        obtain ⟨oc, od, oda, osl⟩ := oe
        obtain ⟨h1, h2⟩ := hz
        dsimp only at h1 h2 hv
        subst h1 h2 hv
        exact ⟨hget, rfl, rfl, trivial⟩
      exact PySem.W.kia_one (PySem.W.handS_kitx_exc C.hg C.hk C.hs C.hd C.ha C.hn C.ht C.hm) I.kIn J e (fun z => nomatch z) fun tk => ⟨.bl b, H, I.kept (t' := tk) fun _ _ z => z, rfl, q⟩
section
variable {X : Cx} {Ex : Nat → Hp → Prop} {e : Expr} {pos p p2 : Pos} {n : Str} {i : Nat} {b : Bool} {pp : Addr × Obj} {D : Addr}
theorem x_isE {K : PySem.W.Frag} {i : Nat} {a : Addr} {b : Bool} {σ : St} {H : Hp} {Q : VK} (h : tX K Ex (isE i a b) σ H Q) : σ[i]? = some (some (.ref a)) ∧ Q (.bl b) H := by
  obtain ⟨F, ρ, hr, h⟩ := h
  unfold isE at h
  cases e : ρ[i]? with
  | none => rw [e] at h; exact h.elim
  | some o =>
    rw [e] at h
    cases o with
    | none => exact h.elim
    | some s =>
      cases s with
      | own v => exact h.elim
      | val v =>
        cases v <;> first | exact h.elim | skip
        rename_i a'
        by_cases ea : a' = a
        · simp only [if_pos ea] at h
          subst ea
          obtain ⟨w, h1, h2⟩ := hr.val i _ e
          cases h2
          exact ⟨h1, h _ F H (Step.refl hr) (.bl _)⟩
        · simp only [if_neg ea] at h
theorem dx_isE (hp : pp ∈ X.pn) (C : ExcC X.K D) (hz : Zc (.ref D) none pp.2) (hf : ∃ vs, pp.2.data = .fields vs) {c : V} {cv : Value} (hcv : ∀ u, RelV c u → u = cv) (hkit : PySem.W.kitOne X.K (.ref D) cv = some b)
    (hg : Gl X "isinstance") (hm : X.mg "isinstance" = none) (hT : PE X (.Name n p2) (fun σ H Q => Q c H)) (he : PE X e (tVar i))
    (hs1 : starEach [e, .Name n p2] X.env = (false, eval e X.env) :: starEach [.Name n p2] X.env := by rfl) (hs2 : starEach [.Name n p2] X.env = (false, eval (.Name n p2) X.env) :: starEach [] X.env := by rfl) (hpl : (backTo pos (starEach [.Name n p2] X.env)).any (·.1) = false := by rfl) :
    PE X (.Call (.Name "isinstance" p) [e, .Name n p2] [] pos) (tX X.K Ex (isE i pp.1 b)) := by
  refine pe_weak (pe_callB (call_isE2 hp C hz hf) hg hm (by decide +kernel) (pa_cons he (pa_cons hT pa_nil hs2) hs1) (by decide) (by decide) hs1 hpl) fun σ H Q h => ?_
  obtain ⟨h1, h2⟩ := x_isE h
  exact ⟨_, h1, _, _, _, rfl, hcv, hkit, h2⟩
end
def isL : PV → Option Unit
  | .lst _ => some ()
  | _ => none
def methL (g : PV → List PV → Option PV) (f : M Tk) (fa : M (List Tk)) : M PV := bnd f fun t => bnd (force t) fun a => bnd (lft (isL a)) fun _ => bnd fa fun ts => bnd (force t) fun b => bnd (forces ts) fun as => lft (g b as)
def cntP (a : PV) : List PV → Nat
  | [] => 0
  | x :: r => if eqv x a then cntP a r + 1 else cntP a r
def idxP (a : PV) : List PV → Option Nat
  | [] => none
  | x :: r => if eqv x a then some 0 else (idxP a r).map (· + 1)
def cntL : PV → PV → Option PV
  | .lst xs, a => if dp 0 a && xs.all (dp 0) then some (.int (cntP a xs : Nat)) else none
  | _, _ => none
def idxL : PV → PV → Option PV
  | .lst xs, a => if dp 0 a && xs.all (dp 0) then (idxP a xs).map fun i => .int (i : Nat) else none
  | _, _ => none
section
variable {X : Cx} {K : PySem.W.Frag} {F H : Hp}
def rCntF (K : PySem.W.Frag) : V → List V → Hp → VK → Prop := fun x xs H Q => ∃ (a : Addr) (ys : List V) (y : V), x = V.ref a ∧ xs = [y] ∧ SqL K H a ys ∧ flatV y = true ∧ ys.all flatV = true ∧ Q (.int ((ys.countP fun z => L2.eqV z y : Nat) : Int)) H
theorem countP_vals {y : V} : ∀ {ys : List V} {its : List Value}, Vals ys its → ys.all flatV = true → its.countP (eqU y) = ys.countP fun z => L2.eqV z y
  | _, _, .nil, _ => rfl
  | _, _, .cons (a := v) (b := u) r t, h => by
    rw [List.all_cons, Bool.and_eq_true] at h
    rw [List.countP_cons, List.countP_cons, countP_vals t h.2, eqU_of r h.1]
theorem mt_countF : MtR X "list.count" (rCntF X.K) := by
  intro pins s σ H x xs v us Q I rx rxs h
  obtain ⟨a, ys, y, rfl, rfl, hs, fy, fys, q⟩ := h
  cases rx
  cases rxs with
  | cons ry rt =>
    rename_i uy ut
    cases rt
    obtain ⟨its, rv, ⟨⟨cls, dd, data, sl⟩, n, ho, hc, hdn, hd⟩, hlen⟩ := I.list hs
    simp only at hc hd
    subst hc hd
    refine call_meets PySem.F.slot_list_count ⟨_, ho, rfl⟩ PySem.F.entry_list_count (PySem.F.args_list_count_2 _ _)
      (SeqAt.list_countAt a its.toArray n dd sl uy (eqU y)) ⟨ho, fun u' hu' => mem_eqAt ry fy rv fys u' (by simpa using hu'), ?_⟩
    have ec : its.toArray.toList.countP (eqU y) = ys.countP fun z => L2.eqV z y := countP_vals rv fys
    refine ⟨.int ((ys.countP fun z => L2.eqV z y : Nat) : Int), H, I.tok _, ⟨s.toks, ?_⟩, q⟩
    show Value.int ((its.toArray.toList.countP (eqU y) : Nat) : Int) s.toks = _
    rw [ec]
theorem cnt_rep {w : V} {a : PV} (h : Rep K F w a) (hd : dp 0 a = true) : ∀ {ws : List V} {as : List PV}, Reps K F ws as → as.all (dp 0) = true → (ws.countP fun z => L2.eqV z w) = cntP a as
  | _, _, .nil, _ => rfl
  | _, _, .cons r t, hh => by
    rw [List.all_cons, Bool.and_eq_true] at hh
    rw [List.countP_cons, cnt_rep h hd t hh.2, flat_eq r h hh.1 hd, cntP]
    split <;> simp
theorem idx_rep {w : V} {a : PV} (h : Rep K F w a) (hd : dp 0 a = true) : ∀ {ws : List V} {as : List PV} {j : Nat}, Reps K F ws as → as.all (dp 0) = true → idxP a as = some j →
    ∃ z, ws[j]? = some z ∧ L2.eqV z w = true ∧ ∀ (m : Nat) (z' : V), m < j → ws[m]? = some z' → L2.eqV z' w = false
  | _, _, _, .nil, _, e => by cases e
  | _, _, j, .cons (v := v) (vs := vs) (x := x) (xs := xs) r t, hh, e => by
    rw [List.all_cons, Bool.and_eq_true] at hh
    have fe := flat_eq r h hh.1 hd
    rw [idxP] at e
    split at e
    · rename_i hx
      cases e
      exact ⟨v, rfl, fe.trans hx, fun m z' hm => absurd hm (Nat.not_lt_zero _)⟩
    · rename_i hx
      cases e2 : idxP a xs with
      | none => rw [e2] at e; cases e
      | some i =>
        rw [e2] at e; cases e
        obtain ⟨z, h1, h2, h3⟩ := idx_rep h hd t hh.2 e2
        refine ⟨z, by simpa using h1, h2, fun m z' hm hz => ?_⟩
        cases m with
        | zero =>
          have : v = z' := by simpa using hz
          rw [← this, fe]
          simpa using hx
        | succ m => exact h3 m z' (by have hm' : m + 1 < i + 1 := hm; omega) (by simpa using hz)
theorem SRep.flat {w : V} {a : PV} (h : SRep K F H w a) (hd : dp 0 a = true) : Rep K F w a := by
  rcases h with r | ⟨_, _, _, o⟩
  · exact r
  · cases a <;> first | exact o.elim | (simp [dp] at hd)
theorem opr_cntL : OprM K (rCntF K) (on1m cntL) := by
  intro F H x xs a as v Q le sx ss e q
  obtain ⟨b, rfl, e0⟩ := on1m_some e; replace e := e0
  obtain ⟨w, rfl, sy⟩ := ss.one
  unfold cntL at e
  split at e
  · rename_i ys
    split at e
    · rename_i hd
      cases e
      rw [Bool.and_eq_true] at hd
      obtain ⟨p, vs, rfl, h1, r1⟩ := sx.lst le
      have ry := sy.flat hd.1
      refine ⟨p, vs, w, rfl, rfl, .of h1, flat_of ry hd.1, flats_of r1 hd.2, ?_⟩
      rw [cnt_rep ry hd.1 r1 hd.2]
      exact q.same le (.int _)
    · cases e
  · cases e
theorem opr_idxL : OprM K (rIndex K) (on1m idxL) := by
  intro F H x xs a as v Q le sx ss e q
  obtain ⟨b, rfl, e0⟩ := on1m_some e; replace e := e0
  obtain ⟨w, rfl, sy⟩ := ss.one
  unfold idxL at e
  split at e
  · rename_i ys
    split at e
    · rename_i hd
      rw [Bool.and_eq_true] at hd
      cases e2 : idxP b ys with
      | none => rw [e2] at e; cases e
      | some j =>
        rw [e2] at e; cases e
        obtain ⟨p, vs, rfl, h1, r1⟩ := sx.lst le
        have ry := sy.flat hd.1
        obtain ⟨z, k1, k2, k3⟩ := idx_rep ry hd.1 r1 hd.2 e2
        exact ⟨p, vs, w, j, z, rfl, rfl, .of h1, flat_of ry hd.1, flats_of r1 hd.2, k1, k2, k3, q.same le (.int _)⟩
    · cases e
  · cases e
end
section
variable {K : PySem.W.Frag} {Ex : Nat → Hp → Prop} {F H : Hp} {σ : St} {ρ : Env}
theorem x_methL {r : V → List V → Hp → VK → Prop} {g : PV → List PV → Option PV} {f : M Tk} {fa : M (List Tk)} (hg : OprM K r g) {Q : VK} (h : tX K Ex (methL g f fa) σ H Q) : tBM K "list" r (tO K Ex f) (tOA K Ex fa) σ H Q := by
  obtain ⟨F, ρ, h⟩ := h
  refine ⟨F, ρ, (At.bnd h).mono fun x H1 ⟨F1, ρ1, t, st1, r1, h1⟩ => ?_⟩
  obtain ⟨a, sa, h2⟩ := At.force h1 r1
  cases a <;> first | exact h2.2.elim | skip
  rename_i l
  obtain ⟨p, vs, ex, hp, rv⟩ := sa.lst h2.1.le
  subst ex
  refine ⟨.inl ⟨rfl, _, .of hp⟩, ?_⟩
  have h3 : At K Ex (RV K) F1 ρ1 (G7.bnd fa fun ts => G7.bnd (force t) fun b => G7.bnd (forces ts) fun as => G7.lft (g b as)) σ H1 Q := h2
  refine ⟨F1, ρ1, (At.bnd h3).mono fun y H2 ⟨F2, ρ2, u, st2, r2, h4⟩ => ?_⟩
  obtain ⟨b, sb, h5⟩ := At.force h4 (RT.mono st2.le r1)
  obtain ⟨as, ss, h6⟩ := At.forces h5 r2
  obtain ⟨v, e, q⟩ := At.lft h6
  exact hg F2 H2 _ y b as v Q h6.1.le sb ss e (At.fin h6.1 q)
end
section
variable {X : Cx} {Ex : Nat → Hp → Prop} {e o : Expr} {es : List Expr} {f : M Tk} {fa : M (List Tk)}
theorem dx_methL {name : Str} {id : String} {apos cpos : Pos} {r : V → List V → Hp → VK → Prop} {g : PV → List PV → Option PV} (slot : Slot "list" name id) (hty : typeOf (.builtin id) = pure (.type "method_descriptor")) (hm : MtR X id r) (hgg : OprM X.K r g) (ho : PE X o (tO X.K Ex f)) (ha : PA X (e :: es) (tOA X.K Ex fa))
    (hbase : attributeBase o name X.env (eval o X.env) = eval o X.env := by rfl)
    (hfew : ((backTo cpos (starEach (e :: es) X.env)).all (fun x => !x.1) && (backToKw cpos (keywordEach [] X.env)).all (fun x => x.1.isSome)
      && decide ((e :: es).length + ([] : List Keyword).length + (if ([] : List Keyword).isEmpty then 0 else 1) < 30)) = true := by rfl)
    (hline : (apos.endLine == cpos.line) = true := by rfl) (hs : starEach (e :: es) X.env = (false, eval e X.env) :: starEach es X.env := by rfl) (hplain : (backTo cpos (starEach es X.env)).any (·.1) = false := by rfl) :
    PE X (.Call (.Attribute o name apos) (e :: es) [] cpos) (tX X.K Ex (methL g f fa)) :=
  pe_weak (pe_bm PySem.F.plainAttrs_list slot hty hm ho ha hbase hfew hline hs hplain) fun _ _ _ => x_methL hgg
end
section
variable {P : Program} {w : World} {K : PySem.W.Frag} {mg : Str → Option Value} {base : Heap}
theorem okWh {x : Str} {st : Stmt} {f : Addr} {fd : FuncData} {N : List Str} {k : Nat} {fb : Nat → Nat → M Out} (F : FnP K x st f fd) (S : FnScope N ["e"] (defScope st)) (hv : ∀ a c, c < 16 → runP N.length (fb a c) [.ref a] = .ok (whichV c) .non)
    (hb : ∀ (cdv : Value) (A : Around) (outer : List PySem.Env) (s : Shared) (H : Hp) (E : XK) (p : Addr × Obj) (c : Nat), (∃ vs, p.2.data = .fields vs) → c < 16 → Zc (.ref (excA K c)) none p.2 → L2H.RoomH k (A.deeper (envOfC x (defScope st) s.heap.objs.size f cdv)) →
      PSs (L2H.cxH CX0 P w K mg base N x (defScope st) f cdv A outer s H E p).nox (defBody st) (sX K Ex0 [] (fb p.1 c))) : FnX P w K mg base (k + 1) f fd ["e"] (spW K) := by
  refine fnX_of F S (fun p vs H Q E h => ?_) (fun cdv A outer s H vs Q E p hot hr h => ?_)
  · obtain ⟨c, F0, _, _, _, rfl, _⟩ := h
    rfl
  · obtain ⟨c, F0, hc, hcls, hd, rfl, le, q⟩ := h
    obtain ⟨_, vs0, hd0, _⟩ := hot
    refine ⟨_, hb cdv A outer s H E p c ⟨vs0, hd0⟩ hc ⟨hcls, hd⟩ hr, body_P (EE := EE0) (n := 1) (E := E) (fun _ _ z => z) ⟨F0, [.ref p.1], le, .cons (.ref _) .nil, rfl, ?_⟩⟩
    rw [hv _ _ hc]
    exact q
end
def excB1 (K : PySem.W.Frag) (c : Nat) : Bool :=
  decide (PySem.W.exmOne K (.ref (excA K c)) (.ref (He.ga K "CodeError")) = some true) && (He.eqO (PySem.W.findIn K (.ref (excA K c)) "__getattribute__") (some (some (.builtin "BaseException.__getattribute__"))) &&
  (He.eqO (PySem.W.findIn K (.ref (excA K c)) "__getattr__") (some none) && (decide (PySem.W.subIn K (.ref (excA K c)) (.type "BaseException") = some true) && (PySem.W.hasDictIn K (excA K c) &&
  (He.eqO (PySem.W.findIn K (.ref (excA K c)) "__class__") (some (some (.builtin "object.__class__"))) && (He.eqO (PySem.W.specialIn K (.builtin "object.__class__") "__get__") (some (some (.builtin "getset_descriptor.__get__"))) &&
  (decide (PySem.W.takesIn K (.builtin "object.__class__") = some true) && (decide (PySem.W.mroIn K (excA K c) (.type "object") = some true) && (decide (PySem.W.kitOne K (.ref (excA K c)) (.type "ValueError") = some true) &&
  (List.range 16).all fun d => decide (PySem.W.kitOne K (.ref (excA K c)) (.ref (excA K d)) = some (c == d)))))))))))
def excB (K : PySem.W.Frag) : Bool := (List.range 16).all fun c => excB1 K c
theorem excB_ok {K : PySem.W.Frag} (h : excB K = true) : (∀ c, c < 16 → PySem.W.exmOne K (.ref (excA K c)) (.ref (He.ga K "CodeError")) = some true) ∧ (∀ c, c < 16 → ExcC K (excA K c)) ∧
    (∀ c d, c < 16 → d < 16 → PySem.W.kitOne K (.ref (excA K c)) (.ref (excA K d)) = some (c == d)) ∧ (∀ c, c < 16 → PySem.W.kitOne K (.ref (excA K c)) (.type "ValueError") = some true) := by
  have h1 : ∀ c, c < 16 → excB1 K c = true := fun c hc => List.all_eq_true.mp h c (List.mem_range.mpr hc)
  refine ⟨fun c hc => ?_, fun c hc => ?_, fun c d hc hd => ?_, fun c hc => ?_⟩ <;>
    (have q := h1 c hc
     unfold excB1 at q
     obtain ⟨q1, q⟩ := He.ba q
     obtain ⟨q2, q⟩ := He.ba q
     obtain ⟨q3, q⟩ := He.ba q
     obtain ⟨q4, q⟩ := He.ba q
     obtain ⟨q5, q⟩ := He.ba q
     obtain ⟨q6, q⟩ := He.ba q
     obtain ⟨q7, q⟩ := He.ba q
     obtain ⟨q8, q⟩ := He.ba q
     obtain ⟨q9, q⟩ := He.ba q
     obtain ⟨q10, q11⟩ := He.ba q)
  · exact of_decide_eq_true q1
  · exact ⟨He.eqO_ok q2, He.eqO_ok q3, of_decide_eq_true q4, q5, He.eqO_ok q6, He.eqO_ok q7, of_decide_eq_true q8, of_decide_eq_true q9⟩
  · exact of_decide_eq_true (List.all_eq_true.mp q11 d (List.mem_range.mpr hd))
  · exact of_decide_eq_true q10
section
variable {r : Env}
@[simp ↓] theorem e_isE (i a : Nat) (b : Bool) : isE i a b r = match r[i]? with | some (some (.val (.ref a'))) => if a' = a then .ok (.bl b) r else .bad | _ => .bad := (rfl)
@[simp ↓] theorem e_methL (g : PV → List PV → Option PV) (f : M Tk) (fa : M (List Tk)) : methL g f fa r = (bnd f fun t => bnd (force t) fun a => bnd (lft (isL a)) fun _ => bnd fa fun ts => bnd (force t) fun b => bnd (forces ts) fun as => lft (g b as)) r := (rfl)
@[simp] theorem e_isL (l : List PV) : isL (.lst l) = some () := (rfl)
@[simp ↓] theorem e_raiseM (c : Nat) : raiseM c r = .exc c r := (rfl)
end
def whichB (a c : Nat) : M Out := (seqM (setO 1 (bnd (cns (isE 0 a (c == 0)) (cns (isE 0 a (c == 1)) (cns (isE 0 a (c == 2)) nil))) fun as => lft (lstV as)))
  (seqM (extM 1 (bnd (cns (isE 0 a (c == 3)) (cns (isE 0 a (c == 4)) (cns (isE 0 a (c == 5)) nil))) fun as => lft (lstV as)))
  (seqM (extM 1 (bnd (cns (isE 0 a (c == 6)) (cns (isE 0 a (c == 7)) (cns (isE 0 a (c == 8)) nil))) fun as => lft (lstV as)))
  (seqM (extM 1 (bnd (cns (isE 0 a (c == 9)) (cns (isE 0 a (c == 10)) (cns (isE 0 a (c == 11)) nil))) fun as => lft (lstV as)))
  (seqM (extM 1 (bnd (cns (isE 0 a (c == 12)) (cns (isE 0 a (c == 13)) (cns (isE 0 a (c == 14)) nil))) fun as => lft (lstV as)))
  (seqM (appM 1 (isE 0 a (c == 15)))
  (seqM (ifX (orT (tst (op2 neV (sv (methL (on1m cntL) (tkv 1) (cns (sv (ret (.bl true))) nil))) (sv (ret (.int 1))))) (notT (tst (isE 0 a true)))) (retM (bnd (cns (ret (.str [114, 97, 105, 115, 101, 100])) (cns (op1 negV (sv (ret (.int 1)))) nil)) fun as => lft (tupV as))) skipM)
  (retM (bnd (cns (ret (.str [114, 97, 105, 115, 101, 100])) (cns (methL (on1m idxL) (tkv 1) (cns (sv (ret (.bl true))) nil)) nil)) fun as => lft (tupV as))))))))))
theorem which_val (a c : Nat) (hc : c < 16) : runP 2 (whichB a c) [.ref a] = .ok (whichV c) .non := by
  have : c = 0 ∨ c = 1 ∨ c = 2 ∨ c = 3 ∨ c = 4 ∨ c = 5 ∨ c = 6 ∨ c = 7 ∨ c = 8 ∨ c = 9 ∨ c = 10 ∨ c = 11 ∨ c = 12 ∨ c = 13 ∨ c = 14 ∨ c = 15 := by omega
  rcases this with rfl | rfl | rfl | rfl | rfl | rfl | rfl | rfl | rfl | rfl | rfl | rfl | rfl | rfl | rfl | rfl <;>
    simp [runP, whichB, whichV, seqM, setO, envP, extM, appM, ownL, putL, lstV, tupV, retM, skipM, cntL, idxL, cntP, idxP, neV, eqv, dp, on1m, negV, b2i]
theorem huH {k : Nat} {A : Around} (h : L2H.RoomH k A) : A.units + 64 < cLine := by have := h.un; omega
end G7

set_option Elab.async false
set_option linter.all false
set_option maxRecDepth 100000
set_option autoImplicit false
namespace G7
theorem eqvs_self {n : Nat} (h : ∀ x, dp n x = true → eqv x x = true) : ∀ xs : List PV, xs.all (dp n) = true → eqvs xs xs = true
  | [], _ => rfl
  | x :: xs, k => by
    rw [List.all_cons, Bool.and_eq_true] at k
    show (eqv x x && eqvs xs xs) = true
    rw [h x k.1, eqvs_self h xs k.2]; rfl
theorem eqv_self : ∀ (n : Nat) (x : PV), dp n x = true → eqv x x = true
  | n, .non, _ => rfl
  | n, .bl b, _ => by show (b == b) = true; simp
  | n, .int i, _ => by show (i == i) = true; simp
  | n, .str i, _ => by show (i == i) = true; simp
  | n + 1, .lst xs, h => eqvs_self (eqv_self n) xs h
  | n + 1, .tup xs, h => eqvs_self (eqv_self n) xs h
  | n, .scr ns, h => by show (ns == ns) = true; simp
  | 0, .lst xs, h => by cases h
  | 0, .tup xs, h => by cases h
  | 0, .dct xs, h => by cases h
  | _ + 1, .dct xs, h => by cases h
  | 0, .ref xs, h => by cases h
  | _ + 1, .ref xs, h => by cases h
theorem eqV_self {x : PV} (h : dp 60 x = true) : eqV x x = some (.bl true) := by unfold eqV; rw [h, eqv_self 60 x h]; rfl
theorem neV_self {x : PV} (h : dp 60 x = true) : neV x x = some (.bl false) := by unfold neV; rw [h, eqv_self 60 x h]; rfl
theorem dp_map {α : Type} (f : α → PV) (n : Nat) (l : List α) (h : ∀ x, dp n (f x) = true) : (l.map f).all (dp n) = true := by
  rw [List.all_eq_true]
  intro x hx
  obtain ⟨w, _, rfl⟩ := List.mem_map.mp hx
  exact h w
theorem dp_tupm {α : Type} (f : α → PV) (n : Nat) (l : List α) (h : ∀ x, dp n (f x) = true) : dp (n + 1) (.tup (l.map f)) = true := dp_map f n l h
theorem dp_lstm {α : Type} (f : α → PV) (n : Nat) (l : List α) (h : ∀ x, dp n (f x) = true) : dp (n + 1) (.lst (l.map f)) = true := dp_map f n l h
theorem sumI_add : ∀ (l : List Nat) (f g : Nat → Int), sumI (l.map fun i => f i + g i) = sumI (l.map f) + sumI (l.map g)
  | [], _, _ => rfl
  | x :: l, f, g => by
    show f x + g x + sumI _ = f x + sumI _ + (g x + sumI _)
    rw [sumI_add l f g]; omega
theorem sumI_zero : ∀ (l : List Nat) (f : Nat → Int), (∀ i ∈ l, f i = 0) → sumI (l.map f) = 0
  | [], _, _ => rfl
  | x :: l, f, h => by
    show f x + sumI _ = 0
    rw [h x (List.mem_cons_self ..), sumI_zero l f fun i hi => h i (List.mem_cons_of_mem _ hi)]; rfl
theorem sumI_congr {l : List Nat} {f g : Nat → Int} (h : ∀ i ∈ l, f i = g i) : sumI (l.map f) = sumI (l.map g) := by rw [List.map_congr_left h]
theorem sumI_app : ∀ (l m : List Int), sumI (l ++ m) = sumI l + sumI m
  | [], m => by show sumI m = 0 + sumI m; omega
  | x :: l, m => by show x + sumI (l ++ m) = x + sumI l + sumI m; rw [sumI_app l m]; omega
theorem sumI_pick (f : Nat → Int) (k : Nat) : ∀ n : Nat, k < n → sumI ((List.range n).map fun i => if k = i then f i else 0) = f k
  | 0, h => by omega
  | n + 1, h => by
    rw [List.range_succ, List.map_append, sumI_app]
    show _ + ((if k = n then f n else 0) + 0) = _
    by_cases e : k = n
    · subst e
      rw [sumI_zero _ _ (fun i hi => by have := List.mem_range.mp hi; rw [if_neg (by omega)]), if_pos rfl]; omega
    · rw [sumI_pick f k n (by omega), if_neg e]; omega
theorem group_wt {n : Nat} (f : Nat → Int) : ∀ {L : List Wd}, (∀ w ∈ L, wt w ≤ n) → sumI ((List.range (n + 1)).map fun i => ((cntW L i : Nat) : Int) * f i) = sumF (fun u => f (wt u)) L
  | [], _ => by
    rw [sumI_zero _ _ fun i _ => by show ((cntW [] i : Nat) : Int) * f i = 0; show ((0 : Nat) : Int) * _ = 0; simp]; rfl
  | w :: L, h => by
    have ih := group_wt f (L := L) fun w hw => h w (List.mem_cons_of_mem _ hw)
    show _ = f (wt w) + sumF _ L
    rw [← ih, ← sumI_pick f (wt w) (n + 1) (by have := h w (List.mem_cons_self ..); omega), ← sumI_add]
    refine sumI_congr fun i _ => ?_
    unfold cntW
    rw [List.filter_cons]
    by_cases e : wt w = i
    · simp [e]; rw [Int.add_mul]; omega
    · simp [e]
theorem sum_cnt {n : Nat} {L : List Wd} (h : ∀ w ∈ L, wt w ≤ n) : sumI ((List.range (n + 1)).map fun i => ((cntW L i : Nat) : Int)) = L.length := by
  have := group_wt (n := n) (fun _ => 1) h
  rw [sumF_const, Int.one_mul] at this
  rw [← this]
  exact sumI_congr fun i _ => by rw [Int.mul_one]
theorem cntW_perm {L M : List Wd} (h : L.Perm M) (j : Nat) : cntW L j = cntW M j := (h.filter _).length_eq
theorem cntW_le (L : List Wd) (j : Nat) : cntW L j ≤ L.length := List.length_filter_le _ _
theorem orth_dual {n : Nat} {bs : List Wd} (h : RedW n bs) (w : Wd) : Orth n (dualL n bs) w ↔ SpW n bs w := by
  obtain ⟨h1, h2⟩ := dual_ok h.u
  rw [← dual_dual h.u w]
  exact orth_same (RedW.all h1.u) (du_all h.u) (fun u => (h2 u).trans (du_span h.u u).symm) w
def interL (n : Nat) (as bs : List Wd) : List Wd := dualL n (redL (dualL n as ++ dualL n bs))
theorem inter_ok {n : Nat} {as bs : List Wd} (ha : RedW n as) (hb : RedW n bs) : RedW n (interL n as bs) ∧ ∀ w, SpW n (interL n as bs) w ↔ SpW n as w ∧ SpW n bs w := by
  obtain ⟨a1, a2⟩ := dual_ok ha.u
  obtain ⟨b1, b2⟩ := dual_ok hb.u
  have hall : AllW n (dualL n as ++ dualL n bs) := fun w hw => by
    rcases List.mem_append.mp hw with h | h
    · exact RedW.all a1.u w h
    · exact RedW.all b1.u w h
  obtain ⟨r1, r2⟩ := redL_ok hall
  obtain ⟨d1, d2⟩ := dual_ok r1.u
  refine ⟨d1, fun w => ?_⟩
  rw [interL, d2 w, orth_same (RedW.all r1.u) hall r2 w, ← orth_dual ha w, ← orth_dual hb w]
  constructor
  · intro h
    exact ⟨⟨h.1, fun b hb => h.2 b (List.mem_append.mpr (.inl hb))⟩, ⟨h.1, fun b hb => h.2 b (List.mem_append.mpr (.inr hb))⟩⟩
  · intro h
    exact ⟨h.1.1, fun b hb => (List.mem_append.mp hb).elim (h.1.2 b) (h.2.2 b)⟩
/-- the weights of a code, transformed: those of the dual -/
theorem macw_cnt {n : Nat} {bs : List Wd} (h : RedW n bs) {L M : List Wd} (hL : EnumL (SpW n bs) L) (hM : EnumL (Orth n bs) M) (j : Nat) :
    sumI ((List.range (n + 1)).map fun i => ((cntW L i : Nat) : Int) * kr (n - i) i j) = ((cntW M j * L.length : Nat) : Int) := by
  rw [group_wt (fun i => kr (n - i) i j) (fun w hw => wt_le ((hL.m w).mp hw).1), macw h hL hM j]
  push_cast
  exact Int.mul_comm _ _
end G7

set_option Elab.async false
set_option linter.all false
set_option maxRecDepth 100000
set_option autoImplicit false
set_option exponentiation.threshold 1000
namespace G7
section
variable {α β : Type} {r : Env}
/-- the last argument only keeps simp out of Q -/
def Wp {α : Type} (x : Res α) (Q : α → Env → Prop) (_ : ∀ a r, Q a r → Nat := fun _ _ _ => 0) : Prop := match x with | .ok a r => Q a r | _ => False
@[simp] theorem w_ok (a : α) (Q : α → Env → Prop) : Wp (.ok a r) Q = Q a r := (rfl)
@[simp] theorem w_bad (Q : α → Env → Prop) : Wp .bad Q = False := (rfl)
@[simp] theorem w_exc (c : Nat) (Q : α → Env → Prop) : Wp (.exc c r) Q = False := (rfl)
theorem Wp.get {x : Res α} {Q : α → Env → Prop} (h : Wp x Q) : ∃ a ρ, x = .ok a ρ ∧ Q a ρ := by
  cases x with
  | ok a ρ => exact ⟨a, ρ, rfl, h⟩
  | exc c ρ => exact h.elim
  | bad => exact h.elim
theorem Wp.mono {x : Res α} {Q P : α → Env → Prop} (h : Wp x Q) (k : ∀ a ρ, Q a ρ → P a ρ) : Wp x P := by
  obtain ⟨a, ρ, rfl, h⟩ := h.get
  exact k a ρ h
theorem Wp.of {x : Res α} {a : α} {ρ : Env} {Q : α → Env → Prop} (e : x = .ok a ρ) (h : Q a ρ) : Wp x Q := by rw [e]; exact h
theorem wp_ext {x : Res α} {Q P : α → Env → Prop} (h : ∀ a r, Q a r = P a r) : Wp x Q = Wp x P := by
  obtain rfl : Q = P := funext fun a => funext fun r => h a r
  rfl
@[simp ↓] theorem w_bnd (m : M α) (k : α → M β) (Q : β → Env → Prop) : Wp (bnd m k r) Q = Wp (m r) fun a r' => Wp (k a r') Q := by
  unfold bnd
  cases m r <;> rfl
@[simp ↓] theorem w_bndN (m : M Unit) (k : M β) (Q : β → Env → Prop) : Wp (bndN m k r) Q = Wp (m r) fun _ r' => Wp (k r') Q := by
  unfold bndN
  cases m r <;> rfl
def IfK (b : Bool) (A B : Prop) (_ : A → Nat := fun _ => 0) (_ : B → Nat := fun _ => 0) : Prop := if b then A else B
@[simp] theorem w_ifT (A B : Prop) : IfK true A B = A := by simp [IfK]
@[simp] theorem w_ifF (A B : Prop) : IfK false A B = B := by simp [IfK]
theorem IfK.of {b : Bool} {A B : Prop} (h1 : b = true → A) (h2 : b = false → B) : IfK b A B := by
  cases b
  · rw [w_ifF]; exact h2 rfl
  · rw [w_ifT]; exact h1 rfl
def SeqK (o : Out) (g : M Out) (Q : Out → Env → Prop) (r : Env) : Prop := match o with | .nx => Wp (g r) Q | o => Q o r
@[simp ↓] theorem w_seqN (g : M Out) (Q : Out → Env → Prop) : SeqK .nx g Q r = Wp (g r) Q := (rfl)
@[simp ↓] theorem w_seqR (v : PV) (g : M Out) (Q : Out → Env → Prop) : SeqK (.rt v) g Q r = Q (.rt v) r := (rfl)
@[simp ↓] theorem w_seqC (g : M Out) (Q : Out → Env → Prop) : SeqK .ct g Q r = Q .ct r := (rfl)
@[simp ↓] theorem w_seqB (g : M Out) (Q : Out → Env → Prop) : SeqK .bk g Q r = Q .bk r := (rfl)
def LoopK (o : Out) (A : Prop) (B : Out → Prop) : Prop := match o with | .nx => A | .ct => A | .bk => B .nx | .rt v => B (.rt v)
@[simp ↓] theorem w_loopN (A : Prop) (B : Out → Prop) : LoopK .nx A B = A := (rfl)
@[simp ↓] theorem w_loopC (A : Prop) (B : Out → Prop) : LoopK .ct A B = A := (rfl)
@[simp ↓] theorem w_loopB (A : Prop) (B : Out → Prop) : LoopK .bk A B = B .nx := (rfl)
@[simp ↓] theorem w_loopR (v : PV) (A : Prop) (B : Out → Prop) : LoopK (.rt v) A B = B (.rt v) := (rfl)
@[simp ↓] theorem w_iteB (b : Bool) (f g : M α) (Q : α → Env → Prop) : Wp ((if b then f else g) r) Q = IfK b (Wp (f r) Q) (Wp (g r) Q) := by cases b <;> simp
@[simp ↓] theorem w_op2 (g : PV → PV → Option PV) (f f2 : M Tk) (Q : PV → Env → Prop) : Wp (op2 g f f2 r) Q = Wp (f r) fun t r' => Wp ((bnd f2 fun u => bnd (force t) fun a => bnd (force u) fun b => lft (g a b)) r') Q := w_bnd _ _ _
@[simp ↓] theorem w_op1 (g : PV → Option PV) (f : M Tk) (Q : PV → Env → Prop) : Wp (op1 g f r) Q = Wp (f r) fun t r' => Wp ((bnd (force t) fun a => lft (g a)) r') Q := w_bnd _ _ _
@[simp ↓] theorem w_op3 (g : PV → PV → PV → Option PV) (f f2 f3 : M Tk) (Q : PV → Env → Prop) : Wp (op3 g f f2 f3 r) Q = Wp (f r) fun t r' => Wp ((bnd f2 fun u => bnd f3 fun v => bnd (force t) fun a => bnd (force u) fun b => bnd (force v) fun c => lft (g a b c)) r') Q := w_bnd _ _ _
@[simp ↓] theorem w_opn (g : List PV → Option PV) (f : M (List Tk)) (Q : PV → Env → Prop) : Wp (opn g f r) Q = Wp (f r) fun ts r' => Wp ((bnd (forces ts) fun as => lft (g as)) r') Q := w_bnd _ _ _
@[simp ↓] theorem w_sv (f : M PV) (Q : Tk → Env → Prop) : Wp (sv f r) Q = Wp (f r) fun a r' => Q (.v a) r' := w_bnd _ _ _
@[simp ↓] theorem w_tst (f : M PV) (Q : Bool → Env → Prop) : Wp (tst f r) Q = Wp (f r) fun v r' => Wp (lft (isB v) r') Q := w_bnd _ _ _
@[simp ↓] theorem w_andT (f g : M Bool) (Q : Bool → Env → Prop) : Wp (andT f g r) Q = Wp (f r) fun c r' => IfK c (Wp (g r') Q) (Q false r') := by
  rw [show andT f g r = bnd f (fun c => if c then g else ret false) r from rfl, w_bnd]; refine wp_ext fun c r' => ?_; rw [w_iteB]; rfl
@[simp ↓] theorem w_orT (f g : M Bool) (Q : Bool → Env → Prop) : Wp (orT f g r) Q = Wp (f r) fun c r' => IfK c (Q true r') (Wp (g r') Q) := by
  rw [show orT f g r = bnd f (fun c => if c then ret true else g) r from rfl, w_bnd]; refine wp_ext fun c r' => ?_; rw [w_iteB]; rfl
@[simp ↓] theorem w_notT (f : M Bool) (Q : Bool → Env → Prop) : Wp (notT f r) Q = Wp (f r) fun c r' => Q (!c) r' := w_bnd _ _ _
@[simp ↓] theorem w_ifX (c : M Bool) (f g : M α) (Q : α → Env → Prop) : Wp (ifX c f g r) Q = Wp (c r) fun b r' => IfK b (Wp (f r') Q) (Wp (g r') Q) := by
  rw [show ifX c f g r = bnd c (fun b => if b then f else g) r from rfl, w_bnd]; refine wp_ext fun b r' => ?_; rw [w_iteB]
@[simp ↓] theorem w_andV (f g : M PV) (Q : PV → Env → Prop) : Wp (andV f g r) Q = Wp (tst f r) fun c r' => IfK c (Wp (g r') Q) (Q (.bl false) r') := by
  rw [show andV f g r = bnd (tst f) (fun c => if c then g else ret (.bl false)) r from rfl, w_bnd]; refine wp_ext fun c r' => ?_; rw [w_iteB]; rfl
@[simp ↓] theorem w_orV (f g : M PV) (Q : PV → Env → Prop) : Wp (orV f g r) Q = Wp (tst f r) fun c r' => IfK c (Q (.bl true) r') (Wp (g r') Q) := by
  rw [show orV f g r = bnd (tst f) (fun c => if c then ret (.bl true) else g) r from rfl, w_bnd]; refine wp_ext fun c r' => ?_; rw [w_iteB]; rfl
@[simp ↓] theorem w_notV (f : M PV) (Q : PV → Env → Prop) : Wp (notV f r) Q = Wp (tst f r) fun c r' => Q (.bl !c) r' := w_bnd _ _ _
@[simp ↓] theorem w_chn (g g' : PV → PV → Option PV) (f f2 f3 : M Tk) (Q : PV → Env → Prop) : Wp (chn g g' f f2 f3 r) Q = Wp (f r) fun t r' => Wp ((bnd f2 fun u => bnd (force t) fun a => bnd (force u) fun b => bnd (tst (lft (g a b))) fun c =>
  if c then bnd f3 fun v => bnd (force u) fun b => bnd (force v) fun d => lft (g' b d) else ret (.bl false)) r') Q := w_bnd _ _ _
@[simp ↓] theorem w_cns (f : M α) (g : M (List α)) (Q : List α → Env → Prop) : Wp (cns f g r) Q = Wp (f r) fun a r' => Wp (g r') fun as r'' => Q (a :: as) r'' := by
  rw [show cns f g r = bnd f (fun a => bnd g fun as => ret (a :: as)) r from rfl, w_bnd]; refine wp_ext fun a r' => ?_; rw [w_bnd]; rfl
@[simp ↓] theorem w_methS (g : PV → List PV → Option PV) (f : M Tk) (fa : M (List Tk)) (Q : PV → Env → Prop) : Wp (methS g f fa r) Q = Wp (f r) fun t r' => Wp ((bnd (force t) fun a => bnd (lft (isS a)) fun _ => bnd fa fun ts => bnd (forces ts) fun as => lft (g a as)) r') Q := w_bnd _ _ _
@[simp ↓] theorem w_seqM (f g : M Out) (Q : Out → Env → Prop) : Wp (seqM f g r) Q = Wp (f r) fun o r' => SeqK o g Q r' := by
  rw [show seqM f g r = bnd f (fun o => match o with | .nx => g | o => ret o) r from rfl, w_bnd]; refine wp_ext fun o r' => ?_; cases o <;> rfl
@[simp ↓] theorem w_setV (i : Nat) (f : M PV) (Q : Out → Env → Prop) : Wp (setV i f r) Q = Wp (f r) fun v r' => Wp (wr i (some (.val v)) r') fun _ r'' => Q .nx r'' := w_bnd _ _ _
@[simp ↓] theorem w_setO (i : Nat) (f : M PV) (Q : Out → Env → Prop) : Wp (setO i f r) Q = Wp (f r) fun v r' => Wp (wr i (some (.own v)) r') fun _ r'' => Q .nx r'' := w_bnd _ _ _
@[simp ↓] theorem w_retM (f : M PV) (Q : Out → Env → Prop) : Wp (retM f r) Q = Wp (f r) fun v r' => Q (.rt v) r' := w_bnd _ _ _
@[simp ↓] theorem w_dropM (f : M PV) (Q : Out → Env → Prop) : Wp (dropM f r) Q = Wp (f r) fun _ r' => Q .nx r' := w_bnd _ _ _
@[simp ↓] theorem w_callP (Fn : List PV → FR) (fa : M (List PV)) (Q : PV → Env → Prop) : Wp (callP Fn fa r) Q = Wp (fa r) fun as r' => Wp (frM (Fn as) r') Q := w_bnd _ _ _
@[simp ↓] theorem w_callR (Fn : List PV → FR) (j : Nat) (fa : M (List Tk)) (Q : PV → Env → Prop) : Wp (callR Fn j fa r) Q = Wp (fa r) fun ts ρ => Wp (match slotR j ts with
  | none => .bad
  | some i => match ρ[i]? with
    | some (some (.own u)) => (match argsR u j ts with
      | none => .bad
      | some p => (match Fn p.2 with
        | .ok r u' => .ok r (ρ.set i (some (.own u')))
        | .exc c u' => .exc c (ρ.set i (some (.own u')))
        | .bad => .bad))
    | _ => .bad) Q := w_bnd _ _ _
@[simp ↓] theorem w_asgM (f : M PV) (g : PV → M Unit) (Q : Out → Env → Prop) : Wp (asgM f g r) Q = Wp (f r) fun v r' => Wp (g v r') fun _ r'' => Q .nx r'' := by
  rw [show asgM f g r = bnd f (fun v => bndN (g v) (ret .nx)) r from rfl, w_bnd]; refine wp_ext fun v r' => ?_; rw [w_bndN]; rfl
@[simp ↓] theorem w_forM (it : M (List PV)) (tg : PV → M Unit) (body : M Out) (Q : Out → Env → Prop) : Wp (forM it tg body r) Q = Wp (it r) fun xs r' => Wp (loopM tg body xs r') Q := w_bnd _ _ _
@[simp ↓] theorem w_itX (f : M PV) (Q : List PV → Env → Prop) : Wp (itX f r) Q = Wp (f r) fun v r' => Wp (lft (iterV v) r') Q := w_bnd _ _ _
@[simp ↓] theorem w_slX (f : M Tk) (lo hi : M (Option Int)) (Q : PV → Env → Prop) : Wp (slX f lo hi r) Q = Wp (f r) fun t r' => Wp ((bnd lo fun l => bnd hi fun u => bnd (force t) fun a => lft (sliceV a l u)) r') Q := w_bnd _ _ _
@[simp ↓] theorem w_prt (f : M PV) (Q : Option Int → Env → Prop) : Wp (prt f r) Q = Wp (f r) fun v r' => Wp ((match v with | .int i => ret (some i) | _ => fun _ => .bad : M (Option Int)) r') Q := w_bnd _ _ _
@[simp ↓] theorem w_appM (i : Nat) (f : M PV) (Q : Out → Env → Prop) : Wp (appM i f r) Q = Wp (ownL i r) fun _ r1 => Wp (f r1) fun v r2 => Wp (ownL i r2) fun xs r3 => xs.length < 16777216 ∧ Q .nx (r3.set i (some (.own (.lst (xs ++ [v]))))) := by
  rw [show appM i f r = bnd (ownL i) (fun _ => bnd f fun v => bnd (ownL i) fun xs => if xs.length < LINE then bnd (putL i (xs ++ [v])) fun _ => ret .nx else fun _ => .bad) r from rfl, w_bnd]
  refine wp_ext fun _ r1 => ?_; rw [w_bnd]; refine wp_ext fun v r2 => ?_; rw [w_bnd]; refine wp_ext fun xs r3 => ?_
  by_cases h : xs.length < 16777216
  · rw [if_pos h]; simp [h]; rfl
  · rw [if_neg h]; simp [h]
@[simp ↓] theorem w_extM (i : Nat) (f : M PV) (Q : Out → Env → Prop) : Wp (extM i f r) Q = Wp (ownL i r) fun _ r1 => Wp (f r1) fun v r2 => Wp (ownL i r2) fun xs r3 => ∃ ys, v = .lst ys ∧ xs.length + ys.length ≤ 16777216 ∧ Q .nx (r3.set i (some (.own (.lst (xs ++ ys))))) := by
  rw [show extM i f r = bnd (ownL i) (fun _ => bnd f fun v => bnd (ownL i) fun xs => match v with | .lst ys => if xs.length + ys.length ≤ LINE then bnd (putL i (xs ++ ys)) fun _ => ret .nx else fun _ => .bad | _ => fun _ => .bad) r from rfl, w_bnd]
  refine wp_ext fun _ r1 => ?_; rw [w_bnd]; refine wp_ext fun v r2 => ?_; rw [w_bnd]; refine wp_ext fun xs r3 => ?_
  cases v <;> try (simp; done)
  rename_i ys
  by_cases h : xs.length + ys.length ≤ 16777216
  · simp only [h, if_true]; simp [h]; rfl
  · simp only [h, if_false]; simp [h]
@[simp] theorem e_ownL (i : Nat) : ownL i r = match r[i]? with | some (some (.own (.lst xs))) => .ok xs r | _ => .bad := (rfl)
@[simp ↓] theorem w_augV (i : Nat) (g : PV → PV → Option PV) (f : M PV) (Q : Out → Env → Prop) : Wp (augV i g f r) Q = Wp (valM i r) fun a r1 => Wp (f r1) fun b r2 => Wp (lft (g a b) r2) fun v r3 => Q .nx (r3.set i (some (.val v))) := by
  rw [show augV i g f r = bnd (valM i) (fun a => bnd f fun b => bnd (lft (g a b)) fun v => bnd (wr i (some (.val v))) fun _ => ret .nx) r from rfl, w_bnd]
  refine wp_ext fun _ r1 => ?_; rw [w_bnd]; refine wp_ext fun v r2 => ?_; rw [w_bnd]; exact wp_ext fun _ _ => rfl
@[simp] theorem e_valM (i : Nat) : valM i r = match r[i]? with | some (some (.val v)) => .ok v r | _ => .bad := (rfl)
@[simp ↓] theorem w_mV (f : M PV) (Q : Md → Env → Prop) : Wp (mV f r) Q = Wp (f r) fun a r' => Q (.v a) r' := w_bnd _ _ _
@[simp ↓] theorem w_mO (f : M PV) (Q : Md → Env → Prop) : Wp (mO f r) Q = Wp (f r) fun a r' => Q (.o a) r' := w_bnd _ _ _
@[simp ↓] theorem w_parM (i j : Nat) (f : M (List Md)) (Q : Out → Env → Prop) : Wp (parM i j f r) Q = Wp (f r) fun ms ρ => Wp (match ms with
  | [m, n] => .ok .nx ((ρ.set i (some m.sl)).set j (some n.sl))
  | _ => .bad) Q := w_bnd _ _ _
@[simp ↓] theorem w_parM3 (i j k : Nat) (f : M (List Md)) (Q : Out → Env → Prop) : Wp (parM3 i j k f r) Q = Wp (f r) fun ms ρ => Wp (match ms with
  | [m, n, o] => .ok .nx (((ρ.set i (some m.sl)).set j (some n.sl)).set k (some o.sl))
  | _ => .bad) Q := w_bnd _ _ _
@[simp] theorem e_mdV (a : PV) : Md.sl (.v a) = .val a := (rfl)
@[simp] theorem e_mdO (a : PV) : Md.sl (.o a) = .own a := (rfl)
@[simp ↓] theorem w_putDM (i : Nat) (fk fv : M PV) (Q : Out → Env → Prop) : Wp (putDM i fk fv r) Q = Wp (ownD i r) fun _ r1 => Wp (fv r1) fun v r2 => Wp (fk r2) fun k r3 => Wp (ownD i r3) fun kvs r4 => (keyOk k = true ∧ kvs.length < 16777216) ∧ Q .nx (r4.set i (some (.own (.dct (putD k v kvs))))) := by
  rw [show putDM i fk fv r = bnd (ownD i) (fun _ => bnd fv fun v => bnd fk fun k => bnd (ownD i) fun kvs => if keyOk k && decide (kvs.length < LINE) then bnd (wr i (some (.own (.dct (putD k v kvs))))) fun _ => ret .nx else fun _ => .bad) r from rfl, w_bnd]
  refine wp_ext fun _ r1 => ?_; rw [w_bnd]; refine wp_ext fun v r2 => ?_; rw [w_bnd]; refine wp_ext fun k r3 => ?_; rw [w_bnd]; refine wp_ext fun kvs r4 => ?_
  rw [w_iteB]
  by_cases h : (keyOk k && decide (kvs.length < LINE)) = true
  · rw [h, w_ifT]
    have h' : keyOk k = true ∧ kvs.length < 16777216 := by simpa using h
    simp [h']
  · have h' : ¬ (keyOk k = true ∧ kvs.length < 16777216) := by simpa using h
    rw [Bool.eq_false_iff.mpr h, w_ifF]
    simp only [h', false_and]; rfl
@[simp] theorem e_ownD (i : Nat) : ownD i r = match r[i]? with | some (some (.own (.dct xs))) => .ok xs r | _ => .bad := (rfl)
end
theorem runP_of {n : Nat} {fb : M Out} {as : List PV} {v : PV} (h : Wp (fb (envP n as)) fun o _ => o = .rt v) : runP n fb as = .ok v .non := by
  obtain ⟨o, ρ, e, rfl⟩ := h.get
  rw [e_runP, e]
theorem runP_non {n : Nat} {fb : M Out} {as : List PV} (h : Wp (fb (envP n as)) fun o _ => o = .rt .non ∨ o = .nx) : runP n fb as = .ok .non .non := by
  obtain ⟨o, ρ, e, rfl | rfl⟩ := h.get <;> rw [e_runP, e]
theorem runR_of {n j : Nat} {fb : M Out} {as : List PV} {v u : PV} (h : Wp (fb (envR n j as)) fun o ρ => o = .rt v ∧ ρ[j]? = some (some (.own u))) : runR n j fb as = .ok v u := by
  obtain ⟨o, ρ, e, rfl, h2⟩ := h.get
  rw [e_runR, e]
  simp [h2]
theorem wp_rng1 {f : M (List PV)} {r : Env} {Q : List PV → Env → Prop} (n : Nat) (hn : n ≤ 16777216) (h : Wp (f r) fun as r' => as = [.int n] ∧ Q ((List.range n).map fun i => PV.int (i : Nat)) r') : Wp (rng1 f r) Q := by
  obtain ⟨as, r', e, rfl, h⟩ := h.get
  rw [rng1_ok e hn]; exact h
theorem wp_rng2 {f : M (List PV)} {r : Env} {Q : List PV → Env → Prop} (a n : Nat) (ha : a ≤ 16777216) (hn : n ≤ 16777216) (h : Wp (f r) fun as r' => as = [.int a, .int n] ∧ Q ((List.range (n - a)).map fun i => PV.int ((a + i : Nat) : Int)) r') : Wp (rng2 f r) Q := by
  obtain ⟨as, r', e, rfl, h⟩ := h.get
  have : rng2 f r = .ok ((List.range (n - a)).map fun i => PV.int ((a + i : Nat) : Int)) r' := by
    show bnd f _ r = _
    rw [e_bnd, e]
    show lft (if near 1000000000 (a : Int) && near 1000000000 (n : Int) then some (rangeL a ((n : Int) - (a : Int)).toNat) else none) r' = _
    rw [near_mk (by omega) (by omega), near_mk (by omega) (by omega), v_range, show ((n : Int) - (a : Int)).toNat = n - a by omega]
    simp
  rw [this]; exact h
theorem wp_enum {f : M (List PV)} {r : Env} {Q : List PV → Env → Prop} (xs : List PV) (h : Wp (f r) fun as r' => (∃ a, as = [a] ∧ seqV a = some xs) ∧ Q (enumL 0 xs) r') : Wp (enum1 f r) Q := by
  obtain ⟨as, r', e, ⟨a, rfl, h2⟩, h⟩ := h.get
  have : enum1 f r = .ok (enumL 0 xs) r' := by
    show bnd f _ r = _
    rw [e_bnd, e]
    show lft ((seqV a).map (enumL 0)) r' = _
    rw [h2]; rfl
  rw [this]; exact h
theorem wp_zip {f : M (List PV)} {r : Env} {Q : List PV → Env → Prop} (xs ys : List PV) (h : Wp (f r) fun as r' => (∃ a b, as = [a, b] ∧ seqV a = some xs ∧ seqV b = some ys) ∧ Q (zipL xs ys) r') : Wp (zip2 f r) Q := by
  obtain ⟨as, r', e, ⟨a, b, rfl, h2, h3⟩, h⟩ := h.get
  have : zip2 f r = .ok (zipL xs ys) r' := by
    show bnd f _ r = _
    rw [e_bnd, e]
    show lft ((seqV a).bind fun xs => (seqV b).map fun ys => zipL xs ys) r' = _
    rw [h2, h3]; rfl
  rw [this]; exact h
/-- keeps simp out -/
def Bx (P : Prop) (_ : P → Nat := fun _ => 0) : Prop := P
theorem Bx.of {P : Prop} (h : P) : Bx P := h
theorem wp_loop {α : Type} {tg : PV → M Unit} {body : M Out} {ρ : Env} {Q : Out → Env → Prop} {xs : List PV} (ys : List α) (f : α → PV) (I : Nat → Env → Prop) (hx : xs = ys.map f) (h0 : I 0 ρ)
    (hs : ∀ i y, ys[i]? = some y → ∀ ρ, I i ρ → Wp (tg (f y) ρ) fun _ ρ1 => Wp (body ρ1) fun o ρ2 => LoopK o (Bx (I (i + 1) ρ2)) fun o => Q o ρ2) (he : ∀ ρ, I ys.length ρ → Q .nx ρ) : Wp (loopM tg body xs ρ) Q := by
  have key : ∀ (zs : List α) (k : Nat) (ρ : Env), (∀ i, zs[i]? = ys[k + i]?) → k + zs.length = ys.length → I k ρ → Wp (loopM tg body (zs.map f) ρ) Q := by
    intro zs
    induction zs with
    | nil => intro k ρ _ hl hI; exact he ρ (by rw [← hl]; exact hI)
    | cons z zs ih =>
      intro k ρ hz hl hI
      show Wp (bndN (tg (f z)) (bnd body (aft (loopM tg body (zs.map f)))) ρ) Q
      rw [w_bndN]
      refine (hs k z (by rw [← Nat.add_zero k, ← hz 0]; rfl) ρ hI).mono fun _ ρ1 h => ?_
      rw [w_bnd]
      refine h.mono fun o ρ2 h => ?_
      have nxt : ∀ ρ2, I (k + 1) ρ2 → Wp (loopM tg body (zs.map f) ρ2) Q := fun ρ2 h => ih (k + 1) ρ2 (fun i => by rw [show k + 1 + i = k + (i + 1) by omega, ← hz (i + 1)]; rfl) (by simp at hl; omega) h
      cases o with
      | nx => exact nxt ρ2 h
      | ct => exact nxt ρ2 h
      | bk => exact h
      | rt v => exact h
  rw [hx]
  exact key ys 0 ρ (fun i => by rw [Nat.zero_add]) (by omega) h0
theorem wp_while {c : M Bool} {body : M Out} {ρ : Env} {Q : Out → Env → Prop} (I : Nat → Env → Prop) (k : Nat) (hk : I k ρ)
    (hs : ∀ m ρ, I m ρ → Wp (c ρ) fun b ρ1 => IfK b (Wp (body ρ1) fun o ρ2 => LoopK o (Bx (∃ m', m' < m ∧ I m' ρ2)) fun o => Q o ρ2) (Q .nx ρ1)) : ∀ n, k < n → Wp (whileM c body n ρ) Q := by
  have key : ∀ n m ρ, m < n → I m ρ → Wp (whileM c body n ρ) Q := by
    intro n
    induction n with
    | zero => intro m ρ h; omega
    | succ n ih =>
      intro m ρ hm hI
      show Wp (bnd c (fun b => if b then bnd body (aft (whileM c body n)) else ret .nx) ρ) Q
      rw [w_bnd]
      refine (hs m ρ hI).mono fun b ρ1 h => ?_
      cases b with
      | false => rw [w_ifF] at h; exact h
      | true =>
        rw [w_ifT] at h
        show Wp (bnd body (aft (whileM c body n)) ρ1) Q
        rw [w_bnd]
        refine h.mono fun o ρ2 h => ?_
        cases o with
        | nx => obtain ⟨m', h1, h2⟩ := h; exact ih m' ρ2 (by omega) h2
        | ct => obtain ⟨m', h1, h2⟩ := h; exact ih m' ρ2 (by omega) h2
        | bk => exact h
        | rt v => exact h
  exact fun n hn => key n k ρ hn hk
theorem wp_lc {α : Type} {it : M (List PV)} {tg : PV → M Unit} {c : M Bool} {el : M PV} {own : List Nat} {ρ : Env} {Q : PV → Env → Prop} (ys : List α) (f : α → PV) (p : α → Bool) (g : α → PV) (hl : ys.length ≤ 16777216)
    (h : Wp (it ρ) fun xs ρ' => Bx (xs = ys.map f ∧ wipeE (wipeE ρ' own) own = wipeE ρ' own ∧ (∀ y ∈ ys, Wp (tg (f y) (wipeE ρ' own)) fun _ ρ1 => Wp (c ρ1) fun b ρ2 => b = p y ∧ (p y = true → Wp (el ρ2) fun v ρ3 => v = g y ∧ wipeE ρ3 own = wipeE ρ' own) ∧ (p y = false → wipeE ρ2 own = wipeE ρ' own)) ∧
      Q (.lst ((ys.filter p).map g)) (restE ρ' (wipeE ρ' own) own))) : Wp (lcM it tg c el own ρ) Q := by
  obtain ⟨xs, ρ', e, rfl, hw, hs, hQ⟩ := h.get
  have key : ∀ (zs : List α) (ρ0 : Env), (∀ y ∈ zs, y ∈ ys) → wipeE ρ0 own = wipeE ρ' own → lcL tg c el own (zs.map f) ρ0 = .ok ((zs.filter p).map g) (wipeE ρ' own) := by
    intro zs
    induction zs with
    | nil => intro ρ0 _ e; show Res.ok [] (wipeE ρ0 own) = _; rw [e]; rfl
    | cons z zs ih =>
      intro ρ0 hz e
      have h1 := hs z (hz z (List.mem_cons_self ..))
      obtain ⟨_, ρ1, e1, h1⟩ := h1.get
      obtain ⟨b, ρ2, e2, rfl, h2, h3⟩ := h1.get
      have hi := fun ρ3 h => ih ρ3 (fun y hy => hz y (List.mem_cons_of_mem _ hy)) h
      show bndN (tg (f z)) (bnd c fun b => if b then bnd el fun y => bnd (lcL tg c el own (zs.map f)) fun ys => ret (y :: ys) else lcL tg c el own (zs.map f)) (wipeE ρ0 own) = _
      rw [e, e_bndN, e1]
      show bnd c _ ρ1 = _
      rw [e_bnd, e2]
      cases hp : p z with
      | true =>
        obtain ⟨v, ρ3, e3, rfl, h4⟩ := (h2 hp).get
        show bnd el _ ρ2 = _
        rw [e_bnd, e3]
        show bnd (lcL tg c el own (zs.map f)) _ ρ3 = _
        rw [e_bnd, hi ρ3 h4, List.filter_cons, if_pos hp]; rfl
      | false =>
        show lcL tg c el own (zs.map f) ρ2 = _
        rw [hi ρ2 (h3 hp), List.filter_cons, if_neg (by rw [hp]; decide)]
  have : lcM it tg c el own ρ = .ok (.lst ((ys.filter p).map g)) (restE ρ' (wipeE ρ' own) own) := by
    show (bnd it _) ρ = _
    rw [e_bnd, e]
    show (if (ys.map f).length ≤ LINE then _ else _) = _
    rw [if_pos (by rw [List.length_map]; exact hl), key ys _ (fun _ h => h) hw]
  rw [this]; exact hQ
theorem wp_lcm {α : Type} {it : M (List PV)} {tg : PV → M Unit} {el : M PV} {own : List Nat} {ρ : Env} {Q : PV → Env → Prop} (ys : List α) (f : α → PV) (g : α → PV) (hl : ys.length ≤ 16777216)
    (h : Wp (it ρ) fun xs ρ' => Bx (xs = ys.map f ∧ wipeE (wipeE ρ' own) own = wipeE ρ' own ∧ (∀ y ∈ ys, Wp (tg (f y) (wipeE ρ' own)) fun _ ρ1 => Wp (el ρ1) fun v ρ3 => v = g y ∧ wipeE ρ3 own = wipeE ρ' own) ∧
      Q (.lst (ys.map g)) (restE ρ' (wipeE ρ' own) own))) : Wp (lcM it tg yesM el own ρ) Q := by
  refine wp_lc ys f (fun _ => true) g hl (h.mono fun xs ρ' h => ?_)
  obtain ⟨h1, h3, h4, h5⟩ := h
  refine ⟨h1, h3, fun y hy => (h4 y hy).mono fun _ ρ1 h => ⟨rfl, fun _ => h, fun h => by cases h⟩, ?_⟩
  rw [List.filter_eq_self.mpr fun _ _ => rfl]
  exact h5
/-- with a state that changes: what was made so far, and the state, stand in a relation -/
theorem wp_lci {α : Type} {it : M (List PV)} {tg : PV → M Unit} {el : M PV} {own : List Nat} {ρ : Env} {Q : PV → Env → Prop} (ys : List α) (f : α → PV) (I : List PV → Env → Prop) (hl : ys.length ≤ 16777216)
    (h : Wp (it ρ) fun xs ρ' => Bx (xs = ys.map f ∧ I [] (wipeE (wipeE ρ' own) own) ∧ (∀ y ∈ ys, ∀ done ρ, done.length < ys.length → I done ρ → Wp (tg (f y) ρ) fun _ ρ1 => Wp (el ρ1) fun v ρ3 => Bx (I (done ++ [v]) (wipeE ρ3 own))) ∧
      ∀ vs ρ2, vs.length = ys.length → I vs ρ2 → Q (.lst vs) (restE ρ' ρ2 own))) : Wp (lcM it tg yesM el own ρ) Q := by
  obtain ⟨xs, ρ', e, rfl, h0, hs, hQ⟩ := h.get
  obtain ⟨vs, ρ2, e2, hI, hle⟩ := lcM_inv (it := it) (tg := tg) (el := el) (own := own) (ρ := ρ) (ρ0 := ρ') (xs := ys.map f) I e (by rw [List.length_map]; exact hl) h0 (by
    intro x hx done ρ hd hI
    obtain ⟨y, hy, rfl⟩ := List.mem_map.mp hx
    have := hs y hy done ρ (by rw [List.length_map] at hd; exact hd) hI
    obtain ⟨_, ρ1, e1, h1⟩ := this.get
    obtain ⟨v, ρ3, e3, h3⟩ := h1.get
    exact ⟨ρ1, v, ρ3, e1, e3, h3⟩)
  rw [e2]
  exact hQ vs ρ2 (by rw [hle, List.length_map]) hI
def Eu (G m x y : Nat) : Prop := Nat.gcd x y = G ∧ ((y ≤ x ∧ x * y < 2 ^ m) ∨ (x < y ∧ 1 ≤ m ∧ x * y < 2 ^ (m - 1)))
theorem Eu.start {a b : Nat} (h : a * b < 2 ^ 900) : Eu (Nat.gcd a b) 901 a b := by
  refine ⟨rfl, ?_⟩
  by_cases hab : b ≤ a
  · exact .inl ⟨hab, Nat.lt_of_lt_of_le h (Nat.pow_le_pow_right (by decide) (by decide))⟩
  · exact .inr ⟨by omega, by decide, h⟩
theorem Eu.next {G m x y : Nat} (h : Eu G m x y) (hy : 0 < y) : ∃ m', m' < m ∧ Eu G m' y (x % y) := by
  obtain ⟨hg, hxy⟩ := h
  have hlt := Nat.mod_lt x hy
  have hgg : Nat.gcd y (x % y) = G := by rw [← hg, Nat.gcd_comm x y, Nat.gcd_rec y x, Nat.gcd_comm]
  rcases hxy with ⟨h1, h2⟩ | ⟨h1, h2, h3⟩
  · have hx : 0 < x := by omega
    have hm : 0 < m := by
      rcases Nat.eq_zero_or_pos m with h0 | h0
      · subst h0; have := Nat.mul_pos hx hy; omega
      · exact h0
    refine ⟨m - 1, by omega, hgg, .inl ⟨by omega, ?_⟩⟩
    have h4 : 2 * (x % y) ≤ x := by
      have := Nat.div_add_mod x y
      have h5 : 1 ≤ x / y := Nat.div_pos h1 hy
      have h6 : y * 1 ≤ y * (x / y) := Nat.mul_le_mul_left _ h5
      omega
    have h5 : y * (2 * (x % y)) ≤ y * x := Nat.mul_le_mul_left _ h4
    have h6 : (2 : Nat) ^ m = 2 * 2 ^ (m - 1) := by rw [← Nat.pow_succ']; congr 1; omega
    have h7 : y * (2 * (x % y)) = 2 * (y * (x % y)) := by rw [Nat.mul_left_comm]
    have h8 : y * x = x * y := Nat.mul_comm _ _
    omega
  · have e : x % y = x := Nat.mod_eq_of_lt h1
    refine ⟨m - 1, by omega, hgg, .inl ⟨by omega, ?_⟩⟩
    rw [e, Nat.mul_comm]; exact h3
theorem Eu.done {G m x : Nat} (h : Eu G m x 0) : x = G := by have := h.1; simpa using this
/-- a rational number in lowest terms -/
def redI (a b : Int) : Int × Int := let c := if b < 0 then -a else a; ((c / (Nat.gcd c.natAbs b.natAbs : Nat) : Int), ((b.natAbs : Int) / (Nat.gcd c.natAbs b.natAbs : Nat) : Int))
theorem redI_pos {a b : Int} (h : 0 < b) : redI a b = (a / (Nat.gcd a.natAbs b.natAbs : Nat), b / (Nat.gcd a.natAbs b.natAbs : Nat)) := by
  unfold redI
  rw [if_neg (by omega)]
  simp only [show (b.natAbs : Int) = b by omega]
theorem redI_neg {a b : Int} (h : b < 0) : redI a b = redI (-a) (-b) := by
  rw [redI_pos (a := -a) (b := -b) (by omega)]
  unfold redI
  rw [if_pos h]
  simp only [show (b.natAbs : Int) = -b by omega, Int.natAbs_neg]
theorem v_absI (c : Int) : absV (.int c) = some (.int (c.natAbs : Nat)) := by
  show some (PV.int (if c < 0 then -c else c)) = _
  congr 2
  split <;> omega
theorem v_divN (c : Int) (g : Nat) (h1 : 0 < g) (h2 : g < 1000000001) : divV (.int c) (.int (g : Nat)) = some (.int (c / (g : Nat))) := by
  show (if decide ((0 : Int) < (g : Int)) && near 1073741823 (g : Int) then some (PV.int (c / (g : Int))) else none) = _
  rw [if_pos (by rw [near_mk (by omega) (by omega), Bool.and_true]; simp; omega)]
theorem v_modN (x y : Nat) (hy : 0 < y) : modV (.int (x : Nat)) (.int (y : Nat)) = some (.int ((x % y : Nat) : Int)) := by
  show (if (0 : Int) < (y : Int) then some (PV.int ((x : Int) % (y : Int))) else none) = _
  rw [if_pos (by omega)]; rfl
theorem gcd_small (c d : Int) (hd : d ≠ 0) (hd2 : d.natAbs < 1000000000) : 0 < Nat.gcd c.natAbs d.natAbs ∧ Nat.gcd c.natAbs d.natAbs < 1000000001 := by
  have h1 : 0 < d.natAbs := by omega
  exact ⟨Nat.gcd_pos_of_pos_right _ h1, Nat.lt_of_le_of_lt (Nat.gcd_le_right _ h1) (by omega)⟩
def ratV (p : Int × Int) : PV := .tup [.int p.1, .int p.2]
def topK (n : Nat) (c : Nat → Int) (j : Nat) : Int := sumI ((List.range (n + 1)).map fun i => c i * kr (n - i) i j)
theorem v_enumF (n : Nat) (c : Nat → PV) : enumL 0 ((List.range n).map c) = (List.range n).map fun i => PV.tup [.int (i : Nat), c i] := by
  have : ∀ (l : List PV) (k : Nat), enumL k l = (List.range l.length).map fun i => PV.tup [.int ((k + i : Nat) : Int), l.getD i .non] := by
    intro l
    induction l with
    | nil => intro k; rfl
    | cons x l ih =>
      intro k
      show PV.tup [.int (k : Nat), x] :: enumL (k + 1) l = _
      rw [ih, List.length_cons, List.range_succ_eq_map, List.map_cons, List.map_map]
      congr 1
      refine List.map_congr_left fun i _ => ?_
      show PV.tup [.int ((k + 1 + i : Nat) : Int), l.getD i .non] = PV.tup [.int ((k + (i + 1) : Nat) : Int), (x :: l).getD (i + 1) .non]
      rw [show k + 1 + i = k + (i + 1) by omega]
      rfl
  rw [this, List.length_map, List.length_range]
  refine List.map_congr_left fun i hi => ?_
  rw [List.getD_eq_getElem?_getD, List.getElem?_map, List.getElem?_range (List.mem_range.mp hi)]
  simp
theorem v_sumTF {α : Type} (xs : List α) (f : α → Int) : sumV (.tup (xs.map fun x => .int (f x))) = some (.int (sumI (xs.map f))) := by
  have e : (xs.map fun x => PV.int (f x)) = (xs.map f).map .int := by rw [List.map_map]; rfl
  rw [e]
  show (intsP _).map _ = _
  rw [intsP_map]; rfl
theorem sumI_bound {B : Nat} : ∀ (l : List Nat) (f : Nat → Int), (∀ i ∈ l, (f i).natAbs ≤ B) → (sumI (l.map f)).natAbs ≤ l.length * B
  | [], _, _ => Nat.zero_le _
  | x :: l, f, h => by
    have h1 := h x (List.mem_cons_self ..)
    have h2 := sumI_bound l f fun i hi => h i (List.mem_cons_of_mem _ hi)
    show (f x + sumI (l.map f)).natAbs ≤ (l.length + 1) * B
    rw [Nat.add_mul]
    omega
def krB : Bool := (List.range 11).all fun n => (List.range (n + 1)).all fun j => (List.range (n + 1)).all fun i => decide ((kr (n - i) i j).natAbs ≤ 1024) && decide (kr n 0 i * kr (n - i) i j = kr n 0 j * kr (n - j) j i)
theorem krB_ok : krB = true := by decide +kernel
theorem kr_tab {n j i : Nat} (hn : n ≤ 10) (hj : j ≤ n) (hi : i ≤ n) : (kr (n - i) i j).natAbs ≤ 1024 ∧ kr n 0 i * kr (n - i) i j = kr n 0 j * kr (n - j) j i := by
  have h := krB_ok
  unfold krB at h
  have h1 := List.all_eq_true.mp h n (List.mem_range.mpr (by omega))
  have h2 := List.all_eq_true.mp h1 j (List.mem_range.mpr (by omega))
  have h3 := List.all_eq_true.mp h2 i (List.mem_range.mpr (by omega))
  rw [Bool.and_eq_true, decide_eq_true_eq, decide_eq_true_eq] at h3
  exact h3
theorem natAbs_mul_le {a b : Int} {A B : Nat} (h1 : a.natAbs ≤ A) (h2 : b.natAbs ≤ B) : (a * b).natAbs ≤ A * B := by rw [Int.natAbs_mul]; exact Nat.mul_le_mul h1 h2
theorem topK_bound {n : Nat} (hn : n ≤ 10) {c : Nat → Int} (hc : ∀ i, i ≤ n → -9999 ≤ c i ∧ c i ≤ 9999) {j : Nat} (hj : j ≤ n) : (topK n c j).natAbs < 2 ^ 40 := by
  have := sumI_bound (B := 9999 * 1024) (List.range (n + 1)) (fun i => c i * kr (n - i) i j) fun i hi => by
    have hi' : i ≤ n := by have := List.mem_range.mp hi; omega
    have h1 := hc i hi'
    exact natAbs_mul_le (by omega) (kr_tab hn hj hi').1
  unfold topK
  simp only [List.length_range] at this
  have h2 : (n + 1) * (9999 * 1024) ≤ 11 * (9999 * 1024) := Nat.mul_le_mul_right _ (by omega)
  have h3 : 11 * (9999 * 1024) < 2 ^ 40 := by decide
  omega
/-- two ways that meet again -/
theorem wp_join {b : Bool} {A B : M Out} {r : Env} {K : Out → Env → Prop} (J : Env → Prop) (h1 : b = true → Wp (A r) fun o r' => o = .nx ∧ J r') (h2 : b = false → Wp (B r) fun o r' => o = .nx ∧ J r') (h3 : ∀ r', J r' → K .nx r') : IfK b (Wp (A r) K) (Wp (B r) K) := by
  refine IfK.of (fun h => (h1 h).mono ?_) (fun h => (h2 h).mono ?_)
  · rintro o r' ⟨rfl, h⟩; exact h3 r' h
  · rintro o r' ⟨rfl, h⟩; exact h3 r' h
theorem v_rep1 (c : Nat) {n : Nat} (h : n ≤ 1000) : mulV (.str [c]) (.int n) = some (.str (List.replicate n c)) := by
  show (if near 16777216 (n : Int) then _ else _) = _
  rw [if_pos (near_mk (by omega) (by omega)), Int.toNat_natCast]
end G7

set_option Elab.async false
set_option linter.all false
set_option maxRecDepth 100000
set_option autoImplicit false
namespace G7
structure LMap (n m : Nat) (f : Wd → Wd) : Prop where
  w : ∀ a, Wn n a → Wn m (f a)
  x : ∀ a b, Wn n a → Wn n b → f (xo a b) = xo (f a) (f b)
theorem LMap.z {n m : Nat} {f : Wd → Wd} (h : LMap n m f) : f (zr n) = zr m := by
  have h1 := h.x (zr n) (zr n) (Wn.zr n) (Wn.zr n)
  rw [xo_self (Wn.zr n).l, xo_self (h.w _ (Wn.zr n)).l] at h1
  exact h1
theorem LMap.all {n m : Nat} {f : Wd → Wd} (h : LMap n m f) {bs : List Wd} (hb : AllW n bs) : AllW m (bs.map f) := fun w hw => by
  obtain ⟨b, hb', rfl⟩ := List.mem_map.mp hw
  exact h.w b (hb b hb')
theorem LMap.span {n m : Nat} {f : Wd → Wd} (h : LMap n m f) {bs : List Wd} (hb : AllW n bs) (w : Wd) : SpW m (bs.map f) w ↔ ∃ v, SpW n bs v ∧ f v = w := by
  constructor
  · intro hs
    have l : Lin m fun w => ∃ v, SpW n bs v ∧ f v = w := by
      refine ⟨?_, ⟨zr n, (sp_lin hb).z, h.z⟩, ?_⟩
      · rintro w ⟨v, hv, rfl⟩; exact h.w v hv.1
      · rintro u v ⟨a, ha, rfl⟩ ⟨b, hb', rfl⟩
        exact ⟨xo a b, (sp_lin hb).a a b ha hb', h.x a b ha.1 hb'.1⟩
    exact sp_least l (ws := bs.map f) (fun x hx => by
      obtain ⟨b, hb', rfl⟩ := List.mem_map.mp hx
      exact ⟨b, ⟨hb b hb', sp_mem hb hb'⟩, rfl⟩) hs.1 hs.2
  · rintro ⟨v, hv, rfl⟩
    have hm := h.all hb
    have l : Lin n fun v => Wn n v ∧ SpW m (bs.map f) (f v) := by
      refine ⟨fun _ z => z.1, ⟨Wn.zr n, ?_⟩, ?_⟩
      · rw [h.z]; exact (sp_lin hm).z
      · rintro u v ⟨h1, h2⟩ ⟨h3, h4⟩
        refine ⟨h1.xo h3, ?_⟩
        rw [h.x u v h1 h3]; exact (sp_lin hm).a _ _ h2 h4
    exact (sp_least l (ws := bs) (fun x hx => ⟨hb x hx, hm _ (List.mem_map.mpr ⟨x, hx, rfl⟩), sp_mem hm (List.mem_map.mpr ⟨x, hx, rfl⟩)⟩) hv.1 hv.2).2
theorem LMap.enum {n m : Nat} {f : Wd → Wd} (h : LMap n m f) (inj : ∀ a b, Wn n a → Wn n b → f a = f b → a = b) {bs L : List Wd} (hb : AllW n bs) (hL : EnumL (SpW n bs) L) : EnumL (SpW m (bs.map f)) (L.map f) := by
  refine ⟨?_, fun w => ?_⟩
  · exact List.pairwise_map.mpr (hL.nd.imp_of_mem fun {a b} ha hb' hab e => hab (inj a b ((hL.m a).mp ha).1 ((hL.m b).mp hb').1 e))
  · rw [h.span hb, List.mem_map]
    exact exists_congr fun v => and_congr_left fun _ => hL.m v
theorem xo_append : ∀ {a b : Wd} (c d : Wd), a.length = b.length → xo (a ++ c) (b ++ d) = xo a b ++ xo c d
  | [], [], _, _, _ => rfl
  | [], _ :: _, _, _, h => by cases h
  | _ :: _, [], _, _, h => by cases h
  | x :: a, y :: b, c, d, h => by
    show xb x y :: xo (a ++ c) (b ++ d) = _
    rw [xo_append c d (by simpa using h)]; rfl
theorem Wn.app {n m : Nat} {a b : Wd} (ha : Wn n a) (hb : Wn m b) : Wn (n + m) (a ++ b) := ⟨by rw [List.length_append, ha.l, hb.l], fun c hc => by
  rcases List.mem_append.mp hc with h | h
  · exact ha.b c h
  · exact hb.b c h⟩
theorem wt_app (a b : Wd) : wt (a ++ b) = wt a + wt b := by unfold wt; rw [List.filter_append, List.length_append]
theorem wt_zr (n : Nat) : wt (zr n) = 0 := by unfold wt zr; simp [List.filter_replicate]
theorem at_app {n : Nat} {a : Wd} (ha : a.length = n) (b : Wd) (i : Nat) : at_ (a ++ b) i = if i < n then at_ a i else at_ b (i - n) := by
  unfold at_
  rw [List.getD_eq_getElem?_getD, List.getD_eq_getElem?_getD, List.getD_eq_getElem?_getD]
  split
  · rw [List.getElem?_append_left (by omega)]
  · rw [List.getElem?_append_right (by omega), ha]
theorem wt_xo2 : ∀ {n : Nat} {a b : Wd}, Wn n a → Wn n b → wt (xo a b) % 2 = (wt a + wt b) % 2
  | 0, a, b, ha, hb => by
    have := List.eq_nil_of_length_eq_zero ha.l
    have h2 := List.eq_nil_of_length_eq_zero hb.l
    subst this; subst h2; rfl
  | n + 1, a, b, ha, hb => by
    rcases ha.cases with ⟨e, _⟩ | ⟨m, x, a', e, rfl, hx, ha'⟩
    · cases e
    rcases hb.cases with ⟨e', _⟩ | ⟨m', y, b', e', rfl, hy, hb'⟩
    · cases e'
    cases e; cases e'
    have ih := wt_xo2 ha' hb'
    show wt (xb x y :: xo a' b') % 2 = _
    rw [wt_cons, wt_cons, wt_cons]
    rcases hx with rfl | rfl <;> rcases hy with rfl | rfl <;> simp [xb] <;> omega
def extF (w : Wd) : Wd := w ++ [if wt w % 2 = 1 then 49 else 48]
theorem ext_map (n : Nat) : LMap n (n + 1) extF := by
  refine ⟨fun a ha => ?_, fun a b ha hb => ?_⟩
  · refine Wn.app ha ⟨rfl, fun c hc => ?_⟩
    rw [List.mem_singleton] at hc
    rw [hc]; split <;> simp
  · unfold extF
    rw [xo_append _ _ (by rw [ha.l, hb.l])]
    congr 1
    have := wt_xo2 ha hb
    show _ = [xb _ _]
    rw [this]
    unfold xb
    rcases Nat.mod_two_eq_zero_or_one (wt a) with h1 | h1 <;> rcases Nat.mod_two_eq_zero_or_one (wt b) with h2 | h2 <;> simp [h1, h2, Nat.add_mod]
theorem ext_inj {n : Nat} (a b : Wd) (ha : Wn n a) (hb : Wn n b) (h : extF a = extF b) : a = b := (List.append_inj h (by rw [ha.l, hb.l])).1
def arrF (o : List Nat) (w : Wd) : Wd := o.map (at_ w)
theorem xo_map2 {α : Type} (f g : α → Nat) : ∀ l : List α, xo (l.map f) (l.map g) = l.map fun i => xb (f i) (g i)
  | [] => rfl
  | x :: l => by show xb (f x) (g x) :: xo (l.map f) (l.map g) = _; rw [xo_map2 f g l]; rfl
theorem arr_map {n : Nat} {o : List Nat} (h : o.Perm (List.range n)) : LMap n n (arrF o) := by
  refine ⟨fun a ha => ⟨by unfold arrF; rw [List.length_map, h.length_eq, List.length_range], fun c hc => ?_⟩, fun a b ha hb => ?_⟩
  · obtain ⟨i, _, rfl⟩ := List.mem_map.mp hc
    exact at_bit ha i
  · unfold arrF
    rw [xo_map2]
    exact List.map_congr_left fun i _ => at_xo ha hb i
theorem arr_inj {n : Nat} {o : List Nat} (h : o.Perm (List.range n)) (a b : Wd) (ha : Wn n a) (hb : Wn n b) (e : arrF o a = arrF o b) : a = b := ext_at ha hb fun i hi => by
  have hm : i ∈ o := h.mem_iff.mpr (List.mem_range.mpr hi)
  exact List.map_inj_left.mp e i hm
theorem range_at {n : Nat} {w : Wd} (h : Wn n w) : (List.range n).map (at_ w) = w := by
  refine List.ext_getElem? fun i => ?_
  by_cases hi : i < n
  · rw [List.getElem?_map, List.getElem?_range hi, List.getElem?_eq_getElem (by rw [h.l]; exact hi)]
    simp [at_, List.getD_eq_getElem?_getD, List.getElem?_eq_getElem (show i < w.length by rw [h.l]; exact hi)]
  · rw [List.getElem?_eq_none (by simp; omega), List.getElem?_eq_none (by rw [h.l]; omega)]
theorem wt_perm {a b : Wd} (h : a.Perm b) : wt a = wt b := (h.filter _).length_eq
theorem wt_arr {n : Nat} {o : List Nat} (h : o.Perm (List.range n)) {w : Wd} (hw : Wn n w) : wt (arrF o w) = wt w := by
  have := wt_perm (h.map (at_ w))
  rw [range_at hw] at this
  exact this
theorem cntW_map {L : List Wd} {f : Wd → Wd} (h : ∀ w ∈ L, wt (f w) = wt w) (j : Nat) : cntW (L.map f) j = cntW L j := by
  unfold cntW
  rw [List.filter_map, List.length_map]
  congr 1
  refine List.filter_congr fun w hw => ?_
  show decide (wt (f w) = j) = _
  rw [h w hw]
def dsL (n m : Nat) (as bs : List Wd) : List Wd := as.map (· ++ zr m) ++ bs.map (zr n ++ ·)
theorem left_map (n m : Nat) : LMap n (n + m) (· ++ zr m) := ⟨fun a ha => ha.app (Wn.zr m), fun a b ha hb => by
  show xo a b ++ zr m = xo (a ++ zr m) (b ++ zr m)
  rw [xo_append _ _ (by rw [ha.l, hb.l]), xo_self (Wn.zr m).l]⟩
theorem right_map (n m : Nat) : LMap m (n + m) (zr n ++ ·) := ⟨fun a ha => (Wn.zr n).app ha, fun a b ha hb => by
  show zr n ++ xo a b = xo (zr n ++ a) (zr n ++ b)
  rw [xo_append _ _ rfl, xo_self (Wn.zr n).l]⟩
theorem ds_all {n m : Nat} {as bs : List Wd} (ha : AllW n as) (hb : AllW m bs) : AllW (n + m) (dsL n m as bs) := fun w hw => by
  rcases List.mem_append.mp hw with h | h
  · exact (left_map n m).all ha w h
  · exact (right_map n m).all hb w h
theorem ds_lead {n m : Nat} {as bs : List Wd} (ha : RedW n as) (hb : RedW m bs) : (∀ a ∈ as, LeadAt (a ++ zr m) (ldOf a) ∧ ldOf (a ++ zr m) = ldOf a ∧ ldOf a < n) ∧ ∀ b ∈ bs, LeadAt (zr n ++ b) (n + ldOf b) ∧ ldOf (zr n ++ b) = n + ldOf b := by
  constructor
  · intro a h
    have hw := RedW.all ha.u a h
    have hl := (RedW.idx ha.u h).2
    have hlt := lead_lt hw hl
    have : LeadAt (a ++ zr m) (ldOf a) := ⟨by rw [at_app hw.l, if_pos hlt]; exact hl.1, fun i hi => by rw [at_app hw.l, if_pos (by omega)]; exact hl.2 i hi⟩
    exact ⟨this, (ld_of (hw.app (Wn.zr m)) this).2, hlt⟩
  · intro b h
    have hw := RedW.all hb.u b h
    have hl := (RedW.idx hb.u h).2
    have : LeadAt (zr n ++ b) (n + ldOf b) := ⟨by rw [at_app (Wn.zr n).l, if_neg (by omega), Nat.add_sub_cancel_left]; exact hl.1, fun i hi => by
      rw [at_app (Wn.zr n).l]
      split
      · exact at_zr n i
      · exact hl.2 _ (by omega)⟩
    exact ⟨this, (ld_of ((Wn.zr n).app hw) this).2⟩
theorem ds_red {n m : Nat} {as bs : List Wd} (ha : RedW n as) (hb : RedW m bs) : RedW (n + m) (dsL n m as bs) := by
  obtain ⟨l1, l2⟩ := ds_lead ha hb
  have hall := ds_all (RedW.all ha.u) (RedW.all hb.u)
  have pw : (rowsOf (dsL n m as bs)).Pairwise fun r s => r.1 < s.1 := by
    unfold rowsOf dsL
    rw [List.pairwise_map, List.pairwise_append]
    refine ⟨?_, ?_, ?_⟩
    · have := ha.p
      rw [List.pairwise_map] at this
      exact List.pairwise_map.mpr (this.imp_of_mem fun {a b} h1 h2 hlt => by
        show ldOf (a ++ zr m) < ldOf (b ++ zr m)
        rw [(l1 a h1).2.1, (l1 b h2).2.1]; exact hlt)
    · have := hb.p
      rw [List.pairwise_map] at this
      exact List.pairwise_map.mpr (this.imp_of_mem fun {a b} h1 h2 hlt => by
        show ldOf (zr n ++ a) < ldOf (zr n ++ b)
        rw [(l2 a h1).2, (l2 b h2).2]
        have : ldOf a < ldOf b := hlt
        omega)
    · intro u hu v hv
      obtain ⟨a, h1, rfl⟩ := List.mem_map.mp hu
      obtain ⟨b, h2, rfl⟩ := List.mem_map.mp hv
      show ldOf (a ++ zr m) < ldOf (zr n ++ b)
      rw [(l1 a h1).2.1, (l2 b h2).2]
      have := (l1 a h1).2.2
      omega
  refine ⟨⟨fun r hr => ?_, pw.imp fun {a b} h => by omega, fun r hr s hs e => ?_⟩, pw⟩
  · obtain ⟨w, hw, rfl⟩ := List.mem_map.mp hr
    refine ⟨hall w hw, ?_⟩
    rcases List.mem_append.mp hw with h | h
    · obtain ⟨a, h1, rfl⟩ := List.mem_map.mp h
      show LeadAt (a ++ zr m) (ldOf (a ++ zr m))
      rw [(l1 a h1).2.1]; exact (l1 a h1).1
    · obtain ⟨b, h1, rfl⟩ := List.mem_map.mp h
      show LeadAt (zr n ++ b) (ldOf (zr n ++ b))
      rw [(l2 b h1).2]; exact (l2 b h1).1
  · obtain ⟨w, hw, rfl⟩ := List.mem_map.mp hr
    obtain ⟨v, hv, rfl⟩ := List.mem_map.mp hs
    have e' : ldOf w ≠ ldOf v := e
    show at_ w (ldOf v) = 48
    rcases List.mem_append.mp hw with h | h
    · obtain ⟨a, h1, rfl⟩ := List.mem_map.mp h
      have haw := RedW.all ha.u a h1
      rcases List.mem_append.mp hv with k | k
      · obtain ⟨c, h2, rfl⟩ := List.mem_map.mp k
        rw [(l1 a h1).2.1, (l1 c h2).2.1] at e'
        show at_ (a ++ zr m) (ldOf (c ++ zr m)) = 48
        rw [(l1 c h2).2.1, at_app haw.l, if_pos (l1 c h2).2.2]
        exact ha.u.c (ldOf a, a) (List.mem_map.mpr ⟨a, h1, rfl⟩) (ldOf c, c) (List.mem_map.mpr ⟨c, h2, rfl⟩) e'
      · obtain ⟨b, h2, rfl⟩ := List.mem_map.mp k
        show at_ (a ++ zr m) (ldOf (zr n ++ b)) = 48
        rw [(l2 b h2).2, at_app haw.l, if_neg (by omega)]
        exact at_zr _ _
    · obtain ⟨b, h1, rfl⟩ := List.mem_map.mp h
      rcases List.mem_append.mp hv with k | k
      · obtain ⟨c, h2, rfl⟩ := List.mem_map.mp k
        show at_ (zr n ++ b) (ldOf (c ++ zr m)) = 48
        rw [(l1 c h2).2.1, at_app (Wn.zr n).l, if_pos (l1 c h2).2.2]
        exact at_zr _ _
      · obtain ⟨c, h2, rfl⟩ := List.mem_map.mp k
        rw [(l2 b h1).2, (l2 c h2).2] at e'
        show at_ (zr n ++ b) (ldOf (zr n ++ c)) = 48
        rw [(l2 c h2).2, at_app (Wn.zr n).l, if_neg (by omega), Nat.add_sub_cancel_left]
        exact hb.u.c (ldOf b, b) (List.mem_map.mpr ⟨b, h1, rfl⟩) (ldOf c, c) (List.mem_map.mpr ⟨c, h2, rfl⟩) (by show ldOf b ≠ ldOf c; omega)
theorem xo_lr {n m : Nat} {u v : Wd} (hu : Wn n u) (hv : Wn m v) : xo (u ++ zr m) (zr n ++ v) = u ++ v := by
  rw [xo_append _ _ (by rw [hu.l, (Wn.zr n).l]), xo_zr hu, xo_comm, xo_zr hv]
theorem ds_span {n m : Nat} {as bs : List Wd} (ha : AllW n as) (hb : AllW m bs) (w : Wd) : SpW (n + m) (dsL n m as bs) w ↔ ∃ u v, SpW n as u ∧ SpW m bs v ∧ w = u ++ v := by
  have hall := ds_all ha hb
  constructor
  · intro hs
    have l : Lin (n + m) fun w => ∃ u v, SpW n as u ∧ SpW m bs v ∧ w = u ++ v := by
      refine ⟨?_, ⟨zr n, zr m, (sp_lin ha).z, (sp_lin hb).z, ?_⟩, ?_⟩
      · rintro w ⟨u, v, h1, h2, rfl⟩; exact h1.1.app h2.1
      · unfold zr; rw [List.replicate_append_replicate]
      · rintro x y ⟨u, v, h1, h2, rfl⟩ ⟨u', v', h3, h4, rfl⟩
        exact ⟨xo u u', xo v v', (sp_lin ha).a _ _ h1 h3, (sp_lin hb).a _ _ h2 h4, xo_append _ _ (by rw [h1.1.l, h3.1.l])⟩
    refine sp_least l (ws := dsL n m as bs) (fun x hx => ?_) hs.1 hs.2
    rcases List.mem_append.mp hx with h | h
    · obtain ⟨a, h1, rfl⟩ := List.mem_map.mp h
      exact ⟨a, zr m, ⟨ha a h1, sp_mem ha h1⟩, (sp_lin hb).z, rfl⟩
    · obtain ⟨b, h1, rfl⟩ := List.mem_map.mp h
      exact ⟨zr n, b, (sp_lin ha).z, ⟨hb b h1, sp_mem hb h1⟩, rfl⟩
  · rintro ⟨u, v, h1, h2, rfl⟩
    have k1 : SpW (n + m) (dsL n m as bs) (u ++ zr m) := by
      have : SpW (n + m) (as.map (· ++ zr m)) (u ++ zr m) := ((left_map n m).span ha _).mpr ⟨u, h1, rfl⟩
      exact sp_least (sp_lin hall) (ws := as.map (· ++ zr m)) (fun x hx => ⟨(left_map n m).all ha x hx, sp_mem hall (List.mem_append.mpr (.inl hx))⟩) this.1 this.2
    have k2 : SpW (n + m) (dsL n m as bs) (zr n ++ v) := by
      have : SpW (n + m) (bs.map (zr n ++ ·)) (zr n ++ v) := ((right_map n m).span hb _).mpr ⟨v, h2, rfl⟩
      exact sp_least (sp_lin hall) (ws := bs.map (zr n ++ ·)) (fun x hx => ⟨(right_map n m).all hb x hx, sp_mem hall (List.mem_append.mpr (.inr hx))⟩) this.1 this.2
    have := (sp_lin hall).a _ _ k1 k2
    rwa [xo_lr h1.1 h2.1] at this
def joinW (L M : List Wd) : List Wd := L.flatMap fun u => M.map fun v => u ++ v
theorem ds_enum {n m : Nat} {as bs L M : List Wd} (ha : AllW n as) (hb : AllW m bs) (hL : EnumL (SpW n as) L) (hM : EnumL (SpW m bs) M) : EnumL (SpW (n + m) (dsL n m as bs)) (joinW L M) := by
  have hLw : ∀ u ∈ L, u.length = n := fun u hu => ((hL.m u).mp hu).1.l
  refine ⟨?_, fun w => ?_⟩
  · have key : ∀ L' : List Wd, L'.Nodup → (∀ u ∈ L', u.length = n) → (joinW L' M).Nodup := by
      intro L'
      induction L' with
      | nil => intro _ _; exact List.nodup_nil
      | cons u L' ih =>
        intro hd hl
        obtain ⟨h1, h2⟩ := List.nodup_cons.mp hd
        show (M.map (fun v => u ++ v) ++ joinW L' M).Nodup
        refine List.nodup_append.mpr ⟨?_, ih h2 fun v hv => hl v (List.mem_cons_of_mem _ hv), ?_⟩
        · exact List.pairwise_map.mpr (hM.nd.imp fun {a b} hab e => hab (List.append_cancel_left e))
        · intro x hx y hy e
          subst e
          obtain ⟨v, _, rfl⟩ := List.mem_map.mp hx
          obtain ⟨u', hu', hy'⟩ := List.mem_flatMap.mp hy
          obtain ⟨v', _, e⟩ := List.mem_map.mp hy'
          have := (List.append_inj e (by rw [hl u' (List.mem_cons_of_mem _ hu'), hl u (List.mem_cons_self ..)])).1
          subst this
          exact h1 hu'
    exact key L hL.nd hLw
  · rw [ds_span ha hb]
    unfold joinW
    rw [List.mem_flatMap]
    constructor
    · rintro ⟨u, hu, h⟩
      obtain ⟨v, hv, rfl⟩ := List.mem_map.mp h
      exact ⟨u, v, (hL.m u).mp hu, (hM.m v).mp hv, rfl⟩
    · rintro ⟨u, v, hu, hv, rfl⟩
      exact ⟨u, (hL.m u).mpr hu, List.mem_map.mpr ⟨v, (hM.m v).mpr hv, rfl⟩⟩
theorem xs_add (n : Nat) : ∀ (m : Nat) (f : Nat → Bool), xs (n + m) f = Bool.xor (xs n f) (xs m fun i => f (n + i))
  | 0, f => by show xs n f = Bool.xor (xs n f) false; cases xs n f <;> rfl
  | m + 1, f => by
    show Bool.xor (xs (n + m) f) (f (n + m)) = Bool.xor (xs n f) (Bool.xor (xs m fun i => f (n + i)) (f (n + m)))
    rw [xs_add n m f, Bool.xor_assoc]
theorem dot_app {n m : Nat} {a u c v : Wd} (ha : a.length = n) (hu : u.length = n) : dot (n + m) (a ++ c) (u ++ v) = Bool.xor (dot n a u) (dot m c v) := by
  unfold dot
  rw [xs_add]
  congr 1
  · refine xs_congr fun i hi => ?_
    unfold bt
    rw [at_app ha, at_app hu, if_pos hi, if_pos hi]
  · refine xs_congr fun i hi => ?_
    unfold bt
    rw [at_app ha, at_app hu, if_neg (by omega), if_neg (by omega), Nat.add_sub_cancel_left]
theorem split_app {n m : Nat} {w : Wd} (h : Wn (n + m) w) : ∃ u v, Wn n u ∧ Wn m v ∧ w = u ++ v := by
  refine ⟨w.take n, w.drop n, ⟨by rw [List.length_take, h.l]; omega, fun c hc => h.b c (List.mem_of_mem_take hc)⟩, ⟨by rw [List.length_drop, h.l]; omega, fun c hc => h.b c (List.mem_of_mem_drop hc)⟩, (List.take_append_drop n w).symm⟩
theorem ds_orth {n m : Nat} {as bs : List Wd} (ha : AllW n as) (hb : AllW m bs) (w : Wd) : Orth (n + m) (dsL n m as bs) w ↔ ∃ u v, Orth n as u ∧ Orth m bs v ∧ w = u ++ v := by
  have d1 : ∀ {a u v}, a ∈ as → Wn n u → dot (n + m) (a ++ zr m) (u ++ v) = dot n a u := fun {a u v} h hu => by rw [dot_app (ha a h).l hu.l, dot_comm m, dot_zr, Bool.xor_false]
  have d2 : ∀ {b u v}, b ∈ bs → Wn n u → dot (n + m) (zr n ++ b) (u ++ v) = dot m b v := fun {b u v} h hu => by rw [dot_app (Wn.zr n).l hu.l, dot_comm n, dot_zr, Bool.false_xor]
  constructor
  · rintro ⟨hw, ho⟩
    obtain ⟨u, v, hu, hv, rfl⟩ := split_app hw
    refine ⟨u, v, ⟨hu, fun a h => ?_⟩, ⟨hv, fun b h => ?_⟩, rfl⟩
    · rw [← d1 h hu (v := v)]; exact ho _ (List.mem_append.mpr (.inl (List.mem_map.mpr ⟨a, h, rfl⟩)))
    · rw [← d2 h hu (v := v)]; exact ho _ (List.mem_append.mpr (.inr (List.mem_map.mpr ⟨b, h, rfl⟩)))
  · rintro ⟨u, v, hu, hv, rfl⟩
    refine ⟨hu.1.app hv.1, fun x hx => ?_⟩
    rcases List.mem_append.mp hx with h | h
    · obtain ⟨a, h1, rfl⟩ := List.mem_map.mp h
      exact (d1 h1 hu.1).trans (hu.2 a h1)
    · obtain ⟨b, h1, rfl⟩ := List.mem_map.mp h
      exact (d2 h1 hu.1).trans (hv.2 b h1)
theorem ds_dual {n m : Nat} {as bs : List Wd} (ha : RedW n as) (hb : RedW m bs) : dualL (n + m) (dsL n m as bs) = dsL n m (dualL n as) (dualL m bs) := by
  obtain ⟨a1, a2⟩ := dual_ok ha.u
  obtain ⟨b1, b2⟩ := dual_ok hb.u
  obtain ⟨c1, c2⟩ := dual_ok (ds_red ha hb).u
  have := red_uniq c1 (ds_red a1 b1) fun w => by
    rw [bs_rows, bs_rows, c2 w, ds_orth (RedW.all ha.u) (RedW.all hb.u), ds_span (RedW.all a1.u) (RedW.all b1.u)]
    exact exists_congr fun u => exists_congr fun v => and_congr (a2 u).symm (and_congr_left fun _ => (b2 v).symm)
  rw [bs_rows, bs_rows] at this
  exact this
theorem sumF_flat {α β : Type} (f : β → Int) (g : α → List β) : ∀ l : List α, sumF f (l.flatMap g) = sumF (fun x => sumF f (g x)) l
  | [] => rfl
  | x :: l => by rw [List.flatMap_cons, sumF_app, sumF_flat f g l]; rfl
theorem sumI_filter (p : Nat → Bool) (f : Nat → Int) : ∀ l : List Nat, sumI ((l.filter p).map f) = sumI (l.map fun i => if p i then f i else 0)
  | [] => rfl
  | x :: l => by
    rw [List.filter_cons]
    show _ = (if p x then f x else 0) + sumI _
    rw [← sumI_filter p f l]
    cases p x
    · simp
    · simp [sumI]
theorem cntW_zero {m : Nat} {M : List Wd} (h : ∀ v ∈ M, wt v ≤ m) {j : Nat} (hj : m < j) : cntW M j = 0 := by
  unfold cntW
  rw [List.filter_eq_nil_iff.mpr]
  · rfl
  · intro v hv
    have := h v hv
    simp; omega
theorem ds_cnt {n m : Nat} {L M : List Wd} (hL : ∀ u ∈ L, wt u ≤ n) (hM : ∀ v ∈ M, wt v ≤ m) (t : Nat) :
    ((cntW (joinW L M) t : Nat) : Int) = sumI (((List.range (n + 1)).filter fun k => decide (k ≤ t) && decide (t - k < m + 1)).map fun k => ((cntW L k : Nat) : Int) * ((cntW M (t - k) : Nat) : Int)) := by
  rw [sumI_filter, cntW_sum]
  have e1 : sumF (fun w => if wt w = t then 1 else 0) (joinW L M) = sumF (fun u => if wt u ≤ t then ((cntW M (t - wt u) : Nat) : Int) else 0) L := by
    unfold joinW
    rw [sumF_flat]
    refine sumF_congr fun u _ => ?_
    rw [sumF_map]
    by_cases h : wt u ≤ t
    · rw [if_pos h, cntW_sum]
      refine sumF_congr fun v _ => ?_
      show (if wt (u ++ v) = t then (1 : Int) else 0) = _
      rw [wt_app]
      by_cases h2 : wt v = t - wt u
      · rw [if_pos h2, if_pos (by omega)]
      · rw [if_neg h2, if_neg (by omega)]
    · rw [if_neg h, sumF_congr (g := fun _ => 0) (fun v _ => by
        show (if wt (u ++ v) = t then (1 : Int) else 0) = 0
        rw [wt_app, if_neg (by omega)]), sumF_const, Int.zero_mul]
  rw [e1, ← group_wt (n := n) (fun i => if i ≤ t then ((cntW M (t - i) : Nat) : Int) else 0) hL]
  refine sumI_congr fun i _ => ?_
  by_cases h : i ≤ t
  · by_cases h2 : t - i < m + 1
    · simp [h, h2]
    · have : cntW M (t - i) = 0 := cntW_zero hM (by omega)
      simp [h, h2, this]
  · simp [h]
theorem eraseIdx_map' {α β : Type} (f : α → β) : ∀ (l : List α) (k : Nat), (l.map f).eraseIdx k = (l.eraseIdx k).map f
  | [], _ => rfl
  | _ :: _, 0 => rfl
  | x :: l, k + 1 => by show f x :: (l.map f).eraseIdx k = _; rw [eraseIdx_map' f l k]; rfl
theorem erase_perm {α : Type} : ∀ (l : List α) (k : Nat) (h : k < l.length), (l[k] :: l.eraseIdx k).Perm l
  | [], _, h => by simp at h
  | x :: l, 0, _ => List.Perm.refl _
  | x :: l, k + 1, h => by
    have := erase_perm l k (by simpa using h)
    exact (List.Perm.swap x _ _).trans (this.cons x)
theorem intsP_nat (o : List Nat) : intsP (o.map fun i => PV.int (i : Nat)) = some (o.map fun i : Nat => (i : Int)) := by
  have := intsP_map (o.map fun i : Nat => (i : Int))
  rw [List.map_map] at this
  exact this
theorem v_sortO {n : Nat} {o : List Nat} (h : o.Perm (List.range n)) : sortW (.tup (o.map fun i => PV.int (i : Nat))) = some (.lst ((List.range n).map fun i => PV.int (i : Nat))) := by
  show (intsP _).map _ = _
  rw [intsP_nat]
  have e : srt ltI (o.map fun i : Nat => (i : Int)) = (List.range n).map fun i : Nat => (i : Int) := srt_of ltI_tot (List.pairwise_map.mpr (List.pairwise_lt_range.imp fun {a b} hab => decide_eq_false (by omega))) (h.symm.map _)
  show some (PV.lst ((srt ltI (o.map fun i : Nat => (i : Int))).map .int)) = _
  rw [e, List.map_map]; rfl
theorem v_rg1 {n : Nat} (h : n ≤ 1000) : rg1V (.int n) = some (.lst ((List.range n).map fun i => PV.int (i : Nat))) := by
  show (if near 16777216 (n : Int) then some (PV.lst (rangeL 0 (n : Int).toNat)) else none) = _
  rw [if_pos (near_mk (by omega) (by omega)), Int.toNat_natCast, v_range0]
section
variable {r : Env}
@[simp ↓] theorem w_lrng1 (f : M PV) (Q : PV → Env → Prop) : Wp (lrng1 f r) Q = Wp (f r) fun a r' => Wp (lft (rg1V a) r') Q := w_bnd _ _ _
@[simp ↓] theorem w_popAtM (i : Nat) (f : M PV) (Q : PV → Env → Prop) : Wp (popAtM i f r) Q = Wp (ownL i r) fun _ r1 => Wp (f r1) fun v r2 => Wp (ownL i r2) fun xs r3 => Bx (∃ (k : Nat) (y : PV), v = .int k ∧ k < 16777216 ∧ xs[k]? = some y ∧ Q y (r3.set i (some (.own (.lst (xs.eraseIdx k)))))) := by
  rw [show popAtM i f r = bnd (ownL i) (fun _ => bnd f fun v => bnd (ownL i) fun xs => match v with
    | .int (.ofNat k) => if k < xs.length && decide (k < LINE) then (match xs[k]? with | some y => bnd (putL i (xs.eraseIdx k)) fun _ => ret y | none => fun _ => .bad) else fun _ => .bad
    | _ => fun _ => .bad) r from rfl, w_bnd]
  refine wp_ext fun _ r1 => ?_; rw [w_bnd]; refine wp_ext fun v r2 => ?_; rw [w_bnd]; refine wp_ext fun xs r3 => ?_
  refine propext ⟨fun h => ?_, fun h => ?_⟩
  · split at h
    · rename_i k
      by_cases hk : (decide (k < xs.length) && decide (k < LINE)) = true
      · rw [if_pos hk] at h
        have hk' : k < xs.length ∧ k < LINE := by simpa using hk
        rw [List.getElem?_eq_getElem hk'.1] at h
        exact ⟨k, xs[k]'hk'.1, rfl, hk'.2, List.getElem?_eq_getElem hk'.1, h⟩
      · rw [if_neg hk] at h; exact h.elim
    · exact h.elim
  · obtain ⟨k, y, rfl, hk, hy, hQ⟩ := h
    have hl := (List.getElem?_eq_some_iff.mp hy).1
    show Wp ((if (decide (k < xs.length) && decide (k < LINE)) = true then (match xs[k]? with | some y => bnd (putL i (xs.eraseIdx k)) fun _ => ret y | none => fun _ => .bad : M PV) else fun _ => .bad) r3) Q
    rw [if_pos (by simp; exact ⟨hl, hk⟩), hy]
    exact hQ
end
theorem v_getR {N k : Nat} (f : Nat → PV) (h : k < N) : getV (.tup ((List.range N).map f)) (.int k) = some (f k) := L2.atI_nat (by rw [List.getElem?_map, List.getElem?_range h]; rfl)
section
variable {r : Env}
@[simp ↓] theorem w_lcO (i : Nat) (tg : PV → M Unit) (c : M Bool) (el : M PV) (own : List Nat) (Q : PV → Env → Prop) : Wp (lcO i tg c el own r) Q = Wp (ownL i r) fun xs r1 => Wp (lcM (ret xs) tg c el own (r1.set i none)) fun v r2 => Q v (r2.set i (some (.own (.lst xs)))) := by
  unfold lcO ownL
  cases r[i]? with
  | none => rfl
  | some q => cases q with
    | none => rfl
    | some sl => cases sl with
      | val v => rfl
      | own v => cases v with
        | lst xs =>
          show Wp (match lcM (ret xs) tg c el own (r.set i none) with | .ok v ρ' => .ok v (ρ'.set i (some (.own (.lst xs)))) | _ => .bad) Q = Wp (lcM (ret xs) tg c el own (r.set i none)) fun v r2 => Q v (r2.set i (some (.own (.lst xs))))
          cases lcM (ret xs) tg c el own (r.set i none) <;> rfl
        | _ => rfl
end
end G7

set_option Elab.async false
set_option linter.all false
set_option maxRecDepth 100000
set_option autoImplicit false
namespace G7
def wA : Nat → Nat → Wd
  | 0, _ => []
  | n + 1, k => wA n (k / 2) ++ [if k % 2 = 1 then 49 else 48]
def pcN : Nat → Nat → Nat
  | 0, _ => 0
  | n + 1, k => pcN n (k / 2) + k % 2
theorem wA_wn : ∀ n k : Nat, Wn n (wA n k)
  | 0, _ => ⟨rfl, isW_nil⟩
  | n + 1, k => (wA_wn n (k / 2)).app (m := 1) ⟨rfl, fun c hc => by rw [List.mem_singleton] at hc; rw [hc]; split <;> simp⟩
theorem wA_wt : ∀ n k : Nat, wt (wA n k) = pcN n k
  | 0, _ => rfl
  | n + 1, k => by
    show wt (wA n (k / 2) ++ _) = pcN n (k / 2) + k % 2
    rw [wt_app, wA_wt n (k / 2)]
    rcases Nat.mod_two_eq_zero_or_one k with h | h <;> rw [h] <;> rfl
theorem xor_div (a b : Nat) : (a ^^^ b) / 2 = (a / 2) ^^^ (b / 2) := by
  have := Nat.shiftRight_xor_distrib (a := a) (b := b) (i := 1)
  simpa [Nat.shiftRight_eq_div_pow] using this
theorem xor_mod (a b : Nat) : (a ^^^ b) % 2 = (a % 2 + b % 2) % 2 := by
  have h := Nat.xor_mod_two_pow (a := a) (b := b) (n := 1)
  rw [show 2 ^ 1 = 2 from rfl] at h
  rw [h]
  rcases Nat.mod_two_eq_zero_or_one a with h | h <;> rcases Nat.mod_two_eq_zero_or_one b with h2 | h2 <;> rw [h, h2] <;> rfl
theorem wA_xo : ∀ n a b : Nat, xo (wA n a) (wA n b) = wA n (a ^^^ b)
  | 0, _, _ => rfl
  | n + 1, a, b => by
    show xo (wA n (a / 2) ++ _) (wA n (b / 2) ++ _) = wA n ((a ^^^ b) / 2) ++ _
    rw [xo_append _ _ (by rw [(wA_wn n _).l, (wA_wn n _).l]), wA_xo n, xor_div, xor_mod]
    congr 1
    rcases Nat.mod_two_eq_zero_or_one a with h | h <;> rcases Nat.mod_two_eq_zero_or_one b with h2 | h2 <;> rw [h, h2] <;> rfl
theorem range_two : ∀ N : Nat, List.range (2 * N) = (List.range N).flatMap fun k => [2 * k, 2 * k + 1]
  | 0 => rfl
  | N + 1 => by
    rw [show 2 * (N + 1) = 2 * N + 1 + 1 by omega, List.range_succ, List.range_succ, range_two N, List.range_succ, List.flatMap_append]
    simp
theorem allB_num : ∀ n : Nat, allB n = (List.range (2 ^ n)).map (wA n)
  | 0 => rfl
  | n + 1 => by
    show (allB n).flatMap (fun w => [w ++ [48], w ++ [49]]) = _
    rw [allB_num n, Nat.pow_succ, Nat.mul_comm, range_two, List.flatMap_map, List.map_flatMap]
    congr 1
    funext k
    show _ = [wA n (2 * k / 2) ++ [if 2 * k % 2 = 1 then 49 else 48], wA n ((2 * k + 1) / 2) ++ [if (2 * k + 1) % 2 = 1 then 49 else 48]]
    rw [show 2 * k / 2 = k by omega, show (2 * k + 1) / 2 = k by omega, show 2 * k % 2 = 0 by omega, show (2 * k + 1) % 2 = 1 by omega]
    rfl
def grS {α : Type} (ok : α → α → Bool) (acc : List α) (x : α) : List α := if acc.all (ok x) then acc ++ [x] else acc
def grL {α : Type} (ok : α → α → Bool) (l : List α) : List α := l.foldl (grS ok) []
theorem gr_go {α : Type} (ok : α → α → Bool) : ∀ (l acc : List α), ∃ s : List α, s.Sublist l ∧ l.foldl (grS ok) acc = acc ++ s ∧ ∀ x ∈ l, x ∈ acc ++ s ∨ ∃ o ∈ acc ++ s, ok x o = false
  | [], acc => ⟨[], List.Sublist.refl _, by simp, fun _ h => by simp at h⟩
  | x :: l, acc => by
    rw [List.foldl_cons]
    unfold grS
    by_cases h : acc.all (ok x) = true
    · rw [if_pos h]
      obtain ⟨s, h1, h2, h3⟩ := gr_go ok l (acc ++ [x])
      refine ⟨x :: s, h1.cons_cons x, ?_, fun y hy => ?_⟩
      · have : l.foldl (grS ok) (acc ++ [x]) = acc ++ x :: s := by rw [h2]; simp
        exact this
      · rcases List.mem_cons.mp hy with rfl | hy
        · exact .inl (by simp)
        · have := h3 y hy
          simpa using this
    · rw [if_neg h]
      obtain ⟨s, h1, h2, h3⟩ := gr_go ok l acc
      refine ⟨s, h1.cons x, h2, fun y hy => ?_⟩
      rcases List.mem_cons.mp hy with rfl | hy
      · obtain ⟨o, ho, hf⟩ := List.all_eq_false.mp (Bool.eq_false_iff.mpr h)
        exact .inr ⟨o, List.mem_append.mpr (.inl ho), by simpa using hf⟩
      · exact h3 y hy
theorem gr_map {α β : Type} (f : α → β) (ok : α → α → Bool) (ok' : β → β → Bool) (h : ∀ a b, ok' (f a) (f b) = ok a b) : ∀ (l acc : List α), (l.map f).foldl (grS ok') (acc.map f) = (l.foldl (grS ok) acc).map f
  | [], acc => rfl
  | x :: l, acc => by
    rw [List.map_cons, List.foldl_cons, List.foldl_cons, ← gr_map f ok ok' h l]
    congr 1
    unfold grS
    have : (acc.map f).all (ok' (f x)) = acc.all (ok x) := by
      rw [List.all_map]
      congr 1
      funext o
      exact h x o
    rw [this]
    cases acc.all (ok x) <;> simp
def okN (n d a b : Nat) : Bool := decide (d ≤ pcN n (a ^^^ b))
def okW (d : Nat) (a b : Wd) : Bool := decide (d ≤ wt (xo a b))
def gB (n d : Nat) : List Nat := grL (okN n d) (List.range (2 ^ n))
def gW (n d : Nat) : List Wd := grL (okW d) (allB n)
theorem gW_num (n d : Nat) : gW n d = (gB n d).map (wA n) := by
  unfold gW gB grL
  rw [allB_num]
  have := gr_map (wA n) (okN n d) (okW d) (fun a b => by unfold okW okN; rw [wA_xo, wA_wt]) (List.range (2 ^ n)) []
  exact this
def dbl (bs : List Nat) : List Nat := bs.foldl (fun L b => L ++ L.map fun x => x ^^^ b) [0]
def basN (G : List Nat) : Nat → Nat → List Nat
  | 0, _ => []
  | f + 1, i => if i < G.length then G.getD i 0 :: basN G f (2 * i) else []
def grT : Bool := (List.range 8).all fun m => (List.range (m + 1)).all fun e => decide (gB (m + 1) (e + 1) = dbl (basN (gB (m + 1) (e + 1)) 9 1))
theorem grT_ok : grT = true := by decide +kernel
def XC (L : List Nat) : Prop := 0 ∈ L ∧ ∀ a ∈ L, ∀ b ∈ L, a ^^^ b ∈ L
theorem XC.more {L : List Nat} (h : XC L) (c : Nat) : XC (L ++ L.map fun x => x ^^^ c) := by
  refine ⟨List.mem_append.mpr (.inl h.1), fun a ha b hb => ?_⟩
  rcases List.mem_append.mp ha with ha | ha <;> rcases List.mem_append.mp hb with hb | hb
  · exact List.mem_append.mpr (.inl (h.2 a ha b hb))
  · obtain ⟨y, hy, rfl⟩ := List.mem_map.mp hb
    exact List.mem_append.mpr (.inr (List.mem_map.mpr ⟨a ^^^ y, h.2 a ha y hy, Nat.xor_assoc ..⟩))
  · obtain ⟨x, hx, rfl⟩ := List.mem_map.mp ha
    refine List.mem_append.mpr (.inr (List.mem_map.mpr ⟨x ^^^ b, h.2 x hx b hb, ?_⟩))
    rw [Nat.xor_assoc, Nat.xor_assoc, Nat.xor_comm b c]
  · obtain ⟨x, hx, rfl⟩ := List.mem_map.mp ha
    obtain ⟨y, hy, rfl⟩ := List.mem_map.mp hb
    refine List.mem_append.mpr (.inl ?_)
    rw [Nat.xor_comm y c, Nat.xor_assoc, ← Nat.xor_assoc c c y, Nat.xor_self, Nat.zero_xor]
    exact h.2 x hx y hy
theorem dbl_xc (bs : List Nat) : XC (dbl bs) := by
  have : ∀ (bs L : List Nat), XC L → XC (bs.foldl (fun L b => L ++ L.map fun x => x ^^^ b) L) := by
    intro bs
    induction bs with
    | nil => intro L h; exact h
    | cons b bs ih => intro L h; exact ih _ (h.more b)
  exact this bs [0] ⟨by simp, fun a ha b hb => by simp at ha hb; subst ha; subst hb; simp⟩
theorem gB_xc {n d : Nat} (h1 : 1 ≤ n) (hn : n ≤ 8) (hd1 : 1 ≤ d) (hd : d ≤ n) : XC (gB n d) := by
  have h := grT_ok
  unfold grT at h
  have h2 := List.all_eq_true.mp h (n - 1) (List.mem_range.mpr (by omega))
  have h3 := List.all_eq_true.mp h2 (d - 1) (List.mem_range.mpr (by omega))
  rw [show n - 1 + 1 = n by omega, show d - 1 + 1 = d by omega, decide_eq_true_eq] at h3
  rw [h3]
  exact dbl_xc _
theorem wA_zero : ∀ n : Nat, wA n 0 = zr n
  | 0 => rfl
  | n + 1 => by
    show wA n (0 / 2) ++ [48] = zr (n + 1)
    rw [show 0 / 2 = 0 from rfl, wA_zero n]
    unfold zr
    rw [List.replicate_succ']
theorem gW_sub (n d : Nat) : (gW n d).Sublist (allB n) ∧ ∀ w ∈ allB n, w ∈ gW n d ∨ ∃ o ∈ gW n d, wt (xo w o) < d := by
  obtain ⟨s, h1, h2, h3⟩ := gr_go (okW d) (allB n) []
  have e : gW n d = s := by unfold gW grL; rw [h2]; rfl
  rw [e]
  refine ⟨h1, fun w hw => ?_⟩
  rcases h3 w hw with h | ⟨o, ho, hf⟩
  · exact .inl (by simpa using h)
  · refine .inr ⟨o, by simpa using ho, ?_⟩
    unfold okW at hf
    have := of_decide_eq_false hf
    omega
theorem gW_code {n d : Nat} (h1 : 1 ≤ n) (hn : n ≤ 8) (hd1 : 1 ≤ d) (hd : d ≤ n) : AllW n (gW n d) ∧ EnumL (SpW n (gW n d)) (gW n d) ∧ (gW n d).Pairwise fun a b => ltL a b = true := by
  obtain ⟨hs, -⟩ := gW_sub n d
  have hall : AllW n (gW n d) := fun w hw => allB_mem.mp (hs.subset hw)
  have hup := (allB_up n).sublist hs
  refine ⟨hall, ⟨(all_enum n).nd.sublist hs, fun w => ⟨fun h => ⟨hall w h, sp_mem hall h⟩, fun h => ?_⟩⟩, hup⟩
  have hx := gB_xc h1 hn hd1 hd
  have l : Lin n fun w => w ∈ gW n d := by
    refine ⟨fun w hw => hall w hw, ?_, fun u v hu hv => ?_⟩
    · rw [gW_num]; exact List.mem_map.mpr ⟨0, hx.1, wA_zero n⟩
    · rw [gW_num] at hu hv ⊢
      obtain ⟨a, ha, rfl⟩ := List.mem_map.mp hu
      obtain ⟨b, hb, rfl⟩ := List.mem_map.mp hv
      exact List.mem_map.mpr ⟨a ^^^ b, hx.2 a ha b hb, (wA_xo n a b).symm⟩
  exact sp_least l (ws := gW n d) (fun x hx => hx) h.1 h.2
end G7

set_option Elab.async false
set_option linter.all false
set_option maxRecDepth 100000
set_option autoImplicit false
namespace G7
theorem xo_lcan {n : Nat} {a b : Wd} (ha : Wn n a) (hb : Wn n b) : xo a (xo a b) = b := by rw [← xo_assoc ha ha hb, xo_self ha.l, xo_comm, xo_zr hb]
theorem rem_coset {n : Nat} {bs : List Wd} (h : RedW n bs) {u v : Wd} (hu : Wn n u) (hv : Wn n v) : remL bs u = remL bs v ↔ SpW n bs (xo u v) := by
  have hall := RedW.all h.u
  obtain ⟨u1, u2, u3⟩ := rem_ok h.u hu
  obtain ⟨v1, v2, v3⟩ := rem_ok h.u hv
  have L := sp_lin hall
  have su : SpW n bs (xo (remL bs u) u) := ⟨u1.xo hu, u2⟩
  have sv : SpW n bs (xo (remL bs v) v) := ⟨v1.xo hv, v2⟩
  constructor
  · intro e
    have := L.a _ _ su sv
    rw [e] at this
    have e2 : xo (xo (remL bs v) u) (xo (remL bs v) v) = xo u v := by
      rw [xo_comm (remL bs v) u, xo_assoc hu v1 (v1.xo hv), xo_lcan v1 hv]
    rwa [e2] at this
  · intro hs
    have h1 : SpW n bs (xo (remL bs u) (remL bs v)) := by
      have := L.a _ _ (L.a _ _ su sv) hs
      have e2 : xo (xo (xo (remL bs u) u) (xo (remL bs v) v)) (xo u v) = xo (remL bs u) (remL bs v) := by
        refine bt_ext (((u1.xo hu).xo (v1.xo hv)).xo (hu.xo hv)) (u1.xo v1) fun i _ => ?_
        rw [bt_xo ((u1.xo hu).xo (v1.xo hv)) (hu.xo hv), bt_xo (u1.xo hu) (v1.xo hv), bt_xo u1 hu, bt_xo v1 hv, bt_xo hu hv, bt_xo u1 v1]
        cases bt (remL bs u) i <;> cases bt u i <;> cases bt (remL bs v) i <;> cases bt v i <;> rfl
      rwa [e2] at this
    have h2 : xo (remL bs u) (remL bs v) = zr n := by
      refine h.u.zero h1.1 (by rw [bs_rows]; exact h1.2) fun r hr => ?_
      obtain ⟨b, hb, rfl⟩ := List.mem_map.mp hr
      show at_ (xo (remL bs u) (remL bs v)) (ldOf b) = 48
      rw [at_xo u1 v1, u3 b hb, v3 b hb]; rfl
    exact xo_eq_zr u1 v1 h2
def ldF (key : Wd → Wd) (acc : List (Wd × Wd)) (w : Wd) : List (Wd × Wd) := if key w ∈ acc.map (·.1) then acc else acc ++ [(key w, w)]
def ldL (key : Wd → Wd) (l : List Wd) : List (Wd × Wd) := l.foldl (ldF key) []
theorem keys_uniq {α β : Type} {l : List (α × β)} (nd : (l.map (·.1)).Nodup) {p q : α × β} (hp : p ∈ l) (hq : q ∈ l) (e : p.1 = q.1) : p = q := by
  have nd := List.pairwise_map.mp nd
  obtain ⟨i, hi⟩ := List.getElem?_of_mem hp
  obtain ⟨j, hj⟩ := List.getElem?_of_mem hq
  obtain ⟨li, ei⟩ := List.getElem?_eq_some_iff.mp hi
  obtain ⟨lj, ej⟩ := List.getElem?_eq_some_iff.mp hj
  rw [List.pairwise_iff_getElem] at nd
  rcases Nat.lt_trichotomy i j with h | h | h
  · exact absurd (by rw [ei, ej]; exact e) (nd i j li lj h)
  · subst h; exact ei.symm.trans ej
  · exact absurd (by rw [ei, ej]; exact e.symm) (nd j i lj li h)
theorem ld_go (key : Wd → Wd) : ∀ (l acc : List (Wd)) (A : List (Wd × Wd)), (A.map (·.1)).Nodup → (∀ p ∈ A, p.1 = key p.2) →
    ((l.foldl (ldF key) A).map (·.1)).Nodup ∧ (∀ p ∈ l.foldl (ldF key) A, p.1 = key p.2 ∧ (p ∈ A ∨ p.2 ∈ l)) ∧ (∀ p ∈ A, p ∈ l.foldl (ldF key) A) ∧ (∀ w ∈ l, key w ∈ (l.foldl (ldF key) A).map (·.1)) ∧
    (∀ R : Wd → Wd → Prop, (∀ x, R x x) → l.Pairwise R → (∀ p ∈ A, ∀ w ∈ l, key w = p.1 → R p.2 w) → ∀ p ∈ l.foldl (ldF key) A, ∀ w ∈ l, key w = p.1 → R p.2 w)
  | [], acc, A, h1, h2 => ⟨h1, fun p hp => ⟨h2 p hp, .inl hp⟩, fun _ h => h, fun _ h => by simp at h, fun _ _ _ _ _ _ _ h => by simp at h⟩
  | x :: l, acc, A, h1, h2 => by
    rw [List.foldl_cons]
    by_cases hm : key x ∈ A.map (·.1)
    · have e : ldF key A x = A := if_pos hm
      rw [e]
      obtain ⟨g1, g2, g3, g4, g5⟩ := ld_go key l acc A h1 h2
      refine ⟨g1, fun p hp => ⟨(g2 p hp).1, (g2 p hp).2.imp id fun z => List.mem_cons_of_mem _ z⟩, g3, fun w hw => ?_, fun R hr hR hA p hp w hw hk => ?_⟩
      · rcases List.mem_cons.mp hw with rfl | hw
        · obtain ⟨p, hp, e⟩ := List.mem_map.mp hm
          exact List.mem_map.mpr ⟨p, g3 p hp, e⟩
        · exact g4 w hw
      · obtain ⟨r1, r2⟩ := List.pairwise_cons.mp hR
        rcases List.mem_cons.mp hw with rfl | hw
        · obtain ⟨q, hq, eq⟩ := List.mem_map.mp hm
          have : p = q := keys_uniq g1 hp (g3 q hq) (hk.symm.trans eq.symm)
          subst this
          exact hA p hq w (List.mem_cons_self ..) hk
        · exact g5 R hr r2 (fun q hq y hy => hA q hq y (List.mem_cons_of_mem _ hy)) p hp w hw hk
    · have e : ldF key A x = A ++ [(key x, x)] := if_neg hm
      rw [e]
      have n1 : ((A ++ [(key x, x)]).map (·.1)).Nodup := by
        rw [List.map_append]
        refine List.nodup_append.mpr ⟨h1, by simp, fun a ha b hb e => ?_⟩
        simp at hb
        subst hb; subst e
        exact hm ha
      have n2 : ∀ p ∈ A ++ [(key x, x)], p.1 = key p.2 := fun p hp => by
        rcases List.mem_append.mp hp with h | h
        · exact h2 p h
        · simp at h; rw [h]
      obtain ⟨g1, g2, g3, g4, g5⟩ := ld_go key l acc _ n1 n2
      refine ⟨g1, fun p hp => ⟨(g2 p hp).1, ?_⟩, fun p hp => g3 p (List.mem_append.mpr (.inl hp)), fun w hw => ?_, fun R hr hR hA p hp w hw hk => ?_⟩
      · rcases (g2 p hp).2 with h | h
        · rcases List.mem_append.mp h with h | h
          · exact .inl h
          · simp at h; rw [h]; exact .inr (List.mem_cons_self ..)
        · exact .inr (List.mem_cons_of_mem _ h)
      · rcases List.mem_cons.mp hw with rfl | hw
        · exact List.mem_map.mpr ⟨(key w, w), g3 _ (List.mem_append.mpr (.inr (by simp))), rfl⟩
        · exact g4 w hw
      · obtain ⟨r1, r2⟩ := List.pairwise_cons.mp hR
        rcases List.mem_cons.mp hw with rfl | hw
        · -- x itself: its own entry
          have hx := g3 (key w, w) (List.mem_append.mpr (.inr (by simp)))
          have : p = (key w, w) := keys_uniq g1 hp hx hk.symm
          rw [this]
          exact hr w
        · refine g5 R hr r2 (fun q hq y hy hky => ?_) p hp w hw hk
          rcases List.mem_append.mp hq with h | h
          · exact hA q h y (List.mem_cons_of_mem _ hy) hky
          · simp at h; rw [h]; exact r1 y hy
def ltW (a b : Wd) : Bool := ltQ (((wt a : Nat) : Int), a) (((wt b : Nat) : Int), b)
def WL (n : Nat) : List Wd := (srt ltQ ((allB n).map fun w => (((wt w : Nat) : Int), w))).map (·.2)
theorem srtQ_form (n : Nat) : srt ltQ ((allB n).map fun w => (((wt w : Nat) : Int), w)) = (WL n).map fun w => (((wt w : Nat) : Int), w) := by
  unfold WL
  rw [List.map_map]
  refine (List.map_id _).symm.trans (List.map_congr_left fun p hp => ?_)
  have := (srt_perm (lt := ltQ) _).mem_iff.mp hp
  obtain ⟨w, _, rfl⟩ := List.mem_map.mp this
  rfl
theorem WL_perm (n : Nat) : (WL n).Perm (allB n) := by
  unfold WL
  have := (srt_perm (lt := ltQ) ((allB n).map fun w => (((wt w : Nat) : Int), w))).map (·.2)
  refine this.trans ?_
  rw [List.map_map]
  exact List.Perm.of_eq ((List.map_congr_left fun _ _ => rfl).trans (List.map_id _))
theorem WL_up (n : Nat) : (WL n).Pairwise fun a b => ltW b a = false := by
  have h := srt_up ltQ_tot ((allB n).map fun w => (((wt w : Nat) : Int), w))
  rw [srtQ_form] at h
  exact List.pairwise_map.mp h
/-- the leaders by their remainders -/
def leadD (n : Nat) (bs : List Wd) : List (Wd × Wd) := ldL (remL bs) (WL n)
structure LeadOk (n : Nat) (bs : List Wd) (A : List (Wd × Wd)) : Prop where
  nd : (A.map (·.1)).Nodup
  k : ∀ p ∈ A, p.1 = remL bs p.2
  w : ∀ p ∈ A, Wn n p.2
  all : ∀ v, Wn n v → remL bs v ∈ A.map (·.1)
  min : ∀ p ∈ A, ∀ v, Wn n v → remL bs v = p.1 → ltW v p.2 = false
theorem lead_ok (n : Nat) (bs : List Wd) : LeadOk n bs (leadD n bs) := by
  have hm : ∀ w, w ∈ WL n ↔ Wn n w := fun w => (WL_perm n).mem_iff.trans allB_mem
  obtain ⟨g1, g2, g3, g4, g5⟩ := ld_go (remL bs) (WL n) [] [] (by simp) (fun p h => by simp at h)
  refine ⟨g1, fun p hp => (g2 p hp).1, fun p hp => ?_, fun v hv => g4 v ((hm v).mpr hv), fun p hp v hv hk => ?_⟩
  · rcases (g2 p hp).2 with h | h
    · simp at h
    · exact (hm _).mp h
  · exact g5 (fun a b => ltW b a = false) (fun x => ltQ_tot.irr _) (WL_up n) (fun p h => by simp at h) p hp v ((hm v).mpr hv) hk
theorem minQ_le (p : Int × List Nat) : ∀ ps : List (Int × List Nat), ∀ y ∈ p :: ps, ltQ y (minQ p ps) = false := by
  intro ps
  unfold minQ
  induction ps generalizing p with
  | nil => intro y hy; simp at hy; rw [hy]; exact ltQ_tot.irr _
  | cons q ps ih =>
    intro y hy
    rw [List.foldl_cons]
    by_cases h : ltQ q p = true
    · rw [if_pos h]
      rcases List.mem_cons.mp hy with rfl | hy
      · have h1 := ih q q (List.mem_cons_self ..)
        exact ltQ_tot.tr _ _ _ h1 (ltQ_tot.asym _ _ h)
      · exact ih q y hy
    · rw [if_neg h]
      have h' : ltQ q p = false := by simpa using h
      rcases List.mem_cons.mp hy with rfl | hy
      · exact ih y y (List.mem_cons_self ..)
      · rcases List.mem_cons.mp hy with rfl | hy
        · have h1 := ih p p (List.mem_cons_self ..)
          exact ltQ_tot.tr _ _ _ h1 h'
        · exact ih p y (List.mem_cons_of_mem _ hy)
theorem wp_lc2 {α β : Type} {it it1 : M (List PV)} {tg tg1 : PV → M Unit} {el : M PV} {own own1 : List Nat} {ρ : Env} {Q : PV → Env → Prop} (ys : List α) (f : α → PV) (xs1 : List β) (f1 : β → PV) (g : α → β → PV) (hl : (ys.flatMap fun y => xs1.map (g y)).length ≤ 16777216)
    (h : Wp (it ρ) fun xs ρ' => Bx (xs = ys.map f ∧ wipeE (wipeE ρ' own) own = wipeE ρ' own ∧ (∀ y ∈ ys, Wp (tg (f y) (wipeE ρ' own)) fun _ ρ1 => Wp (it1 ρ1) fun xs ρ2 => Bx (xs = xs1.map f1 ∧ wipeE (wipeE ρ2 own1) own1 = wipeE ρ2 own1 ∧ wipeE (wipeE ρ2 own1) own = wipeE ρ' own ∧ ∀ z ∈ xs1, Wp (tg1 (f1 z) (wipeE ρ2 own1)) fun _ ρ3 => Wp (el ρ3) fun v ρ4 => v = g y z ∧ wipeE ρ4 own1 = wipeE ρ2 own1)) ∧
      Q (.lst (ys.flatMap fun y => xs1.map (g y))) (restE ρ' (wipeE ρ' own) own))) : Wp (lc2M it tg yesM it1 tg1 yesM el own own1 ρ) Q := by
  obtain ⟨xs, ρ', e, rfl, hw, hs, hQ⟩ := h.get
  have key : ∀ (zs : List α) (ρ0 : Env), (∀ y ∈ zs, y ∈ ys) → wipeE ρ0 own = wipeE ρ' own → lc2L tg yesM it1 tg1 yesM el own own1 (zs.map f) ρ0 = .ok (zs.flatMap fun y => xs1.map (g y)) (wipeE ρ' own) := by
    intro zs
    induction zs with
    | nil => intro ρ0 _ e; show Res.ok [] (wipeE ρ0 own) = _; rw [e]; rfl
    | cons z zs ih =>
      intro ρ0 hz e
      obtain ⟨_, ρ1, e1, h1⟩ := (hs z (hz z (List.mem_cons_self ..))).get
      obtain ⟨xs', ρ2, e2, rfl, w1, w2, h2⟩ := h1.get
      have inner : ∀ (us : List β) (ρ5 : Env), (∀ u ∈ us, u ∈ xs1) → wipeE ρ5 own1 = wipeE ρ2 own1 → lcL tg1 yesM el own1 (us.map f1) ρ5 = .ok (us.map (g z)) (wipeE ρ2 own1) := by
        intro us
        induction us with
        | nil => intro ρ5 _ e; show Res.ok [] (wipeE ρ5 own1) = _; rw [e]; rfl
        | cons u us ihu =>
          intro ρ5 hu e5
          obtain ⟨_, ρ3, e3, h3⟩ := (h2 u (hu u (List.mem_cons_self ..))).get
          obtain ⟨v, ρ4, e4, rfl, w4⟩ := h3.get
          have hr := ihu ρ4 (fun y hy => hu y (List.mem_cons_of_mem _ hy)) w4
          show bndN (tg1 (f1 u)) (bnd yesM fun b => if b then bnd el fun y => bnd (lcL tg1 yesM el own1 (us.map f1)) fun ys => ret (y :: ys) else lcL tg1 yesM el own1 (us.map f1)) (wipeE ρ5 own1) = _
          rw [e5]
          simp [e3, e4, hr]
      have hr := ih (wipeE ρ2 own1) (fun y hy => hz y (List.mem_cons_of_mem _ hy)) w2
      have hi := inner xs1 ρ2 (fun _ h => h) rfl
      show bndN (tg (f z)) (bnd yesM fun b => if b then bnd it1 fun xs1 => bnd (lcL tg1 yesM el own1 xs1) fun ys => bnd (lc2L tg yesM it1 tg1 yesM el own own1 (zs.map f)) fun zs => ret (ys ++ zs) else lc2L tg yesM it1 tg1 yesM el own own1 (zs.map f)) (wipeE ρ0 own) = _
      rw [e]
      simp [e1, e2, hi, hr]
  have : lc2M it tg yesM it1 tg1 yesM el own own1 ρ = .ok (.lst (ys.flatMap fun y => xs1.map (g y))) (restE ρ' (wipeE ρ' own) own) := by
    show (bnd it _) ρ = _
    rw [e_bnd, e]
    show (match lc2L tg yesM it1 tg1 yesM el own own1 (ys.map f) (wipeE ρ' own) with | .ok zs ρ'' => if zs.length ≤ LINE then Res.ok (PV.lst zs) (restE ρ' ρ'' own) else .bad | _ => .bad) = _
    rw [key ys _ (fun _ h => h) hw]
    show (if _ then _ else _) = _
    rw [if_pos hl]
  rw [this]; exact hQ
theorem v_sortPW (n : Nat) : sortP (.lst ((allB n).map fun w => PV.tup [.int (wt w : Nat), .str w])) = some (.lst ((WL n).map fun w => PV.tup [.int (wt w : Nat), .str w])) := by
  have e := prsP_map ((allB n).map fun w => (((wt w : Nat) : Int), w))
  rw [List.map_map] at e
  have e' : prsP ((allB n).map fun w => PV.tup [.int (wt w : Nat), .str w]) = some ((allB n).map fun w => (((wt w : Nat) : Int), w)) := e
  show (prsP ((allB n).map fun w => PV.tup [.int (wt w : Nat), .str w])).map _ = _
  rw [e']
  show some (PV.lst ((srt ltQ ((allB n).map fun w => (((wt w : Nat) : Int), w))).map prV)) = _
  rw [srtQ_form, List.map_map]; rfl
def kvP (p : Wd × Wd) : PV × PV := (.str p.1, .str p.2)
theorem kv_keys (A : List (Wd × Wd)) : (A.map kvP).map (·.1) = (A.map (·.1)).map .str := by rw [List.map_map, List.map_map]; rfl
theorem put_new {A : List (Wd × Wd)} {k w : Wd} (h : k ∉ A.map (·.1)) : putD (.str k) (.str w) (A.map kvP) = (A ++ [(k, w)]).map kvP := by
  unfold putD
  rw [(keys_look k (A.map kvP) (A.map (·.1)) (kv_keys A)).2, decide_eq_false h, List.map_append]
  rfl
theorem look_kv : ∀ {A : List (Wd × Wd)} {p : Wd × Wd}, (A.map (·.1)).Nodup → p ∈ A → lookD (.str p.1) (A.map kvP) = some (.str p.2)
  | [], _, _, h => by simp at h
  | q :: A, p, nd, h => by
    show (if eqv (.str q.1) (.str p.1) then some (PV.str q.2) else lookD (.str p.1) (A.map kvP)) = _
    rw [show eqv (.str q.1) (.str p.1) = decide (q.1 = p.1) from beqL q.1 p.1]
    by_cases e : q.1 = p.1
    · have : p = q := keys_uniq nd h (List.mem_cons_self ..) e.symm
      subst this
      simp
    · rw [decide_eq_false e]
      rcases List.mem_cons.mp h with rfl | h
      · exact absurd rfl e
      · rw [List.map_cons] at nd
        exact look_kv (List.nodup_cons.mp nd).2 h
theorem minQ_mem (p : Int × List Nat) : ∀ ps : List (Int × List Nat), minQ p ps ∈ p :: ps := by
  intro ps
  unfold minQ
  induction ps generalizing p with
  | nil => simp
  | cons y ps ih =>
    rw [List.foldl_cons]
    by_cases h : ltQ y p = true
    · rw [if_pos h]
      exact List.mem_cons_of_mem _ (ih y)
    · rw [if_neg h]
      rcases List.mem_cons.mp (ih p) with h | h
      · rw [h]; simp
      · exact List.mem_cons_of_mem _ (List.mem_cons_of_mem _ h)
theorem tail_lst {n : Nat} (hn : n ≤ 10) {bs : List Wd} (h : RedW n bs) (hne : bs ≠ []) : ∃ z q qs, srt ltL (wordsL n bs) = z :: q :: qs := by
  have hl : (srt ltL (wordsL n bs)).length = 2 ^ bs.length := by rw [(srt_perm _).length_eq, wordsL_len]
  have : 2 ≤ 2 ^ bs.length := by
    have : 0 < bs.length := List.length_pos_iff.mpr hne
    exact Nat.pow_le_pow_right (n := 2) (i := 1) (by decide) this
  match hm : srt ltL (wordsL n bs), hl with
  | [], hl => simp at hl; omega
  | [_], hl => simp at hl; omega
  | z :: q :: qs, _ => exact ⟨z, q, qs, rfl⟩
theorem v_minL {q : Wd} {qs : List Wd} : minP (.lst ((q :: qs).map fun w => PV.tup [.int (wt w : Nat), .str w])) = some (prV (minQ ((wt q : Nat), q) (qs.map fun w => (((wt w : Nat) : Int), w)))) := by
  have e := prsP_map ((q :: qs).map fun w => (((wt w : Nat) : Int), w))
  rw [List.map_map] at e
  have e' : prsP ((q :: qs).map fun w => PV.tup [.int (wt w : Nat), .str w]) = some ((q :: qs).map fun w => (((wt w : Nat) : Int), w)) := e
  show (match prsP ((q :: qs).map fun w => PV.tup [.int (wt w : Nat), .str w]) with | some (p :: ps) => some (prV (minQ p ps)) | _ => none) = _
  rw [e']; rfl
theorem wp_joinV {b : Bool} {A B : M PV} {r : Env} {K : PV → Env → Prop} (J : PV → Env → Prop) (h1 : b = true → Wp (A r) J) (h2 : b = false → Wp (B r) J) (h3 : ∀ v r', J v r' → K v r') : IfK b (Wp (A r) K) (Wp (B r) K) := IfK.of (fun h => (h1 h).mono h3) (fun h => (h2 h).mono h3)
theorem eq_nilL {α : Type} (f : α → PV) (hf : ∀ x, dp 59 (f x) = true) (l : List α) : eqV (.lst (l.map f)) (.lst []) = some (.bl (decide (l = []))) := by
  unfold eqV
  rw [show dp 60 (.lst (l.map f)) = true from dp_map f 59 l hf, show dp 60 (.lst []) = true from rfl]
  cases l with
  | nil => rfl
  | cons x l => rfl
theorem ne_nilT {α : Type} (f : α → PV) (hf : ∀ x, dp 59 (f x) = true) (l : List α) : neV (.tup (l.map f)) (.tup []) = some (.bl (decide (l ≠ []))) := by
  unfold neV
  rw [show dp 60 (.tup (l.map f)) = true from dp_map f 59 l hf, show dp 60 (.tup []) = true from rfl]
  cases l with
  | nil => rfl
  | cons x l => rfl
theorem v_minF {α : Type} (f : α → Int) {l : List α} (h : l ≠ []) : minV (.lst (l.map fun x => .int (f x))) = some (.int (minI (l.map f))) := by
  have e := intsP_map (l.map f)
  rw [List.map_map] at e
  have e' : intsP (l.map fun x => PV.int (f x)) = some (l.map f) := e
  cases l with
  | nil => exact absurd rfl h
  | cons x l =>
    show (match intsP ((x :: l).map fun x => PV.int (f x)) with | some (n :: ns) => some (PV.int (minI (n :: ns))) | _ => none) = _
    rw [e']; rfl
theorem v_maxF {α : Type} (f : α → Int) {l : List α} (h : l ≠ []) : maxV (.lst (l.map fun x => .int (f x))) = some (.int (maxI (l.map f))) := by
  have e := intsP_map (l.map f)
  rw [List.map_map] at e
  have e' : intsP (l.map fun x => PV.int (f x)) = some (l.map f) := e
  cases l with
  | nil => exact absurd rfl h
  | cons x l =>
    show (match intsP ((x :: l).map fun x => PV.int (f x)) with | some (n :: ns) => some (PV.int (maxI (n :: ns))) | _ => none) = _
    rw [e']; rfl
theorem wt_xo_le : ∀ {n : Nat} {a b : Wd}, Wn n a → Wn n b → wt (xo a b) ≤ wt a + wt b
  | 0, a, b, ha, hb => by
    have := List.eq_nil_of_length_eq_zero ha.l
    subst this
    exact Nat.zero_le _
  | n + 1, a, b, ha, hb => by
    rcases ha.cases with ⟨e, _⟩ | ⟨m, x, a', e, rfl, hx, ha'⟩
    · cases e
    rcases hb.cases with ⟨e', _⟩ | ⟨m', y, b', e', rfl, hy, hb'⟩
    · cases e'
    cases e; cases e'
    have ih := wt_xo_le ha' hb'
    show wt (xb x y :: xo a' b') ≤ _
    rw [wt_cons, wt_cons, wt_cons]
    rcases hx with rfl | rfl <;> rcases hy with rfl | rfl <;> simp [xb] <;> omega
theorem cnt_allF : ∀ n k : Nat, ((cntW (allF n) k : Nat) : Int) = kr n 0 k
  | 0, 0 => rfl
  | 0, k + 1 => rfl
  | n + 1, k => by
    have e : cntW (allF (n + 1)) k = cntW (allF n) k + (match k with | 0 => 0 | k + 1 => cntW (allF n) k) := by
      unfold cntW
      show (((allF n).map (fun w => 48 :: w) ++ (allF n).map fun w => 49 :: w).filter _).length = _
      rw [List.filter_append, List.length_append, List.filter_map, List.filter_map, List.length_map, List.length_map]
      congr 1
      cases k with
      | zero =>
        rw [List.filter_eq_nil_iff.mpr]
        · rfl
        · intro w _
          show ¬ decide (wt (49 :: w) = 0) = true
          rw [wt_cons]; simp
      | succ k =>
        show _ = ((allF n).filter _).length
        congr 1
        refine List.filter_congr fun w _ => ?_
        show decide (wt (49 :: w) = k + 1) = decide (wt w = k)
        rw [wt_cons]
        have : (if (49 : Nat) = 49 then 1 else 0) = 1 := rfl
        rw [this]
        by_cases h : wt w = k
        · rw [decide_eq_true h, decide_eq_true (by omega)]
        · rw [decide_eq_false h, decide_eq_false (by omega)]
    rw [e]
    cases k with
    | zero => show ((cntW (allF n) 0 + 0 : Nat) : Int) = kr n 0 0; rw [Nat.add_zero]; exact cnt_allF n 0
    | succ k =>
      show ((cntW (allF n) (k + 1) + cntW (allF n) k : Nat) : Int) = kr n 0 (k + 1) + kr n 0 k
      rw [← cnt_allF n (k + 1), ← cnt_allF n k]; push_cast; rfl
theorem cnt_le_sum (L : List Wd) : ∀ t : Nat, (((L.filter fun w => decide (wt w < t)).length : Nat) : Int) = sumI ((List.range t).map fun k => ((cntW L k : Nat) : Int))
  | 0 => by
    rw [List.filter_eq_nil_iff.mpr (fun w _ => by simp)]; rfl
  | t + 1 => by
    rw [List.range_succ, List.map_append, sumI_app, ← cnt_le_sum L t]
    have : (L.filter fun w => decide (wt w < t + 1)).length = (L.filter fun w => decide (wt w < t)).length + cntW L t := by
      unfold cntW
      induction L with
      | nil => rfl
      | cons w L ih =>
        rw [List.filter_cons, List.filter_cons, List.filter_cons]
        by_cases h1 : wt w < t
        · have h2 : wt w < t + 1 := by omega
          have h3 : ¬ wt w = t := by omega
          simp [h1, h2, h3]; omega
        · by_cases h3 : wt w = t
          · have h2 : wt w < t + 1 := by omega
            simp [h1, h2, h3]; omega
          · have h2 : ¬ wt w < t + 1 := by omega
            simp [h1, h2, h3]; omega
    rw [this]
    show ((_ + _ : Nat) : Int) = _ + (((cntW L t : Nat) : Int) + 0)
    push_cast; omega
theorem ltW_wt {a b : Wd} (h : ltW a b = false) : wt b ≤ wt a := by
  unfold ltW ltQ at h
  rw [Bool.or_eq_false_iff, decide_eq_false_iff_not] at h
  have h1 : ¬ ((wt a : Nat) : Int) < ((wt b : Nat) : Int) := h.1
  omega
/-- all cosets together are all words -/
theorem lead_cover {n : Nat} {bs : List Wd} (h : RedW n bs) {L : List Wd} (hL : EnumL (SpW n bs) L) : (leadD n bs).length * L.length = 2 ^ n := by
  have O := lead_ok n bs
  have hLw : ∀ u ∈ L, Wn n u := fun u hu => ((hL.m u).mp hu).1
  have key : ∀ A : List (Wd × Wd), (A.map (·.1)).Nodup → (∀ p ∈ A, p.1 = remL bs p.2) → (∀ p ∈ A, Wn n p.2) → (A.flatMap fun p => L.map (xo p.2)).Nodup := by
    intro A
    induction A with
    | nil => intro _ _ _; exact List.nodup_nil
    | cons p A ih =>
      intro nd hk hw
      rw [List.map_cons] at nd
      obtain ⟨n1, n2⟩ := List.nodup_cons.mp nd
      rw [List.flatMap_cons]
      have hpw := hw p (List.mem_cons_self ..)
      refine List.nodup_append.mpr ⟨?_, ih n2 (fun q hq => hk q (List.mem_cons_of_mem _ hq)) (fun q hq => hw q (List.mem_cons_of_mem _ hq)), ?_⟩
      · exact List.pairwise_map.mpr (hL.nd.imp_of_mem fun {a b} ha hb hab e => hab (by
          rw [xo_comm p.2 a, xo_comm p.2 b] at e
          exact xo_inj (hLw a ha) (hLw b hb) hpw e))
      · intro x hx y hy e
        subst e
        obtain ⟨a, ha, rfl⟩ := List.mem_map.mp hx
        obtain ⟨q, hq, hy⟩ := List.mem_flatMap.mp hy
        obtain ⟨b, hb, e⟩ := List.mem_map.mp hy
        have hqw := hw q (List.mem_cons_of_mem _ hq)
        have r1 : remL bs (xo p.2 a) = remL bs p.2 := (rem_coset h (hpw.xo (hLw a ha)) hpw).mpr (by
          rw [xo_comm p.2 a, xo_back (hLw a ha) hpw]; exact (hL.m a).mp ha)
        have r2 : remL bs (xo q.2 b) = remL bs q.2 := (rem_coset h (hqw.xo (hLw b hb)) hqw).mpr (by
          rw [xo_comm q.2 b, xo_back (hLw b hb) hqw]; exact (hL.m b).mp hb)
        have : q.1 = p.1 := by
          rw [hk q (List.mem_cons_of_mem _ hq), hk p (List.mem_cons_self ..), ← r2, e, r1]
        exact n1 (List.mem_map.mpr ⟨q, hq, this⟩)
  have en : EnumL (Wn n) ((leadD n bs).flatMap fun p => L.map (xo p.2)) := by
    refine ⟨key _ O.nd O.k O.w, fun w => ⟨fun hw => ?_, fun hw => ?_⟩⟩
    · obtain ⟨p, hp, h2⟩ := List.mem_flatMap.mp hw
      obtain ⟨a, ha, rfl⟩ := List.mem_map.mp h2
      exact (O.w p hp).xo (hLw a ha)
    · obtain ⟨p, hp, hk⟩ := List.mem_map.mp (O.all w hw)
      have hpw := O.w p hp
      refine List.mem_flatMap.mpr ⟨p, hp, List.mem_map.mpr ⟨xo p.2 w, (hL.m _).mpr ?_, xo_lcan hpw hw⟩⟩
      exact (rem_coset h hpw hw).mp ((O.k p hp).symm.trans hk)
  have hp := (enum_perm en (all_enum n)).length_eq
  rw [allB_len] at hp
  rw [← hp]
  clear hp en key O
  induction leadD n bs with
  | nil => simp
  | cons p A ih => rw [List.flatMap_cons, List.length_append, List.length_map, ← ih, List.length_cons, Nat.add_mul]; omega
/-- balls that fill everything -/
theorem perfect_iff {n : Nat} {bs : List Wd} (h : RedW n bs) {L : List Wd} (hL : EnumL (SpW n bs) L) {m t : Nat} (hm : ∀ w, SpW n bs w → w ≠ zr n → m ≤ wt w) (ht : 2 * t < m) :
    (∀ p ∈ leadD n bs, wt p.2 < t + 1) ↔ ((allB n).filter fun w => decide (wt w < t + 1)).length * L.length = 2 ^ n := by
  have O := lead_ok n bs
  have hall := RedW.all h.u
  have hpos : 0 < L.length := List.length_pos_of_mem ((hL.m (zr n)).mpr (sp_lin hall).z)
  have hc := lead_cover h hL
  have hS : (((leadD n bs).map (·.2)).filter fun w => decide (wt w < t + 1)).Perm ((allB n).filter fun w => decide (wt w < t + 1)) := by
    have nd2 : ((leadD n bs).map (·.2)).Nodup := by
      have := O.nd
      rw [List.map_congr_left (g := fun p => remL bs p.2) O.k] at this
      have h3 : (((leadD n bs).map (·.2)).map (remL bs)).Nodup := by rw [List.map_map]; exact this
      exact (List.pairwise_map.mp h3).imp fun {a b} hab e => hab (by rw [e])
    refine (List.perm_ext_iff_of_nodup (nd2.filter _) ((all_enum n).nd.filter _)).mpr fun w => ?_
    rw [List.mem_filter, List.mem_filter, decide_eq_true_eq]
    refine and_congr_left fun hw => ⟨fun hm' => ?_, fun hm' => ?_⟩
    · obtain ⟨p, hp, rfl⟩ := List.mem_map.mp hm'
      exact allB_mem.mpr (O.w p hp)
    · have hww := allB_mem.mp hm'
      obtain ⟨p, hp, hk⟩ := List.mem_map.mp (O.all w hww)
      have hpw := O.w p hp
      have h1 := ltW_wt (O.min p hp w hww hk.symm)
      have h2 := wt_xo_le hww hpw
      have h3 : SpW n bs (xo w p.2) := (rem_coset h hww hpw).mp (hk.symm.trans (O.k p hp))
      have h4 : xo w p.2 = zr n := by
        refine Classical.byContradiction fun hne => ?_
        have := hm _ h3 hne
        omega
      rw [xo_eq_zr hww hpw h4]
      exact List.mem_map.mpr ⟨p, hp, rfl⟩
  rw [← hS.length_eq, ← hc]
  constructor
  · intro hA
    rw [List.filter_eq_self.mpr (fun w hw => by
      obtain ⟨p, hp, rfl⟩ := List.mem_map.mp hw
      exact decide_eq_true (hA p hp)), List.length_map]
  · intro e p hp
    have e2 := Nat.eq_of_mul_eq_mul_right hpos e
    rw [← List.length_map (f := fun p : Wd × Wd => p.2)] at e2
    have := (List.length_filter_eq_length_iff.mp e2) p.2 (List.mem_map.mpr ⟨p, hp, rfl⟩)
    exact of_decide_eq_true this
theorem lt_zr : ∀ {n : Nat} {w : Wd}, Wn n w → ltL w (zr n) = false
  | 0, w, h => by
    have := List.eq_nil_of_length_eq_zero h.l
    subst this; rfl
  | n + 1, w, h => by
    rcases h.cases with ⟨e, _⟩ | ⟨m, x, a, e, rfl, hx, ha⟩
    · cases e
    cases e
    rw [ltL_lt]
    refine decide_eq_false fun hlt => ?_
    have ih := lt_zr ha
    rw [ltL_lt] at ih
    have ih := of_decide_eq_false ih
    rw [show zr (n + 1) = 48 :: zr n from rfl] at hlt
    rcases hx with rfl | rfl
    · cases hlt with
      | rel h => exact absurd h (Nat.lt_irrefl _)
      | cons h => exact ih h
    · cases hlt with
      | rel h => exact absurd h (by decide)
theorem wt_zero : ∀ {n : Nat} {w : Wd}, Wn n w → wt w = 0 → w = zr n
  | 0, w, h, _ => List.eq_nil_of_length_eq_zero h.l
  | n + 1, w, h, h0 => by
    rcases h.cases with ⟨e, _⟩ | ⟨m, x, a, e, rfl, hx, ha⟩
    · cases e
    cases e
    rw [wt_cons] at h0
    rcases hx with rfl | rfl
    · rw [wt_zero ha (by simpa using h0)]; rfl
    · simp at h0
theorem ball_sum (n t : Nat) : sumI ((List.range t).map fun k => kr n 0 k) = (((allB n).filter fun w => decide (wt w < t)).length : Nat) := by
  rw [cnt_le_sum (allB n) t]
  refine sumI_congr fun k _ => ?_
  rw [cntW_perm (enum_perm (all_enum n) (allF_enum n)), cnt_allF]
end G7

set_option Elab.async false
set_option linter.all false
set_option maxRecDepth 100000
set_option autoImplicit false
namespace G7
section
variable {r : Env}
@[simp ↓] theorem w_parN (is : List Nat) (f : M (List Md)) (Q : Out → Env → Prop) : Wp (parN is f r) Q = Wp (f r) fun ms ρ => Wp (match setAll ρ is ms with
  | some ρ' => .ok .nx ρ'
  | none => .bad) Q := w_bnd _ _ _
@[simp] theorem e_setAll0 (ρ : Env) : setAll ρ [] [] = some ρ := (rfl)
@[simp] theorem e_setAll1 (ρ : Env) (i : Nat) (is : List Nat) (m : Md) (ms : List Md) : setAll ρ (i :: is) (m :: ms) = setAll (ρ.set i (some m.sl)) is ms := (rfl)
end
abbrev tokD (x : PV) : List (Int ⊕ List Nat) := PySem.W.keyToks (toD x)
theorem ltA_eq (a b : PV) : ltA a b = (PyProof.Rows.listOrd PyProof.Rows.itemOrd).blt (tokD a) (tokD b) := rfl
theorem tot_tok {α : Type} {pv : α → PV} (inj : ∀ a b, tokD (pv a) = tokD (pv b) → a = b) : TotO fun a b : α => ltA (pv a) (pv b) := by
  let O := PyProof.Rows.listOrd PyProof.Rows.itemOrd
  refine ⟨fun x y h => ?_, fun x y z h1 h2 => ?_, fun x y h1 h2 => ?_⟩
  · cases h2 : ltA (pv y) (pv x) with
    | false => rfl
    | true =>
      have h3 := O.trans _ _ _ h h2
      rw [O.irrefl] at h3
      cases h3
  · cases h3 : ltA (pv z) (pv x) with
    | false => rfl
    | true =>
      rcases O.negTrans _ (tokD (pv y)) _ h3 with h | h
      · rw [show ltA (pv z) (pv y) = true from h] at h2; cases h2
      · rw [show ltA (pv y) (pv x) = true from h] at h1; cases h1
  · exact inj _ _ (O.total _ _ h1 h2)
def tupI (l : List Int) : PV := .tup (l.map .int)
theorem toks_ints : ∀ l m : List Int, PySem.W.keyToksAll (toDs (l.map .int)) = PySem.W.keyToksAll (toDs (m.map .int)) → l = m
  | [], [], _ => rfl
  | [], b :: m, h => by
    rw [show PySem.W.keyToksAll (toDs (([] : List Int).map .int)) = [.inl 0] from rfl, show toDs ((b :: m).map PV.int) = .int b :: toDs (m.map .int) from rfl, PySem.W.toks_all_cons] at h
    injection h with h1 _
    injection h1 with h1
    cases h1
  | a :: l, [], h => by
    rw [show PySem.W.keyToksAll (toDs (([] : List Int).map .int)) = [.inl 0] from rfl, show toDs ((a :: l).map PV.int) = .int a :: toDs (l.map .int) from rfl, PySem.W.toks_all_cons] at h
    injection h with h1 _
    injection h1 with h1
    cases h1
  | a :: l, b :: m, h => by
    rw [show toDs ((b :: m).map PV.int) = .int b :: toDs (m.map .int) from rfl, PySem.W.toks_all_cons, show toDs ((a :: l).map PV.int) = .int a :: toDs (l.map .int) from rfl, PySem.W.toks_all_cons] at h
    injection h with _ h
    rw [show PySem.W.keyToks (.int a) = [.inl a] from rfl, show PySem.W.keyToks (.int b) = [.inl b] from rfl] at h
    injection h with h1 h2
    injection h1 with h1
    rw [h1, toks_ints l m h2]
def ltTI (a b : List Int) : Bool := ltA (tupI a) (tupI b)
theorem ltTI_tot : TotO ltTI := tot_tok (pv := tupI) fun a b h => toks_ints a b h
theorem alike_ints : ∀ l m : List Int, PySem.W.alikeAll (toDs (l.map .int)) (toDs (m.map .int)) = true
  | [], m => by rw [show toDs (([] : List Int).map .int) = [] from rfl, PySem.W.alikeAll]
  | a :: l, [] => by rw [show toDs (([] : List Int).map .int) = [] from rfl, show toDs ((a :: l).map PV.int) = .int a :: toDs (l.map .int) from rfl, PySem.W.alikeAll]
  | a :: l, b :: m => by
    rw [show toDs ((b :: m).map PV.int) = .int b :: toDs (m.map .int) from rfl, show toDs ((a :: l).map PV.int) = .int a :: toDs (l.map .int) from rfl, PySem.W.alikeAll, alike_ints l m]
    rfl
theorem dp_ints (n : Nat) (l : List Int) : (l.map PV.int).all (dp n) = true := by
  induction l with
  | nil => rfl
  | cons a l ih => rw [List.map_cons, List.all_cons, ih]; cases n <;> rfl
theorem good_ints {ls : List (List Int)} (h : ∀ l ∈ ls, l ≠ []) : goodL (ls.map tupI) = true := by
  refine goodL_mk (fun x hx => ?_) (.inl fun x hx => ?_) fun x hx y hy => ?_
  · obtain ⟨l, _, rfl⟩ := List.mem_map.mp hx
    exact dp_ints 19 l
  · obtain ⟨l, hl, rfl⟩ := List.mem_map.mp hx
    cases l with
    | nil => exact absurd rfl (h _ hl)
    | cons a l => rfl
  · obtain ⟨l, _, rfl⟩ := List.mem_map.mp hx
    obtain ⟨m, _, rfl⟩ := List.mem_map.mp hy
    show PySem.W.alike (.tuple (toDs (l.map .int))) (.tuple (toDs (m.map .int))) = true
    rw [PySem.W.alike]
    exact alike_ints l m
theorem sort_ints {ls : List (List Int)} (h : ∀ l ∈ ls, l ≠ []) : sortA (.lst (ls.map tupI)) = some (.lst ((srt ltTI ls).map tupI)) := sortA_map ltTI_tot ls (good_ints h) fun _ _ _ _ => rfl
theorem good_prs (ps : List (Int × List Nat)) : goodL (ps.map prV) = true := by
  refine goodL_mk (fun x hx => ?_) (.inl fun x hx => ?_) fun x hx y hy => ?_
  · obtain ⟨l, _, rfl⟩ := List.mem_map.mp hx
    rfl
  · obtain ⟨l, hl, rfl⟩ := List.mem_map.mp hx
    rfl
  · obtain ⟨l, _, rfl⟩ := List.mem_map.mp hx
    obtain ⟨m, _, rfl⟩ := List.mem_map.mp hy
    rfl
theorem sort_prs (ps : List (Int × List Nat)) : sortA (.lst (ps.map prV)) = some (.lst ((srt ltQ ps).map prV)) := sortA_map ltQ_tot ps (good_prs ps) fun a _ b _ => dQ_lt a b
def cntT (n : Nat) (L : List Wd) : List Int := (List.range (n + 1)).map fun j => (cntW L j : Int)
theorem cntT_V (n : Nat) (L : List Wd) : PV.tup ((List.range (n + 1)).map fun j => .int (cntW L j)) = tupI (cntT n L) := by
  unfold tupI cntT
  rw [List.map_map]; rfl
theorem cntT_ne (n : Nat) (L : List Wd) : cntT n L ≠ [] := by
  unfold cntT
  intro h
  have := congrArg List.length h
  simp at this
theorem cntT_perm {n : Nat} {L M : List Wd} (h : L.Perm M) : cntT n L = cntT n M := List.map_congr_left fun j _ => by
  rw [show cntW L j = cntW M j from (h.filter _).length_eq]
theorem coset_enum {n : Nat} {bs E : List Wd} (h : RedW n bs) (hE : EnumL (SpW n bs) E) {r : Wd} (hr : Wn n r) : EnumL (fun w => Wn n w ∧ remL bs w = remL bs r) (E.map (xo r)) := by
  have hEw : ∀ u ∈ E, Wn n u := fun u hu => ((hE.m u).mp hu).1
  refine ⟨List.pairwise_map.mpr (hE.nd.imp_of_mem fun {a b} ha hb hab e => hab (by
      rw [xo_comm r a, xo_comm r b] at e
      exact xo_inj (hEw a ha) (hEw b hb) hr e)), fun w => ⟨fun hw => ?_, fun ⟨hw, hk⟩ => ?_⟩⟩
  · obtain ⟨a, ha, rfl⟩ := List.mem_map.mp hw
    exact ⟨hr.xo (hEw a ha), (rem_coset h (hr.xo (hEw a ha)) hr).mpr (by rw [xo_comm r a, xo_back (hEw a ha) hr]; exact (hE.m a).mp ha)⟩
  · refine List.mem_map.mpr ⟨xo r w, (hE.m _).mpr ?_, xo_lcan hr hw⟩
    exact (rem_coset h hr hw).mp hk.symm
theorem rem_wn {n : Nat} {bs : List Wd} (h : RedW n bs) {w : Wd} (hw : Wn n w) : Wn n (remL bs w) := (rem_ok h.u hw).1
theorem rem_rem {n : Nat} {bs : List Wd} (h : RedW n bs) {w : Wd} (hw : Wn n w) : remL bs (remL bs w) = remL bs w :=
  (rem_coset h (rem_wn h hw) hw).mpr ⟨(rem_wn h hw).xo hw, (rem_ok h.u hw).2.1⟩
theorem coset_cnt {n : Nat} {bs E F : List Wd} (h : RedW n bs) (hE : EnumL (SpW n bs) E) (hF : EnumL (SpW n bs) F) {r : Wd} (hr : Wn n r) : cntT n (E.map (xo r)) = cntT n (F.map (xo (remL bs r))) :=
  cntT_perm (enum_perm (coset_enum h hE hr) ((coset_enum h hF (rem_wn h hr)).congr fun w => by rw [rem_rem h hr]))
theorem lead_min {n : Nat} {bs E : List Wd} (h : RedW n bs) (hE : EnumL (SpW n bs) E) {r l : Wd} (hr : Wn n r) (hl : (remL bs r, l) ∈ leadD n bs) {q : Wd} {qs : List Wd} (hG : E.map (xo r) = q :: qs) :
    minQ ((wt q : Nat), q) (qs.map fun w => (((wt w : Nat) : Int), w)) = (((wt l : Nat) : Int), l) := by
  have LK := lead_ok n bs
  have C := coset_enum h hE hr
  have hlw := LK.w _ hl
  have hlk : remL bs r = remL bs l := LK.k _ hl
  have h1 := minQ_mem ((wt q : Nat), q) (qs.map fun w => (((wt w : Nat) : Int), w))
  have h2 := minQ_le ((wt q : Nat), q) (qs.map fun w => (((wt w : Nat) : Int), w))
  rw [show (((wt q : Nat) : Int), q) :: qs.map (fun w => (((wt w : Nat) : Int), w)) = (q :: qs).map fun w => (((wt w : Nat) : Int), w) from rfl, ← hG] at h1 h2
  obtain ⟨g, hg, hgm⟩ := List.mem_map.mp h1
  rw [← hgm] at h2 ⊢
  obtain ⟨hgw, hgk⟩ := (C.m g).mp hg
  have h4 := LK.min _ hl g hgw hgk
  have h5 := h2 (((wt l : Nat) : Int), l) (List.mem_map.mpr ⟨l, (C.m l).mpr ⟨hlw, hlk.symm⟩, rfl⟩)
  exact ltQ_tot.ext _ _ h4 h5
theorem ld_sub (key : Wd → Wd) : ∀ (l : List Wd) (A : List (Wd × Wd)), ∃ s : List Wd, s.Sublist l ∧ (l.foldl (ldF key) A).map (·.2) = A.map (·.2) ++ s
  | [], A => ⟨[], List.Sublist.refl _, by simp⟩
  | w :: l, A => by
    rw [List.foldl_cons]
    unfold ldF
    split
    · obtain ⟨s, h1, h2⟩ := ld_sub key l A
      exact ⟨s, h1.cons _, h2⟩
    · obtain ⟨s, h1, h2⟩ := ld_sub key l (A ++ [(key w, w)])
      refine ⟨w :: s, h1.cons_cons _, ?_⟩
      rw [show l.foldl (fun acc w => if key w ∈ acc.map (·.1) then acc else acc ++ [(key w, w)]) (A ++ [(key w, w)]) = l.foldl (ldF key) (A ++ [(key w, w)]) from rfl, h2]
      simp
theorem lead_up (n : Nat) (bs : List Wd) : ((leadD n bs).map (·.2)).Pairwise fun a b => ltW b a = false := by
  obtain ⟨s, h1, h2⟩ := ld_sub (remL bs) (WL n) []
  have h3 : (leadD n bs).map (·.2) = s := by simpa [leadD, ldL] using h2
  rw [h3]
  exact (WL_up n).sublist h1
def wtP (p : Wd × Wd) : Int × Wd := (((wt p.2 : Nat) : Int), p.2)
theorem lead_srt {n : Nat} {bs : List Wd} {ps : List (Wd × Wd)} (h : ps.Perm (leadD n bs)) : srt ltQ (ps.map wtP) = (leadD n bs).map wtP := by
  refine srt_of ltQ_tot ?_ (h.symm.map _)
  have := lead_up n bs
  exact List.pairwise_map.mpr (List.pairwise_map.mp this)
/-- all cosets are there -/
theorem lead_perm {n : Nat} {bs : List Wd} {ps : List (Wd × Wd)} (hs : ∀ p ∈ ps, p ∈ leadD n bs) (nd : (ps.map (·.1)).Nodup) (hall : ∀ w, Wn n w → remL bs w ∈ ps.map (·.1)) : ps.Perm (leadD n bs) := by
  have LK := lead_ok n bs
  have nd' : ∀ {l : List (Wd × Wd)}, (l.map (·.1)).Nodup → l.Nodup := fun h => List.Pairwise.imp (fun {a b} h e => h (by rw [e])) (List.pairwise_map.mp h)
  refine (List.perm_ext_iff_of_nodup (nd' nd) (nd' LK.nd)).mpr fun p => ⟨hs p, fun hp => ?_⟩
  have h1 := hall p.2 (LK.w p hp)
  rw [← LK.k p hp] at h1
  obtain ⟨q, hq, e⟩ := List.mem_map.mp h1
  rw [← keys_uniq LK.nd (hs q hq) hp e]
  exact hq
def cosK (n : Nat) (bs : List Wd) : List (List Int) := (leadD n bs).map fun p => cntT n ((wordsL n bs).map (xo p.1))
theorem cosK_perm {n : Nat} {bs : List Wd} {ps : List (Wd × Wd)} (h : ps.Perm (leadD n bs)) : srt ltTI (ps.map fun p => cntT n ((wordsL n bs).map (xo p.1))) = srt ltTI (cosK n bs) := srt_eq ltTI_tot (h.map _)
theorem lead_len {n : Nat} (hn : n ≤ 10) {bs : List Wd} (h : RedW n bs) : (leadD n bs).length ≤ 1024 := by
  have h1 := lead_cover h (words_of_red h)
  have hpos : 0 < (wordsL n bs).length := by rw [wordsL_len]; exact Nat.pow_pos (by decide)
  have hp10 : 2 ^ n ≤ 1024 := Nat.pow_le_pow_right (j := 10) (by decide) hn
  have := Nat.mul_le_mul_left (leadD n bs).length hpos
  omega
theorem leadD_ne (n : Nat) (bs : List Wd) : leadD n bs ≠ [] := by
  obtain ⟨p, hp, -⟩ := List.mem_map.mp ((lead_ok n bs).all (zr n) (Wn.zr n))
  exact List.ne_nil_of_mem hp
def covR (n : Nat) (bs : List Wd) : Int := maxI ((leadD n bs).map fun p => ((wt p.2 : Nat) : Int))
end G7

set_option Elab.async false
set_option linter.all false
set_option maxRecDepth 100000
set_option autoImplicit false
namespace G7
def delF (p : Nat) (w : Wd) : Wd := w.take p ++ w.drop (p + 1)
def ins0 (p : Nat) (u : Wd) : Wd := u.take p ++ 48 :: u.drop p
theorem at_del (p : Nat) (w : Wd) (i : Nat) (hp : p < w.length) : at_ (delF p w) i = if i < p then at_ w i else at_ w (i + 1) := by
  unfold delF at_
  rw [List.getD_eq_getElem?_getD, List.getElem?_append, List.length_take, Nat.min_eq_left (by omega)]
  by_cases h : i < p
  · rw [if_pos h, if_pos h, List.getElem?_take_of_lt h, List.getD_eq_getElem?_getD]
  · rw [if_neg h, if_neg h, List.getElem?_drop, List.getD_eq_getElem?_getD, show p + 1 + (i - p) = i + 1 by omega]
theorem at_ins (p : Nat) (u : Wd) (i : Nat) (hp : p ≤ u.length) : at_ (ins0 p u) i = if i < p then at_ u i else if i = p then 48 else at_ u (i - 1) := by
  unfold ins0 at_
  rw [List.getD_eq_getElem?_getD, List.getElem?_append, List.length_take, Nat.min_eq_left hp]
  by_cases h : i < p
  · rw [if_pos h, if_pos h, List.getElem?_take_of_lt h, List.getD_eq_getElem?_getD]
  · rw [if_neg h, if_neg h]
    by_cases h2 : i = p
    · subst h2; simp
    · rw [if_neg h2, show i - p = (i - 1 - p) + 1 by omega, List.getElem?_cons_succ, List.getElem?_drop, List.getD_eq_getElem?_getD, show p + (i - 1 - p) = i - 1 by omega]
theorem del_wn {m p : Nat} (hp : p ≤ m) {w : Wd} (h : Wn (m + 1) w) : Wn m (delF p w) := by
  refine ⟨by unfold delF; rw [List.length_append, List.length_take, List.length_drop, h.l]; omega, fun c hc => h.b c ?_⟩
  rcases List.mem_append.mp hc with h | h
  · exact List.mem_of_mem_take h
  · exact List.mem_of_mem_drop h
theorem ins_wn {m p : Nat} (hp : p ≤ m) {u : Wd} (h : Wn m u) : Wn (m + 1) (ins0 p u) := by
  refine ⟨by unfold ins0; rw [List.length_append, List.length_take, List.length_cons, List.length_drop, h.l]; omega, fun c hc => ?_⟩
  rcases List.mem_append.mp hc with h' | h'
  · exact h.b c (List.mem_of_mem_take h')
  · rcases List.mem_cons.mp h' with h' | h'
    · exact .inl h'
    · exact h.b c (List.mem_of_mem_drop h')
theorem del_map {m p : Nat} (hp : p ≤ m) : LMap (m + 1) m (delF p) := by
  refine ⟨fun a ha => del_wn hp ha, fun a b ha hb => ?_⟩
  refine ext_at (del_wn hp (ha.xo hb)) ((del_wn hp ha).xo (del_wn hp hb)) fun i hi => ?_
  have l1 := ha.l
  have l2 := hb.l
  have l3 := (ha.xo hb).l
  rw [at_xo (del_wn hp ha) (del_wn hp hb), at_del p _ i (by omega), at_del p _ i (by omega), at_del p _ i (by omega)]
  split
  · rw [at_xo ha hb]
  · rw [at_xo ha hb]
theorem ins_xo {m p : Nat} (hp : p ≤ m) {a b : Wd} (ha : Wn m a) (hb : Wn m b) : ins0 p (xo a b) = xo (ins0 p a) (ins0 p b) := by
  refine ext_at (ins_wn hp (ha.xo hb)) ((ins_wn hp ha).xo (ins_wn hp hb)) fun i hi => ?_
  have l1 := ha.l
  have l2 := hb.l
  have l3 := (ha.xo hb).l
  rw [at_xo (ins_wn hp ha) (ins_wn hp hb), at_ins p _ i (by omega), at_ins p _ i (by omega), at_ins p _ i (by omega)]
  split
  · rw [at_xo ha hb]
  · split
    · rfl
    · rw [at_xo ha hb]
theorem ins_zr {m p : Nat} (hp : p ≤ m) : ins0 p (zr m) = zr (m + 1) := by
  refine ext_at (ins_wn hp (Wn.zr m)) (Wn.zr _) fun i hi => ?_
  rw [at_ins p _ i (by simp [zr]; exact hp), at_zr, at_zr, at_zr]
  split
  · rfl
  · split <;> rfl
theorem del_ins {m p : Nat} (hp : p ≤ m) {u : Wd} (h : Wn m u) : delF p (ins0 p u) = u := by
  have l := (ins_wn hp h).l
  refine ext_at (del_wn hp (ins_wn hp h)) h fun i hi => ?_
  rw [at_del p _ i (by omega), at_ins p _ _ (by rw [h.l]; exact hp), at_ins p _ _ (by rw [h.l]; exact hp)]
  split
  · rfl
  · rw [if_neg (by omega), if_neg (by omega)]; rfl
theorem ins_del {m p : Nat} (hp : p ≤ m) {w : Wd} (h : Wn (m + 1) w) (h0 : at_ w p = 48) : ins0 p (delF p w) = w := by
  have l := (del_wn hp h).l
  refine ext_at (ins_wn hp (del_wn hp h)) h fun i hi => ?_
  rw [at_ins p _ i (by omega), at_del p _ _ (by rw [h.l]; omega), at_del p _ _ (by rw [h.l]; omega)]
  split
  · rfl
  · split
    · rename_i e; rw [e, h0]
    · rw [if_neg (by omega)]; congr 1; omega
theorem at_ins_p {m p : Nat} (hp : p ≤ m) {u : Wd} (h : Wn m u) : at_ (ins0 p u) p = 48 := by
  rw [at_ins p _ _ (by rw [h.l]; exact hp), if_neg (by omega), if_pos rfl]
theorem xs_del : ∀ (m p : Nat) (f : Nat → Bool), p ≤ m → f p = false → xs (m + 1) f = xs m fun i => f (if i < p then i else i + 1)
  | 0, p, f, hp, h0 => by
    have : p = 0 := by omega
    subst this
    show Bool.xor false (f 0) = false
    rw [h0]; rfl
  | m + 1, p, f, hp, h0 => by
    show Bool.xor (xs (m + 1) f) (f (m + 1)) = Bool.xor (xs m fun i => f (if i < p then i else i + 1)) (f (if m < p then m else m + 1))
    by_cases h : p = m + 1
    · subst h
      rw [h0, Bool.xor_false, if_pos (by omega)]
      show Bool.xor (xs m f) (f m) = _
      congr 1
      exact xs_congr fun i hi => by rw [if_pos (by omega)]
    · rw [xs_del m p f (by omega) h0, if_neg (by omega)]
theorem dot_del {m p : Nat} (hp : p ≤ m) {w u : Wd} (hw : Wn (m + 1) w) (hu : Wn m u) : dot m (delF p w) u = dot (m + 1) w (ins0 p u) := by
  unfold dot
  rw [xs_del m p _ hp (by unfold bt; rw [at_ins_p hp hu]; simp)]
  refine xs_congr fun i hi => ?_
  unfold bt
  rw [at_del p _ i (by rw [hw.l]; omega), at_ins p _ _ (by rw [hu.l]; exact hp)]
  by_cases h : i < p
  · simp only [h, if_true]
  · simp only [h, if_false]
    rw [if_neg (by omega), if_neg (by omega)]; rfl
def keepL (p : Nat) (L : List Wd) : List Wd := (L.filter fun w => decide (at_ w p = 48)).map (delF p)
theorem keep_mem {m p : Nat} (hp : p ≤ m) {bs L : List Wd} (hL : EnumL (SpW (m + 1) bs) L) (u : Wd) : u ∈ keepL p L ↔ Wn m u ∧ SpW (m + 1) bs (ins0 p u) := by
  unfold keepL
  rw [List.mem_map]
  constructor
  · rintro ⟨w, hw, rfl⟩
    obtain ⟨h1, h2⟩ := List.mem_filter.mp hw
    have hs := (hL.m w).mp h1
    have h0 : at_ w p = 48 := by simpa using h2
    exact ⟨del_wn hp hs.1, by rw [ins_del hp hs.1 h0]; exact hs⟩
  · rintro ⟨h1, h2⟩
    exact ⟨ins0 p u, List.mem_filter.mpr ⟨(hL.m _).mpr h2, by rw [at_ins_p hp h1]; simp⟩, del_ins hp h1⟩
theorem keep_all {m p : Nat} (hp : p ≤ m) {bs L : List Wd} (hL : EnumL (SpW (m + 1) bs) L) : AllW m (keepL p L) := fun u hu => ((keep_mem hp hL u).mp hu).1
theorem keep_span {m p : Nat} (hp : p ≤ m) {bs L : List Wd} (hb : AllW (m + 1) bs) (hL : EnumL (SpW (m + 1) bs) L) (u : Wd) : SpW m (keepL p L) u ↔ Wn m u ∧ SpW (m + 1) bs (ins0 p u) := by
  have lin : Lin m fun u => Wn m u ∧ SpW (m + 1) bs (ins0 p u) := by
    refine ⟨fun _ h => h.1, ⟨Wn.zr m, ?_⟩, fun a b ha hb' => ⟨ha.1.xo hb'.1, ?_⟩⟩
    · rw [ins_zr hp]; exact (sp_lin hb).z
    · rw [ins_xo hp ha.1 hb'.1]; exact (sp_lin hb).a _ _ ha.2 hb'.2
  constructor
  · intro h
    exact sp_least lin (fun x hx => (keep_mem hp hL x).mp hx) h.1 h.2
  · intro h
    exact ⟨h.1, sp_mem (keep_all hp hL) ((keep_mem hp hL u).mpr h)⟩
theorem keep_enum {m p : Nat} (hp : p ≤ m) {bs L : List Wd} (hb : AllW (m + 1) bs) (hL : EnumL (SpW (m + 1) bs) L) : EnumL (SpW m (keepL p L)) (keepL p L) := by
  refine ⟨?_, fun u => (keep_mem hp hL u).trans (keep_span hp hb hL u).symm⟩
  unfold keepL
  refine List.pairwise_map.mpr ((hL.nd.filter _).imp_of_mem fun {a b} ha hb' hab e => hab ?_)
  obtain ⟨a1, a2⟩ := List.mem_filter.mp ha
  obtain ⟨b1, b2⟩ := List.mem_filter.mp hb'
  rw [← ins_del hp ((hL.m a).mp a1).1 (by simpa using a2), e, ins_del hp ((hL.m b).mp b1).1 (by simpa using b2)]
theorem punc_orth {m p : Nat} (hp : p ≤ m) {bs : List Wd} (hb : AllW (m + 1) bs) (u : Wd) : Orth m (bs.map (delF p)) u ↔ Wn m u ∧ Orth (m + 1) bs (ins0 p u) := by
  constructor
  · rintro ⟨h1, h2⟩
    refine ⟨h1, ins_wn hp h1, fun b hb' => ?_⟩
    rw [← dot_del hp (hb b hb') h1]
    exact h2 _ (List.mem_map.mpr ⟨b, hb', rfl⟩)
  · rintro ⟨h1, -, h2⟩
    refine ⟨h1, fun b hb' => ?_⟩
    obtain ⟨w, hw, rfl⟩ := List.mem_map.mp hb'
    rw [dot_del hp (hb w hw) h1]
    exact h2 w hw
/-- the dual of the punctured code is the shortened dual -/
theorem punc_dual {m p : Nat} (hp : p ≤ m) {bs L : List Wd} (h : RedW (m + 1) bs) (hL : EnumL (SpW (m + 1) (dualL (m + 1) bs)) L) : dualL m (redL (bs.map (delF p))) = redL (keepL p L) := by
  have hall := RedW.all h.u
  obtain ⟨d1, d2⟩ := dual_ok h.u
  have hda := RedW.all d1.u
  obtain ⟨r1, r2⟩ := redL_ok ((del_map hp).all hall)
  obtain ⟨e1, e2⟩ := dual_ok r1.u
  symm
  refine redL_of (keep_all hp hL) e1 fun u => ?_
  rw [keep_span hp hda hL, e2, orth_same (RedW.all r1.u) ((del_map hp).all hall) r2, punc_orth hp hall, d2]
theorem short_dual {m p : Nat} (hp : p ≤ m) {bs L : List Wd} (h : RedW (m + 1) bs) (hL : EnumL (SpW (m + 1) bs) L) : dualL m (redL (keepL p L)) = redL ((dualL (m + 1) bs).map (delF p)) := by
  obtain ⟨d1, d2⟩ := dual_ok h.u
  have h2 : dualL (m + 1) (dualL (m + 1) bs) = bs := dual_twice h
  rw [← punc_dual hp d1 (L := L) (by rw [h2]; exact hL)]
  exact dual_twice (redL_ok ((del_map hp).all (RedW.all d1.u))).1
theorem cut_enum {m p : Nat} (hp : p ≤ m) {bs L : List Wd} (hb : AllW (m + 1) bs) (hL : EnumL (SpW (m + 1) bs) L) : EnumL (SpW m (redL (bs.map (delF p)))) (dedL (L.map (delF p))) := by
  obtain ⟨r1, r2⟩ := redL_ok ((del_map hp).all hb)
  refine ⟨(dedL_mem _).1, fun u => ?_⟩
  rw [(dedL_mem _).2, r2, (del_map hp).span hb, List.mem_map]
  exact ⟨fun ⟨w, h1, h2⟩ => ⟨w, (hL.m w).mp h1, h2⟩, fun ⟨w, h1, h2⟩ => ⟨w, (hL.m w).mpr h1, h2⟩⟩
theorem v_sortSet (ys : List Wd) (h : ys.length < 4000) : sortSetV (.lst (ys.map .str)) = some (.lst ((srt ltL (dedL ys)).map .str)) := by
  show (match strsP (ys.map .str) with | some ys => if ys.length < 4000 then some (PV.lst ((srt ltL (dedL ys)).map .str)) else none | none => none) = _
  rw [strsP_map]
  exact if_pos h
theorem v_delS {n p : Nat} (hn : n ≤ 1000) {w : Wd} (h : Wn n w) (hp : p < n) : addV (.str (cut w none (some (p : Int)))) (.str (cut w (some ((p : Int) + 1)) none)) = some (.str (delF p w)) := by
  have c1 := cut_to w p
  have c2 : cut w (some ((p : Int) + 1)) none = w.drop (p + 1) := cut_from w (p + 1)
  rw [c1, c2]
  exact v_addS _ _ (by rw [List.length_take, List.length_drop, h.l]; omega)
end G7

set_option Elab.async false
set_option linter.all false
set_option maxRecDepth 100000
set_option autoImplicit false
namespace G7
def prL (B : List Wd) : List Wd := B.flatMap fun a => B.map (xo a)
theorem prL_all {n : Nat} {B : List Wd} (h : AllW n B) : AllW n (prL B) := fun w hw => by
  obtain ⟨a, ha, h1⟩ := List.mem_flatMap.mp hw
  obtain ⟨b, hb, rfl⟩ := List.mem_map.mp h1
  exact (h a ha).xo (h b hb)
theorem sumF_nonneg {α : Type} {f : α → Int} : ∀ {l : List α}, (∀ x ∈ l, 0 ≤ f x) → 0 ≤ sumF f l
  | [], _ => Int.le_refl _
  | x :: l, h => by
    have h1 := h x (List.mem_cons_self ..)
    have h2 := sumF_nonneg (l := l) fun y hy => h y (List.mem_cons_of_mem _ hy)
    show 0 ≤ f x + sumF f l
    omega
theorem dot_xo_l {n : Nat} {u v a : Wd} (hu : Wn n u) (hv : Wn n v) : dot n (xo u v) a = Bool.xor (dot n u a) (dot n v a) := by
  rw [dot_comm, dot_xo hu hv, dot_comm n a u, dot_comm n a v]
theorem sumF_sq {α : Type} (f : α → Int) (l : List α) : sumF (fun a => sumF (fun b => f a * f b) l) l = sumF f l * sumF f l := by
  rw [sumF_congr (g := fun a => sumF f l * f a) fun a _ => by rw [sumF_mul, Int.mul_comm], sumF_mul]
theorem sq_nonneg (a : Int) : 0 ≤ a * a := by
  rcases Int.le_total 0 a with h | h
  · exact Int.mul_nonneg h h
  · exact Int.mul_nonneg_of_nonpos_of_nonpos h h
theorem pair_pos {n : Nat} {B : List Wd} (h : AllW n B) (j : Nat) : 0 ≤ sumI ((List.range (n + 1)).map fun i => ((cntW (prL B) i : Nat) : Int) * kr (n - i) i j) := by
  have hw : ∀ w ∈ prL B, wt w ≤ n := fun w hw => wt_le (prL_all h w hw)
  rw [group_wt (fun i => kr (n - i) i j) hw]
  have e1 : sumF (fun u => kr (n - wt u) (wt u) j) (prL B) = sumF (fun a => sumF (fun b => sgS n (xo a b) j) B) B := by
    unfold prL
    rw [sumF_flat]
    refine sumF_congr fun a ha => ?_
    rw [sumF_map]
    exact sumF_congr fun b hb => (sgS_kr j ((h a ha).xo (h b hb))).symm
  rw [e1]
  have e2 : sumF (fun a => sumF (fun b => sgS n (xo a b) j) B) B = sumF (fun v => if wt v = j then sumF (fun a => sgn (dot n a v)) B * sumF (fun a => sgn (dot n a v)) B else 0) (allF n) := by
    unfold sgS
    rw [sumF_congr fun a (_ : a ∈ B) => sumF_swap (fun b v => if wt v = j then sgn (dot n (xo a b) v) else 0) (allF n) B, sumF_swap]
    refine sumF_congr fun v _ => ?_
    by_cases hj : wt v = j
    · simp only [hj, if_true]
      rw [← sumF_sq]
      refine sumF_congr fun a ha => sumF_congr fun b hb => ?_
      rw [dot_xo_l (h a ha) (h b hb), sgn_xor]
    · simp only [hj, if_false]
      rw [sumF_congr (g := fun _ => 0) fun a _ => (sumF_const 0 B).trans (Int.zero_mul _), sumF_const, Int.zero_mul]
  rw [e2]
  refine sumF_nonneg fun v _ => ?_
  split
  · exact sq_nonneg _
  · exact Int.le_refl _
theorem cntW_app (L M : List Wd) (j : Nat) : cntW (L ++ M) j = cntW L j + cntW M j := by unfold cntW; rw [List.filter_append, List.length_append]
theorem pair_code {n : Nat} {bs L : List Wd} (hb : AllW n bs) (h : EnumL (SpW n bs) L) (j : Nat) : cntW (prL L) j = cntW L j * L.length := by
  have key : ∀ M : List Wd, (∀ a ∈ M, SpW n bs a) → cntW (M.flatMap fun a => L.map (xo a)) j = cntW L j * M.length := by
    intro M
    induction M with
    | nil => intro _; rfl
    | cons a M ih =>
      intro hM
      have ha := hM a (List.mem_cons_self ..)
      have hp : (L.map (xo a)).Perm L := by
        refine enum_perm (S := SpW n bs) ⟨List.pairwise_map.mpr (h.nd.imp_of_mem fun {x y} hx hy hxy e => hxy (by
            rw [xo_comm a x, xo_comm a y] at e
            exact xo_inj ((h.m x).mp hx).1 ((h.m y).mp hy).1 ha.1 e)), fun w => ?_⟩ h
        · rw [List.mem_map]
          constructor
          · rintro ⟨x, hx, rfl⟩
            exact (sp_lin hb).a _ _ ha ((h.m x).mp hx)
          · intro hw
            exact ⟨xo a w, (h.m _).mpr ((sp_lin hb).a _ _ ha hw), xo_lcan ha.1 hw.1⟩
      rw [List.flatMap_cons, cntW_app, ih fun x hx => hM x (List.mem_cons_of_mem _ hx), cntW_perm hp, List.length_cons, Nat.mul_add]
      omega
  exact key L fun a ha => (h.m a).mp ha
theorem prL_len (B : List Wd) : (prL B).length = B.length * B.length := by
  have : ∀ M : List Wd, (M.flatMap fun a => B.map (xo a)).length = M.length * B.length := fun M => by
    induction M with
    | nil => simp
    | cons a M ih => rw [List.flatMap_cons, List.length_append, ih, List.length_map, List.length_cons, Nat.add_mul]; omega
  exact this B
theorem prL_small {B : List Wd} (h : B.length ≤ 2000) (j : Nat) : cntW (prL B) j < 2 ^ 30 := by
  have h1 := cntW_le (prL B) j
  rw [prL_len] at h1
  have h2 : B.length * B.length ≤ 2000 * 2000 := Nat.mul_le_mul h h
  exact Nat.lt_of_le_of_lt (Nat.le_trans h1 h2) (by decide)
def cntV (n : Nat) (P : List Wd) : List PV := (List.range (n + 1)).map fun j => PV.int (cntW P j)
theorem v_zerosV {n : Nat} (hn : n ≤ 1000) : mulL (.lst [.int 0]) (.int ((n : Int) + 1)) = some (.lst (cntV n [])) := by
  have hrep : rep (n + 1) [PV.int 0] = (List.range (n + 1)).map fun j => PV.int (cntW [] j) := by
    have : ∀ m, rep m [PV.int 0] = List.replicate m (PV.int 0) := fun m => by
      induction m with
      | zero => rfl
      | succ m ih => show [PV.int 0] ++ rep m _ = _; rw [ih]; rfl
    rw [this]
    refine List.ext_getElem (by simp) fun i h1 h2 => ?_
    simp [cntW]
  show (if (1 * ((n : Int) + 1).toNat ≤ LINE && near 1000000000 ((n : Int) + 1)) = true then some (PV.lst (rep ((n : Int) + 1).toNat [PV.int 0])) else none) = _
  have ht : ((n : Int) + 1).toNat = n + 1 := by omega
  rw [ht, hrep, if_pos]
  · rfl
  · rw [near_mk (by omega) (by omega), Bool.and_true, decide_eq_true_eq]
    have : LINE = 16777216 := rfl
    omega
theorem cntV_step (n : Nat) (P : List Wd) {w : Wd} (hw : wt w ≤ n) : (cntV n P).set (wt w) (.int ((cntW P (wt w) : Int) + 1)) = cntV n (P ++ [w]) := by
  unfold cntV
  have hc : ∀ j, cntW (P ++ [w]) j = cntW P j + if wt w = j then 1 else 0 := fun j => by
    unfold cntW
    rw [List.filter_append, List.length_append, List.filter_cons]
    by_cases h : wt w = j <;> simp [h]
  refine List.ext_getElem (by simp) fun i h1 h2 => ?_
  rw [List.getElem_set]
  by_cases h : wt w = i
  · subst h
    simp [hc]
  · simp [h, hc]
theorem cntV_len (n : Nat) (P : List Wd) : (cntV n P).length = n + 1 := by simp [cntV]
/-- one more word is counted -/
theorem wp_count {n i : Nat} {P : List Wd} {w : Wd} (hw : Wn n w) {f : M PV} {r : Env} {Q : Out → Env → Prop} (hr : r[i]? = some (some (.own (.lst (cntV n P))))) (hf : f r = .ok (.int (wt w : Nat)) r) (h : Q .nx (r.set i (some (.own (.lst (cntV n (P ++ [w]))))))) :
    Wp (augItM i f (ret (.int 1)) r) Q := by
  have hle := wt_le hw
  have hix : L2.ixN (n + 1) (wt w : Int) = some (wt w) := ixN_nat (by omega)
  have hg : getV (.lst (cntV n P)) (.int (wt w : Nat)) = some (.int (cntW P (wt w))) := by
    show L2.atI _ _ = _
    refine L2.atI_nat ?_
    unfold cntV
    rw [List.getElem?_map, List.getElem?_range (by omega)]; rfl
  have hs := cntV_step n P hle
  have hl := cntV_len n P
  generalize cntV n P = xs at *
  rw [← hs] at h
  have : augItM i f (ret (.int 1)) r = .ok .nx (r.set i (some (.own (.lst (xs.set (wt w) (.int ((cntW P (wt w) : Int) + 1))))))) := by
    simp [augItM, ownL, putL, hr, hf, hg, hl, hix]
  rw [this]; exact h
theorem redI_mul (c : Nat) {m : Nat} (h : 0 < m) : redI ((c * m : Nat) : Int) (m : Int) = (((c : Nat) : Int), 1) := by
  rw [redI_pos (by omega)]
  have hg : Nat.gcd ((c * m : Nat) : Int).natAbs ((m : Nat) : Int).natAbs = m := by
    rw [Int.natAbs_natCast, Int.natAbs_natCast]
    exact Nat.gcd_eq_right (Nat.dvd_mul_left m c)
  rw [hg]
  have hm : (m : Int) ≠ 0 := by omega
  refine Prod.ext ?_ ?_
  · show ((c * m : Nat) : Int) / (m : Int) = _
    rw [Int.natCast_mul, Int.mul_ediv_cancel _ hm]
  · exact Int.ediv_self hm
theorem asc_zip : ∀ {B : List Wd}, B.Pairwise (fun a b => ltL a b = true) → (B.zip B.tail).all (fun p => ltL p.1 p.2) = true
  | [], _ => rfl
  | [_], _ => rfl
  | a :: b :: l, h => by
    obtain ⟨h1, h2⟩ := List.pairwise_cons.mp h
    show (ltL a b && ((b :: l).zip l).all fun p => ltL p.1 p.2) = true
    rw [h1 b (List.mem_cons_self ..)]
    exact asc_zip h2
end G7

set_option Elab.async false
set_option linter.all false
set_option maxRecDepth 100000
set_option autoImplicit false
namespace G7
def wo : Wd → Wd → Nat
  | x :: u, m :: M => (if x = 49 ∧ m ≠ 49 then 1 else 0) + wo u M
  | _, _ => 0
def dj : Wd → Wd → Bool
  | x :: v, m :: M => !(decide (x = 49) && decide (m = 49)) && dj v M
  | _, _ => true
theorem dj_cons (x m : Nat) (v M : Wd) : dj (x :: v) (m :: M) = (!(decide (x = 49) && decide (m = 49)) && dj v M) := rfl
theorem wo_cons (x m : Nat) (u M : Wd) : wo (x :: u) (m :: M) = (if x = 49 ∧ m ≠ 49 then 1 else 0) + wo u M := rfl
theorem nodup_sub_len : ∀ {l m : List Nat}, l.Nodup → (∀ x ∈ l, x ∈ m) → l.length ≤ m.length
  | [], _, _, _ => Nat.zero_le _
  | a :: l, m, h, hs => by
    obtain ⟨h1, h2⟩ := List.nodup_cons.mp h
    have ha := hs a (List.mem_cons_self ..)
    have := nodup_sub_len h2 (m := m.erase a) fun x hx => (List.mem_erase_of_ne (by rintro rfl; exact h1 hx)).mpr (hs x (List.mem_cons_of_mem _ hx))
    rw [List.length_erase_of_mem ha] at this
    have := List.length_pos_of_mem ha
    simp only [List.length_cons]
    omega
def rS (n : Nat) (u M : Wd) (j : Nat) : Int := sumF (fun v => if wt v = j ∧ dj v M = true then sgn (dot n u v) else 0) (allF n)
theorem wo_le : ∀ {n : Nat} {u M : Wd}, Wn n u → Wn n M → wo u M + wt M ≤ n
  | 0, u, M, hu, hM => by
    have := List.eq_nil_of_length_eq_zero hu.l
    have := List.eq_nil_of_length_eq_zero hM.l
    subst_vars
    exact Nat.le_refl _
  | n + 1, u, M, hu, hM => by
    rcases hu.cases with ⟨e, _⟩ | ⟨m, x, a, e, rfl, hx, ha⟩
    · cases e
    rcases hM.cases with ⟨e, _⟩ | ⟨m', y, b, e', rfl, hy, hb⟩
    · cases e
    cases e; cases e'
    have := wo_le ha hb
    rw [wt_cons]
    show (if x = 49 ∧ y ≠ 49 then 1 else 0) + wo a b + _ ≤ _
    rcases hx with rfl | rfl <;> rcases hy with rfl | rfl <;> simp <;> omega
theorem rS_kr : ∀ {n : Nat} {u M : Wd} (j : Nat), Wn n u → Wn n M → rS n u M j = kr (n - wt M - wo u M) (wo u M) j
  | 0, u, M, j, h, hM => by
    have := List.eq_nil_of_length_eq_zero h.l
    have := List.eq_nil_of_length_eq_zero hM.l
    subst_vars
    cases j <;> rfl
  | n + 1, u, M, j, h, hM => by
    rcases h.cases with ⟨e, _⟩ | ⟨m, x, a, e, rfl, hx, ha⟩
    · cases e
    rcases hM.cases with ⟨e, _⟩ | ⟨m', y, b, e', rfl, hy, hb⟩
    · cases e
    cases e; cases e'
    have hle := wo_le ha hb
    have e1 : rS (n + 1) (x :: a) (y :: b) j = rS n a b j + (if y = 49 then 0 else match j with | 0 => 0 | j + 1 => sgn (decide (x = 49)) * rS n a b j) := by
      unfold rS
      show sumF _ (((allF n).map fun w => 48 :: w) ++ (allF n).map fun w => 49 :: w) = _
      rw [sumF_app, sumF_map, sumF_map]
      congr 1
      · refine sumF_congr fun v _ => ?_
        rw [wt_cons, dot_cons, show dj (48 :: v) (y :: b) = dj v b from by rw [dj_cons]; simp]
        simp
      · rcases hy with rfl | rfl
        · rw [if_neg (by decide)]
          have hd : ∀ v, dj (49 :: v) (48 :: b) = dj v b := fun v => by rw [dj_cons]; simp
          cases j with
          | zero =>
            rw [sumF_congr (g := fun _ => 0) (fun v _ => by rw [wt_cons]; simp), sumF_const, Int.zero_mul]
          | succ j =>
            show _ = sgn (decide (x = 49)) * _
            rw [← sumF_mul]
            refine sumF_congr fun v _ => ?_
            rw [wt_cons, dot_cons, sgn_xor, hd]
            by_cases hv : wt v = j ∧ dj v b = true
            · have : (if (49 : Nat) = 49 then 1 else 0) + wt v = j + 1 ∧ dj v b = true := ⟨by rw [hv.1]; simp; omega, hv.2⟩
              rw [if_pos this, if_pos hv]; simp
            · have : ¬ ((if (49 : Nat) = 49 then 1 else 0) + wt v = j + 1 ∧ dj v b = true) := fun z => hv ⟨by have := z.1; simp at this; omega, z.2⟩
              rw [if_neg this, if_neg hv, Int.mul_zero]
        · rw [if_pos rfl]
          have hd : ∀ v, dj (49 :: v) (49 :: b) = false := fun v => by rw [dj_cons]; simp
          rw [sumF_congr (g := fun _ => 0) (fun v _ => by rw [hd]; simp), sumF_const, Int.zero_mul]
    rw [e1]
    rcases hy with rfl | rfl
    · rw [if_neg (by decide)]
      have hm : wt (48 :: b) = wt b := by rw [wt_cons]; simp
      rw [hm]
      rcases hx with rfl | rfl
      · have hw : wo (48 :: a) (48 :: b) = wo a b := by rw [wo_cons]; simp
        rw [hw, show n + 1 - wt b - wo a b = (n - wt b - wo a b) + 1 by omega]
        cases j with
        | zero => rw [rS_kr 0 ha hb]; show _ + 0 = kr (n - wt b - wo a b) (wo a b) 0; omega
        | succ j =>
          show rS n a b (j + 1) + 1 * rS n a b j = kr (n - wt b - wo a b) (wo a b) (j + 1) + kr (n - wt b - wo a b) (wo a b) j
          rw [rS_kr (j + 1) ha hb, rS_kr j ha hb]
          omega
      · have hw : wo (49 :: a) (48 :: b) = wo a b + 1 := by rw [wo_cons]; simp; omega
        rw [hw, show n + 1 - wt b - (wo a b + 1) = n - wt b - wo a b by omega]
        cases j with
        | zero => rw [rS_kr 0 ha hb, kr_zero]; show _ + 0 = _; omega
        | succ j =>
          show rS n a b (j + 1) + (-1) * rS n a b j = _
          rw [rS_kr (j + 1) ha hb, rS_kr j ha hb, kr_one]
          omega
    · rw [if_pos rfl]
      have hm : wt (49 :: b) = wt b + 1 := by rw [wt_cons]; simp; omega
      have hw : wo (x :: a) (49 :: b) = wo a b := by rw [wo_cons]; simp
      rw [hm, hw, rS_kr j ha hb, show n + 1 - (wt b + 1) - wo a b = n - wt b - wo a b by omega]
      omega
/-- the dual's words that vanish on the mask -/
def djC (M : Wd) (L : List Wd) (j : Nat) : Nat := (L.filter fun v => decide (wt v = j) && dj v M).length
theorem djC_sum (M : Wd) (j : Nat) : ∀ L : List Wd, (djC M L j : Int) = sumF (fun v => if wt v = j ∧ dj v M = true then 1 else 0) L
  | [] => rfl
  | w :: L => by
    have := djC_sum M j L
    unfold djC at this ⊢
    rw [List.filter_cons]
    show _ = (if wt w = j ∧ dj w M = true then 1 else 0) + sumF _ L
    by_cases h : wt w = j ∧ dj w M = true
    · simp [h.1, h.2]; omega
    · have : (decide (wt w = j) && dj w M) = false := by
        rw [Bool.eq_false_iff]; intro z; rw [Bool.and_eq_true, decide_eq_true_eq] at z; exact h z
      simp [h, this]; omega
theorem macwM {n : Nat} {bs : List Wd} (h : RedW n bs) {L D : List Wd} (hL : EnumL (SpW n bs) L) (hD : EnumL (Orth n bs) D) {M : Wd} (hM : Wn n M) (j : Nat) : sumF (fun u => kr (n - wt M - wo u M) (wo u M) j) L = (L.length : Int) * djC M D j := by
  have hLw : ∀ u ∈ L, Wn n u := fun u hu => ((hL.m u).mp hu).1
  rw [sumF_congr (g := fun u => rS n u M j) (fun u hu => (rS_kr j (hLw u hu) hM).symm)]
  unfold rS
  rw [sumF_swap]
  have e1 : sumF (fun v => sumF (fun u => if wt v = j ∧ dj v M = true then sgn (dot n u v) else 0) L) (allF n) = sumF (fun v => if (∀ b ∈ bs, dot n b v = false) then (if wt v = j ∧ dj v M = true then (L.length : Int) else 0) else 0) (allF n) := by
    refine sumF_congr fun v hv => ?_
    have hvw := ((allF_enum n).m v).mp hv
    by_cases hj : wt v = j ∧ dj v M = true
    · simp only [hj, and_self, if_true]
      exact sign_sum h hL hvw
    · simp only [hj, if_false]
      rw [sumF_const, Int.zero_mul]
      split <;> rfl
  rw [e1, sumF_filter]
  have hp : ((allF n).filter fun v => decide (∀ b ∈ bs, dot n b v = false)).Perm D := enum_perm (S := Orth n bs) ((enum_filter (allF_enum n) _).congr fun w => and_congr_right fun _ => by rw [decide_eq_true_eq]) hD
  rw [sumF_perm _ hp, djC_sum, ← sumF_mul]
  refine sumF_congr fun v _ => ?_
  by_cases hj : wt v = j ∧ dj v M = true <;> simp [hj]
def bn (a m : Nat) : Int := kr a 0 m
def invT : Bool := (List.range 11).all fun N => (List.range (N + 1)).all fun k => (List.range (N + 1)).all fun l => decide (sumI ((List.range (N + 1)).map fun j => kr (N - k) k j * kr (N - j) j l) = if k = l then 2 ^ N else 0)
theorem invT_ok : invT = true := by decide +kernel
theorem kr_inv {N k l : Nat} (hN : N ≤ 10) (hk : k ≤ N) (hl : l ≤ N) : sumI ((List.range (N + 1)).map fun j => kr (N - k) k j * kr (N - j) j l) = if k = l then 2 ^ N else 0 := by
  have h := invT_ok
  unfold invT at h
  have h1 := List.all_eq_true.mp h N (List.mem_range.mpr (by omega))
  have h2 := List.all_eq_true.mp h1 k (List.mem_range.mpr (by omega))
  exact of_decide_eq_true (List.all_eq_true.mp h2 l (List.mem_range.mpr (by omega)))
def momT : Bool := (List.range 11).all fun N => (List.range (N + 1)).all fun j => (List.range (N + 1)).all fun m => decide (sumI ((List.range (m + 1)).map fun l => bn (N - l) (m - l) * kr (N - j) j l) = 2 ^ m * bn (N - j) m)
theorem momT_ok : momT = true := by decide +kernel
theorem kr_mom {N j m : Nat} (hN : N ≤ 10) (hj : j ≤ N) (hm : m ≤ N) : sumI ((List.range (m + 1)).map fun l => bn (N - l) (m - l) * kr (N - j) j l) = 2 ^ m * bn (N - j) m := by
  have h := momT_ok
  unfold momT at h
  have h1 := List.all_eq_true.mp h N (List.mem_range.mpr (by omega))
  have h2 := List.all_eq_true.mp h1 j (List.mem_range.mpr (by omega))
  exact of_decide_eq_true (List.all_eq_true.mp h2 m (List.mem_range.mpr (by omega)))
def bnT : Bool := (List.range 11).all fun a => (List.range 12).all fun m => decide ((a : Int) * bn a m = ((m : Int) + 1) * bn a (m + 1) + (m : Int) * bn a m) && decide (bn a 0 = 1)
theorem bnT_ok : bnT = true := by decide +kernel
theorem bn_step {a m : Nat} (ha : a ≤ 10) (hm : m ≤ 11) : (a : Int) * bn a m = ((m : Int) + 1) * bn a (m + 1) + (m : Int) * bn a m ∧ bn a 0 = 1 := by
  have h := bnT_ok
  unfold bnT at h
  have h1 := List.all_eq_true.mp h a (List.mem_range.mpr (by omega))
  have h2 := List.all_eq_true.mp h1 m (List.mem_range.mpr (by omega))
  rw [Bool.and_eq_true, decide_eq_true_eq, decide_eq_true_eq] at h2
  exact h2
def prodC (a : Int) : List Int → Int
  | [] => 1
  | c :: cs => (a - c) * prodC a cs
theorem sumI_mul (c : Int) : ∀ (l : List Nat) (f : Nat → Int), sumI (l.map fun i => c * f i) = c * sumI (l.map f)
  | [], f => (Int.mul_zero c).symm
  | x :: l, f => by
    show c * f x + sumI (l.map fun i => c * f i) = c * (f x + sumI (l.map f))
    rw [sumI_mul c l f, Int.mul_add]
theorem sumI_swap (f : Nat → Nat → Int) (m : List Nat) : ∀ l : List Nat, sumI (l.map fun x => sumI (m.map fun y => f x y)) = sumI (m.map fun y => sumI (l.map fun x => f x y))
  | [] => by
    show 0 = _
    exact (sumI_zero m _ fun _ _ => rfl).symm
  | x :: l => by
    show sumI (m.map fun y => f x y) + sumI (l.map fun x => sumI (m.map fun y => f x y)) = sumI (m.map fun y => f x y + sumI (l.map fun x => f x y))
    rw [sumI_swap f m l, ← sumI_add]
theorem nonsing {N : Nat} (hN : N ≤ 10) {X : Nat → Int} {W : List Nat} (hW : W.Nodup) (hWN : ∀ j ∈ W, j ≤ N) (hX : ∀ j, j ≤ N → j ∉ W → X j = 0)
    (h : ∀ l, l < W.length → sumI ((List.range (N + 1)).map fun j => X j * kr (N - j) j l) = 0) : ∀ j, j ≤ N → X j = 0 := by
  have hWl : W.length ≤ N + 1 := by
    have := nodup_sub_len hW (m := List.range (N + 1)) fun j hj => List.mem_range.mpr (by have := hWN j hj; omega)
    simpa using this
  have mom : ∀ m, m < W.length → sumI ((List.range (N + 1)).map fun j => X j * bn (N - j) m) = 0 := by
    intro m hm
    have e : sumI ((List.range (m + 1)).map fun l => bn (N - l) (m - l) * sumI ((List.range (N + 1)).map fun j => X j * kr (N - j) j l)) = 2 ^ m * sumI ((List.range (N + 1)).map fun j => X j * bn (N - j) m) := by
      rw [← sumI_mul, sumI_congr fun l _ => (sumI_mul _ _ _).symm, sumI_swap]
      refine sumI_congr fun j hj => ?_
      have hjN : j ≤ N := by have := List.mem_range.mp hj; omega
      rw [sumI_congr (g := fun l => X j * (bn (N - l) (m - l) * kr (N - j) j l)) fun l _ => Int.mul_left_comm _ _ _, sumI_mul, kr_mom hN hjN (by omega)]
      exact Int.mul_left_comm _ _ _
    rw [sumI_zero _ _ fun l hl => by
      have := List.mem_range.mp hl
      rw [h l (by omega), Int.mul_zero]] at e
    have h2 : (2 : Int) ^ m ≠ 0 := Int.pow_ne_zero (by decide)
    rcases Int.mul_eq_zero.mp e.symm with h' | h'
    · exact absurd h' h2
    · exact h'
  have key : ∀ (cs : List Int) (m : Nat), cs.length + m < W.length → sumI ((List.range (N + 1)).map fun j => X j * (prodC ((N - j : Nat) : Int) cs * bn (N - j) m)) = 0 := by
    intro cs
    induction cs with
    | nil =>
      intro m hm
      rw [← mom m (by simpa using hm)]
      exact sumI_congr fun j _ => by show X j * (1 * bn (N - j) m) = _; rw [Int.one_mul]
    | cons c cs ih =>
      intro m hm
      have hm' : cs.length + 1 + m < W.length := by simpa using hm
      have h1 := ih (m + 1) (by omega)
      have h2 := ih m (by omega)
      have e : sumI ((List.range (N + 1)).map fun j => X j * (prodC ((N - j : Nat) : Int) (c :: cs) * bn (N - j) m)) = ((m : Int) + 1) * sumI ((List.range (N + 1)).map fun j => X j * (prodC ((N - j : Nat) : Int) cs * bn (N - j) (m + 1))) + ((m : Int) - c) * sumI ((List.range (N + 1)).map fun j => X j * (prodC ((N - j : Nat) : Int) cs * bn (N - j) m)) := by
        rw [← sumI_mul, ← sumI_mul, ← sumI_add]
        refine sumI_congr fun j hj => ?_
        have hb := (bn_step (a := N - j) (m := m) (by omega) (by omega)).1
        show X j * ((((N - j : Nat) : Int) - c) * prodC _ cs * bn (N - j) m) = _
        generalize ((N - j : Nat) : Int) = A at *
        generalize prodC A cs = P at *
        generalize bn (N - j) m = B0 at *
        generalize bn (N - j) (m + 1) = B1 at *
        generalize X j = x at *
        generalize (m : Int) = mm at *
        grind
      rw [e, h1, h2]; simp
  intro j0 hj0
  by_cases hmem : j0 ∈ W
  · have hk := key ((W.erase j0).map fun j => ((N - j : Nat) : Int)) 0 (by
      rw [List.length_map, List.length_erase_of_mem hmem]
      have := List.length_pos_of_mem hmem
      omega)
    have hb0 : ∀ a, a ≤ 10 → bn a 0 = 1 := fun a ha => (bn_step (m := 0) ha (by omega)).2
    have hz : ∀ (j : Nat) (cs : List Int), ((N - j : Nat) : Int) ∈ cs → prodC ((N - j : Nat) : Int) cs = 0 := by
      intro j cs
      induction cs with
      | nil => intro h; simp at h
      | cons c cs ih =>
        intro h
        show (((N - j : Nat) : Int) - c) * prodC _ cs = 0
        rcases List.mem_cons.mp h with h | h
        · rw [h, Int.sub_self, Int.zero_mul]
        · rw [ih h, Int.mul_zero]
    have hnz : ∀ cs : List Nat, (∀ c ∈ cs, c ≤ N ∧ c ≠ j0) → prodC ((N - j0 : Nat) : Int) (cs.map fun j => ((N - j : Nat) : Int)) ≠ 0 := by
      intro cs
      induction cs with
      | nil => intro _; exact Int.one_ne_zero
      | cons c cs ih =>
        intro h
        obtain ⟨h1, h2⟩ := h c (List.mem_cons_self ..)
        show (((N - j0 : Nat) : Int) - ((N - c : Nat) : Int)) * prodC _ _ ≠ 0
        exact Int.mul_ne_zero (by omega) (ih fun x hx => h x (List.mem_cons_of_mem _ hx))
    have hp := sumI_pick (fun j => X j * (prodC ((N - j : Nat) : Int) ((W.erase j0).map fun j => ((N - j : Nat) : Int)) * bn (N - j) 0)) j0 (N + 1) (by omega)
    have e2 : sumI ((List.range (N + 1)).map fun j => X j * (prodC ((N - j : Nat) : Int) ((W.erase j0).map fun j => ((N - j : Nat) : Int)) * bn (N - j) 0)) = sumI ((List.range (N + 1)).map fun j => if j0 = j then X j * (prodC ((N - j : Nat) : Int) ((W.erase j0).map fun j => ((N - j : Nat) : Int)) * bn (N - j) 0) else 0) := by
      refine sumI_congr fun j hj => ?_
      have hjN : j ≤ N := by have := List.mem_range.mp hj; omega
      by_cases e : j0 = j
      · rw [if_pos e]
      · rw [if_neg e]
        by_cases hm : j ∈ W
        · rw [hz j _ (List.mem_map.mpr ⟨j, (List.mem_erase_of_ne (Ne.symm e)).mpr hm, rfl⟩), Int.zero_mul, Int.mul_zero]
        · rw [hX j hjN hm, Int.zero_mul]
    rw [e2, hp] at hk
    rcases Int.mul_eq_zero.mp hk with h' | h'
    · exact h'
    · rw [hb0 (N - j0) (by omega), Int.mul_one] at h'
      refine absurd h' (hnz _ fun c hc => ?_)
      have hcW := List.mem_of_mem_erase hc
      refine ⟨hWN c hcW, fun e => ?_⟩
      subst e
      exact (List.Nodup.mem_erase_iff hW).mp hc |>.1 rfl
  · exact hX j0 hj0 hmem
def indW (n : Nat) (S : List Nat) : Wd := (List.range n).map fun i => if i ∈ S then 49 else 48
theorem ind_wn (n : Nat) (S : List Nat) : Wn n (indW n S) := ⟨by simp [indW], fun c hc => by
  obtain ⟨i, _, rfl⟩ := List.mem_map.mp hc
  split <;> simp⟩
def wOff (n : Nat) (Z : List Nat) (u : Wd) : Nat := ((List.range n).filter fun i => bt u i && !(decide (i ∈ Z))).length
theorem wo_map (f g : Nat → Nat) : ∀ l : List Nat, wo (l.map f) (l.map g) = (l.filter fun i => decide (f i = 49) && !(decide (g i = 49))).length
  | [] => rfl
  | x :: l => by
    show (if f x = 49 ∧ g x ≠ 49 then 1 else 0) + wo (l.map f) (l.map g) = _
    rw [wo_map f g l, List.filter_cons]
    by_cases h1 : f x = 49 <;> by_cases h2 : g x = 49 <;> simp [h1, h2] <;> omega
theorem dj_map (f g : Nat → Nat) : ∀ l : List Nat, dj (l.map f) (l.map g) = l.all fun i => !(decide (f i = 49) && decide (g i = 49))
  | [] => rfl
  | x :: l => by
    show (!(decide (f x = 49) && decide (g x = 49)) && dj (l.map f) (l.map g)) = _
    rw [dj_map f g l]; rfl
theorem wt_map (f : Nat → Nat) (l : List Nat) : wt (l.map f) = (l.filter fun i => decide (f i = 49)).length := by
  unfold wt
  rw [List.filter_map, List.length_map]
  congr 1
theorem ind49 (S : List Nat) (i : Nat) : ((if i ∈ S then 49 else 48) = 49) ↔ i ∈ S := by
  by_cases h : i ∈ S <;> simp [h]
theorem wo_ind {n : Nat} {u : Wd} (hu : Wn n u) (S : List Nat) : wo u (indW n S) = wOff n S u := by
  have e := wo_map (at_ u) (fun i => if i ∈ S then 49 else 48) (List.range n)
  rw [range_at hu] at e
  unfold indW wOff bt
  rw [e]
  simp only [ind49]
theorem dj_ind {n : Nat} {v : Wd} (hv : Wn n v) {S : List Nat} (hS : ∀ p ∈ S, p < n) : dj v (indW n S) = true ↔ ∀ p ∈ S, bt v p = false := by
  have e := dj_map (at_ v) (fun i => if i ∈ S then 49 else 48) (List.range n)
  rw [range_at hv] at e
  unfold indW
  rw [e, List.all_eq_true]
  simp only [ind49]
  constructor
  · intro h p hp
    have := h p (List.mem_range.mpr (hS p hp))
    simpa [hp, bt] using this
  · intro h i _
    by_cases hi : i ∈ S
    · have := h i hi
      simpa [hi, bt] using this
    · simp [hi]
theorem perm_sub {l m : List Nat} (h1 : l.Nodup) (h2 : m.Nodup) (h : ∀ x, x ∈ l ↔ x ∈ m) : l.length = m.length := ((List.perm_ext_iff_of_nodup h1 h2).mpr h).length_eq
theorem wt_ind {n : Nat} {S : List Nat} (hS : S.Nodup) (hn : ∀ p ∈ S, p < n) : wt (indW n S) = S.length := by
  unfold indW
  rw [wt_map]
  simp only [ind49]
  refine perm_sub ((List.nodup_range).filter _) hS fun x => ?_
  rw [List.mem_filter, List.mem_range, decide_eq_true_eq]
  exact ⟨fun h => h.2, fun h => ⟨hn x h, h⟩⟩
theorem wt_bt {n : Nat} {u : Wd} (hu : Wn n u) : wt u = ((List.range n).filter (bt u)).length := by
  have e := wt_map (at_ u) (List.range n)
  rw [range_at hu] at e
  exact e
def gC (n : Nat) (L : List Wd) (S R : List Nat) (k : Nat) : Nat := (L.filter fun u => R.all (bt u) && decide (wOff n (S ++ R) u = k)).length
theorem filter_len_split {α : Type} (p q : α → Bool) (l : List α) : (l.filter p).length = (l.filter fun x => p x && q x).length + (l.filter fun x => p x && !q x).length := by
  have := filter_split q (l.filter p)
  rw [List.filter_filter, List.filter_filter] at this
  simp only [Bool.and_comm] at this ⊢
  omega
theorem filter_len_congr {α : Type} {p q : α → Bool} {l : List α} (h : ∀ x ∈ l, p x = q x) : (l.filter p).length = (l.filter q).length := by rw [List.filter_congr h]
/-- the weight outside of Z, and of Z with one position more -/
theorem wOff_more {n : Nat} {Z Z' : List Nat} {p : Nat} (hp : p < n) (hZ : p ∉ Z) (hZ' : ∀ i, i ∈ Z' ↔ i = p ∨ i ∈ Z) (u : Wd) : wOff n Z u = wOff n Z' u + if bt u p then 1 else 0 := by
  unfold wOff
  rw [filter_len_split (fun i => bt u i && !decide (i ∈ Z)) (fun i => decide (i = p))]
  have e1 : ((List.range n).filter fun i => (bt u i && !decide (i ∈ Z)) && decide (i = p)).length = if bt u p then 1 else 0 := by
    have : ((List.range n).filter fun i => (bt u i && !decide (i ∈ Z)) && decide (i = p)).length = (if bt u p then [p] else []).length := by
      refine perm_sub (List.nodup_range.filter _) (by split <;> simp) fun x => ?_
      rw [List.mem_filter, List.mem_range]
      simp only [Bool.and_eq_true, Bool.not_eq_true', decide_eq_false_iff_not, decide_eq_true_eq]
      constructor
      · rintro ⟨_, ⟨h1, _⟩, rfl⟩
        rw [if_pos h1]; simp
      · intro h
        by_cases hb : bt u p = true
        · rw [if_pos hb] at h
          simp at h
          subst h
          exact ⟨hp, ⟨hb, hZ⟩, rfl⟩
        · rw [if_neg hb] at h; simp at h
    rw [this]
    split <;> rfl
  have e2 : ((List.range n).filter fun i => (bt u i && !decide (i ∈ Z)) && !decide (i = p)).length = ((List.range n).filter fun i => bt u i && !decide (i ∈ Z')).length := filter_len_congr fun i _ => by
    rw [Bool.eq_iff_iff]
    simp only [Bool.and_eq_true, Bool.not_eq_true', decide_eq_false_iff_not, hZ', not_or]
    exact ⟨fun ⟨⟨a, b⟩, c⟩ => ⟨a, c, b⟩, fun ⟨a, c, b⟩ => ⟨⟨a, b⟩, c⟩⟩
  rw [e1, e2]; omega
theorem gC_step {n : Nat} {S R : List Nat} {p : Nat} (hp : p < n) (hZ : p ∉ S ++ R) (L : List Wd) (k : Nat) :
    gC n L (p :: S) R k + (if k = 0 then 0 else gC n L S (p :: R) (k - 1)) = gC n L S R k + gC n L S (p :: R) k := by
  have hm : ∀ i, i ∈ (p :: S) ++ R ↔ i = p ∨ i ∈ S ++ R := fun i => by rw [List.cons_append, List.mem_cons]
  have hm' : ∀ i, i ∈ S ++ (p :: R) ↔ i = p ∨ i ∈ S ++ R := fun i => by
    rw [List.mem_append, List.mem_cons, List.mem_append]
    exact ⟨fun h => h.elim (fun h => .inr (.inl h)) fun h => h.elim .inl fun h => .inr (.inr h), fun h => h.elim (fun h => .inr (.inl h)) fun h => h.elim .inl fun h => .inr (.inr h)⟩
  have w1 := fun u => wOff_more hp hZ hm u
  have w2 := fun u => wOff_more hp hZ hm' u
  unfold gC
  rw [filter_len_split (fun u => R.all (bt u) && decide (wOff n ((p :: S) ++ R) u = k)) (fun u => bt u p), filter_len_split (fun u => R.all (bt u) && decide (wOff n (S ++ R) u = k)) (fun u => bt u p)]
  have e0 : (L.filter fun u => (R.all (bt u) && decide (wOff n ((p :: S) ++ R) u = k)) && !bt u p).length = (L.filter fun u => (R.all (bt u) && decide (wOff n (S ++ R) u = k)) && !bt u p).length := filter_len_congr fun u _ => by
    cases hb : bt u p with
    | true => simp
    | false => rw [w1 u, hb]; simp
  have e1 : (L.filter fun u => (R.all (bt u) && decide (wOff n ((p :: S) ++ R) u = k)) && bt u p).length = (L.filter fun u => (p :: R).all (bt u) && decide (wOff n (S ++ (p :: R)) u = k)).length := filter_len_congr fun u _ => by
    have : wOff n ((p :: S) ++ R) u = wOff n (S ++ (p :: R)) u := by have a := w1 u; have b := w2 u; omega
    rw [this, List.all_cons]
    cases bt u p <;> simp
  have e2 : (L.filter fun u => (R.all (bt u) && decide (wOff n (S ++ R) u = k)) && bt u p).length = (if k = 0 then 0 else (L.filter fun u => (p :: R).all (bt u) && decide (wOff n (S ++ (p :: R)) u = k - 1)).length) := by
    by_cases hk : k = 0
    · rw [if_pos hk, List.length_eq_zero_iff, List.filter_eq_nil_iff]
      intro u _
      cases hb : bt u p with
      | false => simp
      | true =>
        have := w2 u
        rw [hb] at this
        simp
        intro _
        simp at this
        omega
    · rw [if_neg hk]
      refine filter_len_congr fun u _ => ?_
      rw [List.all_cons]
      cases hb : bt u p with
      | false => simp
      | true =>
        have := w2 u
        rw [hb] at this
        simp only [if_true] at this
        rw [Bool.and_true, Bool.true_and]
        congr 1
        rw [Bool.eq_iff_iff, decide_eq_true_eq, decide_eq_true_eq]
        omega
  rw [e0, e1, e2]
  omega
/-- sets of one size meet the words alike -/
theorem gC_const {n t : Nat} {L : List Wd} (h0 : ∀ S S' : List Nat, S.Nodup → S'.Nodup → (∀ p ∈ S, p < n) → (∀ p ∈ S', p < n) → S.length = S'.length → S.length ≤ t → ∀ k, gC n L S [] k = gC n L S' [] k) :
    ∀ r, ∀ S R S' R' : List Nat, (S ++ R).Nodup → (S' ++ R').Nodup → (∀ p ∈ S ++ R, p < n) → (∀ p ∈ S' ++ R', p < n) → S.length = S'.length → R.length = r → R'.length = r → S.length + r ≤ t → ∀ k, gC n L S R k = gC n L S' R' k
  | 0, S, R, S', R', h1, h2, h3, h4, h5, h6, h7, h8, k => by
    have := List.eq_nil_of_length_eq_zero h6
    have := List.eq_nil_of_length_eq_zero h7
    subst_vars
    rw [List.append_nil] at h1 h2 h3 h4
    exact h0 S S' h1 h2 h3 h4 h5 (by omega) k
  | r + 1, S, p :: R, S', p' :: R', h1, h2, h3, h4, h5, h6, h7, h8, k => by
    have q : ∀ {S R : List Nat} {p : Nat}, (S ++ p :: R).Nodup → p ∉ S ++ R ∧ ((p :: S) ++ R).Nodup ∧ (S ++ R).Nodup := fun {S R p} h => by
      have hp : (S ++ p :: R).Perm (p :: (S ++ R)) := List.perm_middle
      have := hp.nodup_iff.mp h
      exact ⟨(List.nodup_cons.mp this).1, this, (List.nodup_cons.mp this).2⟩
    obtain ⟨a1, a2, a3⟩ := q h1
    obtain ⟨b1, b2, b3⟩ := q h2
    have m1 : ∀ x ∈ S ++ R, x < n := fun x hx => h3 x ((List.mem_append.mp hx).elim (fun h => List.mem_append.mpr (.inl h)) fun h => List.mem_append.mpr (.inr (List.mem_cons_of_mem _ h)))
    have m2 : ∀ x ∈ S' ++ R', x < n := fun x hx => h4 x ((List.mem_append.mp hx).elim (fun h => List.mem_append.mpr (.inl h)) fun h => List.mem_append.mpr (.inr (List.mem_cons_of_mem _ h)))
    have hp : p < n := h3 p (List.mem_append.mpr (.inr (List.mem_cons_self ..)))
    have hp' : p' < n := h4 p' (List.mem_append.mpr (.inr (List.mem_cons_self ..)))
    have hR : R.length = r := by simpa using h6
    have hR' : R'.length = r := by simpa using h7
    have c1 := gC_const h0 r (p :: S) R (p' :: S') R' a2 b2 (fun x hx => (List.mem_cons.mp hx).elim (fun e => e ▸ hp) (m1 x)) (fun x hx => (List.mem_cons.mp hx).elim (fun e => e ▸ hp') (m2 x)) (by simp [h5]) hR hR' (by simp; omega)
    have c2 := gC_const h0 r S R S' R' a3 b3 m1 m2 h5 hR hR' (by omega)
    induction k with
    | zero =>
      have s1 := gC_step hp a1 L 0
      have s2 := gC_step hp' b1 L 0
      rw [c1 0, c2 0] at s1
      simp only [if_true] at s1 s2
      omega
    | succ k ih =>
      have s1 := gC_step hp a1 L (k + 1)
      have s2 := gC_step hp' b1 L (k + 1)
      rw [c1 (k + 1), c2 (k + 1)] at s1
      simp only [Nat.add_one_ne_zero, if_false, Nat.add_sub_cancel] at s1 s2
      omega
  | r + 1, _, [], _, _, _, _, _, _, _, h6, _, _, _ => by simp at h6
  | r + 1, _, _ :: _, _, [], _, _, _, _, _, _, h7, _, _ => by simp at h7
end G7

set_option Elab.async false
set_option linter.all false
set_option maxRecDepth 100000
set_option autoImplicit false
namespace G7
theorem group_fn {α : Type} {N : Nat} (w : α → Nat) (f : Nat → Int) : ∀ {L : List α}, (∀ u ∈ L, w u ≤ N) → sumI ((List.range (N + 1)).map fun i => (((L.filter fun u => decide (w u = i)).length : Nat) : Int) * f i) = sumF (fun u => f (w u)) L
  | [], _ => sumI_zero _ _ fun i _ => by simp
  | u :: L, h => by
    have ih := group_fn w f (L := L) fun v hv => h v (List.mem_cons_of_mem _ hv)
    have hu := h u (List.mem_cons_self ..)
    show _ = f (w u) + sumF (fun u => f (w u)) L
    rw [← ih, ← sumI_pick f (w u) (N + 1) (by omega), ← sumI_add]
    refine sumI_congr fun i _ => ?_
    rw [List.filter_cons]
    by_cases e : w u = i
    · simp only [e, decide_true, if_true, List.length_cons]
      push_cast
      rw [Int.add_mul, Int.one_mul, Int.add_comm]
    · simp only [e, decide_false, if_false]
      rw [Int.zero_add]; rfl
theorem few_more (q : Nat → Bool) (a : Nat) : ∀ b, ((List.range (a + b)).filter q).length ≤ ((List.range a).filter q).length + b
  | 0 => by simp
  | b + 1 => by
    rw [← Nat.add_assoc, List.range_succ, List.filter_append, List.length_append]
    have h1 := few_more q a b
    have h2 : ([a + b].filter q).length ≤ 1 := List.length_filter_le _ _
    omega
theorem wOff_le {n : Nat} {S : List Nat} (hS : S.Nodup) (hn : ∀ p ∈ S, p < n) {u : Wd} (hu : Wn n u) : wOff n S u + S.length ≤ n := by
  have := wo_le hu (ind_wn n S)
  rw [wo_ind hu, wt_ind hS hn] at this
  exact this
theorem wt_off {n : Nat} {S : List Nat} (hS : S.Nodup) {u : Wd} (hu : Wn n u) : wt u ≤ wOff n S u + S.length := by
  rw [wt_bt hu, filter_len_split (bt u) (fun i => decide (i ∈ S))]
  unfold wOff
  have : ((List.range n).filter fun i => bt u i && decide (i ∈ S)).length ≤ S.length := nodup_sub_len (List.nodup_range.filter _) fun x hx => by
    have := (List.mem_filter.mp hx).2
    rw [Bool.and_eq_true, decide_eq_true_eq] at this
    exact this.2
  omega
theorem gC_nil (n : Nat) (L : List Wd) (S : List Nat) (k : Nat) : gC n L S [] k = (L.filter fun u => decide (wOff n S u = k)).length := by
  unfold gC
  rw [List.append_nil]
  exact filter_len_congr fun u _ => by simp
theorem even_gC {n t d : Nat} (hn : n ≤ 10) {bs L D : List Wd} (h : RedW n bs) (hL : EnumL (SpW n bs) L) (hD : EnumL (Orth n bs) D) (hd : ∀ u ∈ L, u ≠ zr n → d ≤ wt u) (ht : t ≤ n)
    (hf : ((List.range (n - t)).filter fun i => decide (0 < cntW D (i + 1))).length + t ≤ d) (S S' : List Nat) (hS : S.Nodup) (hS' : S'.Nodup) (h1 : ∀ p ∈ S, p < n) (h2 : ∀ p ∈ S', p < n) (hl : S.length = S'.length) (hst : S.length ≤ t) (k : Nat) : gC n L S [] k = gC n L S' [] k := by
  have hall := RedW.all h.u
  have hLw : ∀ u ∈ L, Wn n u := fun u hu => ((hL.m u).mp hu).1
  have hz : zr n ∈ L := (hL.m _).mpr (sp_lin hall).z
  have hpos : 0 < L.length := List.length_pos_of_mem hz
  obtain ⟨N, hN⟩ : ∃ N, N = n - S.length := ⟨_, rfl⟩
  have hN10 : N ≤ 10 := by omega
  -- both kinds of numbers
  have eq1 : ∀ T : List Nat, T.Nodup → (∀ p ∈ T, p < n) → T.length = S.length → ∀ j, sumI ((List.range (N + 1)).map fun k => ((gC n L T [] k : Nat) : Int) * kr (N - k) k j) = (L.length : Int) * djC (indW n T) D j := by
    intro T hT hTn hTl j
    have hm := macwM h hL hD (ind_wn n T) j
    rw [wt_ind hT hTn, hTl, ← hN] at hm
    rw [← hm]
    have hg := group_fn (N := N) (fun u => wOff n T u) (fun k => kr (N - k) k j) (L := L) fun u hu => by have := wOff_le hT hTn (hLw u hu); omega
    have e : sumF (fun u => kr (N - wo u (indW n T)) (wo u (indW n T)) j) L = sumF (fun u => kr (N - wOff n T u) (wOff n T u) j) L := sumF_congr fun u hu => by rw [wo_ind (hLw u hu)]
    rw [e, ← hg]
    exact sumI_congr fun i _ => by rw [gC_nil]
  have eq2 : ∀ T : List Nat, T.Nodup → (∀ p ∈ T, p < n) → T.length = S.length → ∀ l, l ≤ N → (L.length : Int) * sumI ((List.range (N + 1)).map fun j => ((djC (indW n T) D j : Nat) : Int) * kr (N - j) j l) = 2 ^ N * ((gC n L T [] l : Nat) : Int) := by
    intro T hT hTn hTl l hlN
    rw [← sumI_mul]
    have e1 : sumI ((List.range (N + 1)).map fun j => (L.length : Int) * (((djC (indW n T) D j : Nat) : Int) * kr (N - j) j l)) = sumI ((List.range (N + 1)).map fun j => sumI ((List.range (N + 1)).map fun k => ((gC n L T [] k : Nat) : Int) * (kr (N - k) k j * kr (N - j) j l))) := by
      refine sumI_congr fun j _ => ?_
      rw [← Int.mul_assoc, ← eq1 T hT hTn hTl j, Int.mul_comm, ← sumI_mul]
      refine sumI_congr fun k _ => ?_
      rw [Int.mul_comm (kr (N - j) j l), Int.mul_assoc]
    rw [e1, sumI_swap]
    rw [sumI_congr (g := fun k => if l = k then 2 ^ N * ((gC n L T [] k : Nat) : Int) else 0) fun k hk => by
      have hkN : k ≤ N := by have := List.mem_range.mp hk; omega
      rw [sumI_mul, kr_inv hN10 hkN hlN]
      by_cases e : k = l
      · rw [if_pos e, if_pos e.symm, Int.mul_comm]
      · rw [if_neg e, if_neg (Ne.symm e), Int.mul_zero]]
    exact sumI_pick (fun k => 2 ^ N * ((gC n L T [] k : Nat) : Int)) l (N + 1) (by omega)
  -- few words are near
  have low : ∀ T : List Nat, T.Nodup → (∀ p ∈ T, p < n) → T.length = S.length → ∀ l, l + S.length < d → gC n L T [] l = if l = 0 then 1 else 0 := by
    intro T hT hTn hTl l hld
    rw [gC_nil]
    have hzo : wOff n T (zr n) = 0 := by
      unfold wOff
      rw [List.length_eq_zero_iff, List.filter_eq_nil_iff]
      intro i _
      rw [bt_zr]; simp
    have only : ∀ u ∈ L, wOff n T u = l → u = zr n := fun u hu e => Classical.byContradiction fun z => by
      have := hd u hu z
      have := wt_off hT (hLw u hu)
      omega
    by_cases e : l = 0
    · rw [if_pos e]
      have : (L.filter fun u => decide (wOff n T u = l)).Perm [zr n] := by
        refine (List.perm_ext_iff_of_nodup (hL.nd.filter _) (by simp)).mpr fun u => ?_
        rw [List.mem_filter, decide_eq_true_eq, List.mem_singleton]
        exact ⟨fun ⟨a, b⟩ => only u a b, fun z => by subst z; exact ⟨hz, by rw [hzo, e]⟩⟩
      simpa using this.length_eq
    · rw [if_neg e, List.length_eq_zero_iff, List.filter_eq_nil_iff]
      intro u hu hc
      have hc' : wOff n T u = l := by simpa using hc
      have := only u hu hc'
      rw [this, hzo] at hc'
      exact e hc'.symm
  have hDw : ∀ v ∈ D, Wn n v := fun v hv => ((hD.m v).mp hv).1
  have hB0 : ∀ T : List Nat, (∀ p ∈ T, p < n) → djC (indW n T) D 0 = cntW D 0 := fun T hTn => by
    unfold djC cntW
    refine filter_len_congr fun v hv => ?_
    by_cases e : wt v = 0
    · have hv0 := wt_zero (hDw v hv) e
      have : dj v (indW n T) = true := (dj_ind (hDw v hv) hTn).mpr fun p _ => by rw [hv0]; exact bt_zr _ _
      rw [this]; simp
    · simp [e]
  have hBle : ∀ (T : List Nat) (j : Nat), djC (indW n T) D j ≤ cntW D j := fun T j => by
    unfold djC cntW
    have := filter_len_split (fun v => decide (wt v = j)) (fun v => dj v (indW n T)) D
    omega
  have hX := nonsing (N := N) hN10 (X := fun j => ((djC (indW n S) D j : Nat) : Int) - ((djC (indW n S') D j : Nat) : Int)) (W := ((List.range N).filter fun i => decide (0 < cntW D (i + 1))).map (· + 1))
    (List.pairwise_map.mpr ((List.nodup_range.filter _).imp fun {a b} h e => h (by omega))) (fun j hj => by
      obtain ⟨i, hi, rfl⟩ := List.mem_map.mp hj
      have := List.mem_range.mp (List.mem_filter.mp hi).1
      omega) (fun j hj hjW => by
      show ((djC (indW n S) D j : Nat) : Int) - ((djC (indW n S') D j : Nat) : Int) = 0
      by_cases e : j = 0
      · subst e
        rw [hB0 S h1, hB0 S' h2]; omega
      · have hc : cntW D j = 0 := by
          rcases Nat.eq_zero_or_pos (cntW D j) with z | z
          · exact z
          · refine absurd (List.mem_map.mpr ⟨j - 1, List.mem_filter.mpr ⟨List.mem_range.mpr (by omega), ?_⟩, by omega⟩) hjW
            rw [show j - 1 + 1 = j by omega]
            simpa using z
        have a := hBle S j
        have b := hBle S' j
        omega) (fun l hlW => by
      rw [List.length_map] at hlW
      have hfm := few_more (fun i => decide (0 < cntW D (i + 1))) (n - t) (t - S.length)
      rw [show n - t + (t - S.length) = N by omega] at hfm
      have hlN : l ≤ N := by
        have := List.length_filter_le (fun i => decide (0 < cntW D (i + 1))) (List.range N)
        rw [List.length_range] at this
        omega
      have a := eq2 S hS h1 rfl l hlN
      have b := eq2 S' hS' h2 hl.symm l hlN
      rw [low S hS h1 rfl l (by omega)] at a
      rw [low S' hS' h2 hl.symm l (by omega)] at b
      have e : (L.length : Int) * sumI ((List.range (N + 1)).map fun j => (((djC (indW n S) D j : Nat) : Int) - ((djC (indW n S') D j : Nat) : Int)) * kr (N - j) j l) = 0 := by
        rw [sumI_congr (g := fun j => ((djC (indW n S) D j : Nat) : Int) * kr (N - j) j l + (-1) * (((djC (indW n S') D j : Nat) : Int) * kr (N - j) j l)) fun j _ => by rw [Int.sub_mul]; omega, sumI_add, sumI_mul, Int.mul_add, a, Int.mul_left_comm, b]
        omega
      rcases Int.mul_eq_zero.mp e with z | z
      · omega
      · exact z)
  by_cases hkN : k ≤ N
  · have a := eq2 S hS h1 rfl k hkN
    have b := eq2 S' hS' h2 hl.symm k hkN
    have e : sumI ((List.range (N + 1)).map fun j => ((djC (indW n S) D j : Nat) : Int) * kr (N - j) j k) = sumI ((List.range (N + 1)).map fun j => ((djC (indW n S') D j : Nat) : Int) * kr (N - j) j k) := sumI_congr fun j hj => by
      have hjN : j ≤ N := by have := List.mem_range.mp hj; omega
      have := hX j hjN
      have e : ((djC (indW n S) D j : Nat) : Int) = ((djC (indW n S') D j : Nat) : Int) := by
        have this' : ((djC (indW n S) D j : Nat) : Int) - ((djC (indW n S') D j : Nat) : Int) = 0 := this
        omega
      rw [e]
    rw [e, b] at a
    have h2N : (2 : Int) ^ N ≠ 0 := Int.pow_ne_zero (by decide)
    have := Int.eq_of_mul_eq_mul_left h2N a
    omega
  · have z : ∀ T : List Nat, T.Nodup → (∀ p ∈ T, p < n) → T.length = S.length → gC n L T [] k = 0 := fun T hT hTn hTl => by
      rw [gC_nil, List.length_eq_zero_iff, List.filter_eq_nil_iff]
      intro u hu hc
      have hc' : wOff n T u = k := by simpa using hc
      have := wOff_le hT hTn (hLw u hu)
      omega
    rw [z S hS h1 rfl, z S' hS' h2 hl.symm]
/-- how many words of a weight have ones in the positions R -/
def covN (L : List Wd) (w : Nat) (R : List Nat) : Nat := ((L.filter fun u => decide (wt u = w)).filter fun u => R.all (bt u)).length
theorem wt_split {n : Nat} {R : List Nat} (hR : R.Nodup) (hn : ∀ p ∈ R, p < n) {u : Wd} (hu : Wn n u) (hc : R.all (bt u) = true) : wt u = wOff n R u + R.length := by
  rw [wt_bt hu, filter_len_split (bt u) (fun i => decide (i ∈ R))]
  unfold wOff
  have : ((List.range n).filter fun i => bt u i && decide (i ∈ R)).length = R.length := perm_sub (List.nodup_range.filter _) hR fun x => by
    rw [List.mem_filter, List.mem_range, Bool.and_eq_true, decide_eq_true_eq]
    exact ⟨fun z => z.2.2, fun z => ⟨hn x z, List.all_eq_true.mp hc x z, z⟩⟩
  omega
theorem covN_gC {n w : Nat} {L : List Wd} (hL : AllW n L) {R : List Nat} (hR : R.Nodup) (hn : ∀ p ∈ R, p < n) : covN L w R = if R.length ≤ w then gC n L [] R (w - R.length) else 0 := by
  unfold covN gC
  rw [List.filter_filter]
  by_cases h : R.length ≤ w
  · rw [if_pos h]
    refine filter_len_congr fun u hu => ?_
    cases hc : R.all (bt u) with
    | false => simp
    | true =>
      have := wt_split hR hn (hL u hu) hc
      rw [List.nil_append, Bool.true_and, Bool.true_and, Bool.eq_iff_iff, decide_eq_true_eq, decide_eq_true_eq]
      omega
  · rw [if_neg h, List.length_eq_zero_iff, List.filter_eq_nil_iff]
    intro u hu hc
    rw [Bool.and_eq_true, decide_eq_true_eq] at hc
    have := wt_split hR hn (hL u hu) hc.1
    omega
theorem even_cover {n t d : Nat} (hn : n ≤ 10) {bs L D : List Wd} (h : RedW n bs) (hL : EnumL (SpW n bs) L) (hD : EnumL (Orth n bs) D) (hd : ∀ u ∈ L, u ≠ zr n → d ≤ wt u) (ht : t ≤ n)
    (hf : ((List.range (n - t)).filter fun i => decide (0 < cntW D (i + 1))).length + t ≤ d) {R R' : List Nat} (hR : R.Nodup) (hR' : R'.Nodup) (h1 : ∀ p ∈ R, p < n) (h2 : ∀ p ∈ R', p < n) (l1 : R.length = t) (l2 : R'.length = t) (w : Nat) : covN L w R = covN L w R' := by
  have hLw : AllW n L := fun u hu => ((hL.m u).mp hu).1
  rw [covN_gC hLw hR h1, covN_gC hLw hR' h2, l1, l2]
  split
  · exact gC_const (even_gC hn h hL hD hd ht hf) t [] R [] R' hR hR' h1 h2 rfl l1 l2 (by simp) _
  · rfl
end G7

set_option Elab.async false
set_option linter.all false
set_option maxRecDepth 100000
set_option autoImplicit false
namespace G7
def nxtL (n : Nat) (row : List Nat) : List Nat := match row.getLast? with
  | none => List.range n
  | some l => (List.range (n - (l + 1))).map fun i => l + 1 + i
def psets (n : Nat) : Nat → List (List Nat)
  | 0 => [[]]
  | k + 1 => (psets n k).flatMap fun row => (nxtL n row).map fun i => row ++ [i]
theorem nxt_mem {n : Nat} {row : List Nat} {i : Nat} : i ∈ nxtL n row ↔ i < n ∧ ∀ l, row.getLast? = some l → l < i := by
  unfold nxtL
  cases h : row.getLast? with
  | none => simp
  | some l =>
    simp only [List.mem_map, List.mem_range, Option.some.injEq]
    constructor
    · rintro ⟨j, hj, rfl⟩
      exact ⟨by omega, fun m e => by omega⟩
    · rintro ⟨h1, h2⟩
      have := h2 l rfl
      exact ⟨i - (l + 1), by omega, by omega⟩
def nxtB (row : List Nat) (i : Nat) : Bool := decide (row = []) || (match row.getLast? with | some l => decide (l < i) | none => true)
theorem nxt_filter (n : Nat) (row : List Nat) : (List.range n).filter (nxtB row) = nxtL n row := by
  unfold nxtL nxtB
  cases h : row.getLast? with
  | none =>
    have : row = [] := List.getLast?_eq_none_iff.mp h
    subst this
    simp
  | some l =>
    have hne : row ≠ [] := fun e => by subst e; simp at h
    simp only [hne, decide_false, Bool.false_or]
    have : ∀ m, (List.range m).filter (fun i => decide (l < i)) = (List.range (m - (l + 1))).map fun i => l + 1 + i := by
      intro m
      induction m with
      | zero => simp
      | succ m ih =>
        rw [List.range_succ, List.filter_append, ih]
        by_cases hm : l < m
        · rw [show m + 1 - (l + 1) = (m - (l + 1)) + 1 by omega, List.range_succ, List.map_append]
          simp [hm]
          omega
        · rw [show m + 1 - (l + 1) = 0 by omega, show m - (l + 1) = 0 by omega]
          simp [hm]
    exact this n
theorem psets_ok (n : Nat) : ∀ k, ∀ r ∈ psets n k, r.length = k ∧ r.Pairwise (· < ·) ∧ (∀ p ∈ r, p < n)
  | 0, r, h => by
    have : r = [] := by simpa [psets] using h
    subst this
    simp
  | k + 1, r, h => by
    obtain ⟨row, h1, h2⟩ := List.mem_flatMap.mp h
    obtain ⟨i, hi, rfl⟩ := List.mem_map.mp h2
    obtain ⟨a, b, c⟩ := psets_ok n k row h1
    obtain ⟨i1, i2⟩ := nxt_mem.mp hi
    refine ⟨by simp [a], ?_, fun p hp => ?_⟩
    · refine List.pairwise_append.mpr ⟨b, by simp, fun x hx y hy => ?_⟩
      simp at hy
      subst hy
      cases hl : row.getLast? with
      | none => rw [List.getLast?_eq_none_iff.mp hl] at hx; simp at hx
      | some l =>
        have hli := i2 l hl
        obtain ⟨ys, rfl⟩ := List.getLast?_eq_some_iff.mp hl
        rcases List.mem_append.mp hx with hx | hx
        · have := (List.pairwise_append.mp b).2.2 x hx l (by simp)
          omega
        · simp at hx; omega
    · rcases List.mem_append.mp hp with h | h
      · exact c p h
      · simp at h; omega
theorem asc_nodup {r : List Nat} (h : r.Pairwise (· < ·)) : r.Nodup := h.imp fun {a b} h e => by omega
theorem psets_first {n : Nat} : ∀ k, k ≤ n → List.range k ∈ psets n k
  | 0, _ => by simp [psets]
  | k + 1, h => by
    refine List.mem_flatMap.mpr ⟨List.range k, psets_first k (by omega), List.mem_map.mpr ⟨k, nxt_mem.mpr ⟨by omega, fun l hl => ?_⟩, (List.range_succ).symm⟩⟩
    have := List.mem_of_getLast? hl
    exact List.mem_range.mp this
theorem psets_len (n : Nat) : ∀ k, (psets n k).length ≤ n ^ k
  | 0 => Nat.le_refl _
  | k + 1 => by
    have h1 := psets_len n k
    have : ∀ rows : List (List Nat), (rows.flatMap fun row => (nxtL n row).map fun i => row ++ [i]).length ≤ rows.length * n := fun rows => by
      induction rows with
      | nil => simp
      | cons r rows ih =>
        rw [List.flatMap_cons, List.length_append, List.length_map, List.length_cons, Nat.add_mul]
        have : (nxtL n r).length ≤ n := by
          unfold nxtL
          cases r.getLast? with
          | none => simp
          | some l => simp
        omega
    refine Nat.le_trans (this _) ?_
    rw [Nat.pow_succ]
    exact Nat.mul_le_mul_right n h1
theorem wt_cnt2 : ∀ {n : Nat} {a b : Wd}, Wn n a → Wn n b → wt (xo a b) + 2 * cnt2 a b = wt a + wt b
  | 0, a, b, ha, hb => by
    have := List.eq_nil_of_length_eq_zero ha.l
    have := List.eq_nil_of_length_eq_zero hb.l
    subst_vars
    rfl
  | n + 1, a, b, ha, hb => by
    rcases ha.cases with ⟨e, _⟩ | ⟨m, x, a', e, rfl, hx, ha'⟩
    · cases e
    rcases hb.cases with ⟨e, _⟩ | ⟨m', y, b', e', rfl, hy, hb'⟩
    · cases e
    cases e; cases e'
    have ih := wt_cnt2 ha' hb'
    have hc : cnt2 (x :: a') (y :: b') = (if x = 49 ∧ y = 49 then 1 else 0) + cnt2 a' b' := by
      unfold cnt2
      rw [List.zip_cons_cons, List.filter_cons]
      by_cases h : x = 49 ∧ y = 49
      · simp [h.1, h.2]; omega
      · by_cases h1 : x = 49 <;> by_cases h2 : y = 49 <;> simp [h1, h2] at h ⊢
    rw [show xo (x :: a') (y :: b') = xb x y :: xo a' b' from rfl, wt_cons, wt_cons, wt_cons, hc]
    rcases hx with rfl | rfl <;> rcases hy with rfl | rfl <;> simp [xb] <;> omega
theorem four_orth {n : Nat} {bs L : List Wd} (hb : AllW n bs) (hL : EnumL (SpW n bs) L) (h4 : ∀ u ∈ L, wt u % 4 = 0) (w : Wd) (hw : SpW n bs w) : Orth n bs w := by
  refine ⟨hw.1, fun b hbm => ?_⟩
  have hbS : SpW n bs b := ⟨hb b hbm, sp_mem hb hbm⟩
  rw [dot_cnt (hb b hbm) hw.1]
  have e := wt_cnt2 (hb b hbm) hw.1
  have h1 := h4 _ ((hL.m _).mpr ((sp_lin hb).a _ _ hbS hw))
  have h2 := h4 _ ((hL.m _).mpr hbS)
  have h3 := h4 _ ((hL.m _).mpr hw)
  exact decide_eq_false (by omega)
theorem inter_self {n : Nat} {bs : List Wd} (h : RedW n bs) (hs : ∀ w, SpW n bs w → Orth n bs w) : interL n bs (dualL n bs) = bs := by
  obtain ⟨d1, d2⟩ := dual_ok h.u
  obtain ⟨i1, i2⟩ := inter_ok h d1
  have := redL_of (RedW.all i1.u) h fun u => (i2 u).trans ⟨fun z => z.1, fun z => ⟨z, (d2 u).mpr (hs u z)⟩⟩
  have e := redL_of (RedW.all i1.u) i1 fun u => Iff.rfl
  rw [← e, this]
def evV : List Nat → PV
  | [] => .non
  | c :: r => if r.all (fun x => decide (x = c)) then .int (c : Nat) else .non
theorem evV_yes {c : Nat} {r : List Nat} (h : r.all (fun x => decide (x = c)) = true) : evV (c :: r) = .int (c : Nat) := by
  show (if r.all (fun x => decide (x = c)) then PV.int (c : Nat) else .non) = _
  rw [h]; rfl
theorem evV_no {c : Nat} {r : List Nat} (h : r.all (fun x => decide (x = c)) = false) : evV (c :: r) = .non := by
  show (if r.all (fun x => decide (x = c)) then PV.int (c : Nat) else .non) = _
  rw [h]; rfl
theorem v_eqIN (a b : Nat) : eqV (.int (a : Nat)) (.int (b : Nat)) = some (.bl (decide (a = b))) := by
  show some (PV.bl ((a : Int) == (b : Int))) = _
  congr 2
  rw [Bool.eq_iff_iff, beq_iff_eq, decide_eq_true_eq]
  omega
def addI (A : List Nat) (k : Nat) : List Nat := if k ∈ A then A else A ++ [k]
theorem addI_len : ∀ (r A : List Nat), (r.foldl addI A).length ≤ A.length + r.length
  | [], A => by simp
  | x :: r, A => by
    rw [List.foldl_cons]
    refine Nat.le_trans (addI_len r _) ?_
    unfold addI
    split <;> simp <;> omega
def kvI (k : Nat) : PV × PV := (.int (k : Nat), .bl true)
theorem putI (A : List Nat) (k : Nat) : putD (.int (k : Nat)) (.bl true) (A.map kvI) = (addI A k).map kvI := by
  have hh : hasD (.int (k : Nat)) (A.map kvI) = decide (k ∈ A) := by
    induction A with
    | nil => simp [hasD]
    | cons a A ih =>
      show (eqv (.int (a : Nat)) (.int (k : Nat)) || hasD (.int (k : Nat)) (A.map kvI)) = _
      rw [ih, Bool.eq_iff_iff]
      simp only [eqv, Bool.or_eq_true, beq_iff_eq, decide_eq_true_eq, List.mem_cons]
      constructor
      · rintro (h | h)
        · exact .inl (by omega)
        · exact .inr h
      · rintro (h | h)
        · exact .inl (by omega)
        · exact .inr h
  have hs : ∀ B : List Nat, swapD (.int (k : Nat)) (.bl true) (B.map kvI) = B.map kvI := fun B => by
    induction B with
    | nil => rfl
    | cons a B ih =>
      show (if eqv (.int (a : Nat)) (.int (k : Nat)) then (PV.int (a : Nat), PV.bl true) else (.int (a : Nat), .bl true)) :: swapD _ _ (B.map kvI) = _
      rw [ih]
      split <;> rfl
  unfold putD addI
  rw [hh]
  by_cases h : k ∈ A
  · simp only [h, decide_true, if_true]
    exact hs A
  · simp only [h, decide_false, if_false]
    rw [List.map_append]; rfl
theorem dedI_one (c : Nat) : ∀ r : List Nat, (r.foldl addI [c] = [c] ∧ r.all (fun x => decide (x = c)) = true) ∨ (2 ≤ (r.foldl addI [c]).length ∧ r.all (fun x => decide (x = c)) = false) := by
  have grow : ∀ (r A : List Nat), A.length ≤ (r.foldl addI A).length := by
    intro r
    induction r with
    | nil => intro A; exact Nat.le_refl _
    | cons x r ih =>
      intro A
      refine Nat.le_trans ?_ (ih (addI A x))
      unfold addI
      split <;> simp
  intro r
  induction r with
  | nil => exact .inl ⟨rfl, rfl⟩
  | cons x r ih =>
    rw [List.foldl_cons, List.all_cons]
    by_cases h : x = c
    · subst h
      have : addI [x] x = [x] := by unfold addI; simp
      rw [this]
      simpa using ih
    · refine .inr ⟨?_, by simp [h]⟩
      have : addI [c] x = [c, x] := by unfold addI; simp [h]
      rw [this]
      exact grow r [c, x]
def rowV (r : List Nat) : PV := .tup (r.map fun i => .int (i : Nat))
theorem v_last {r : List Nat} {l : Nat} (h : r.getLast? = some l) : getV (rowV r) (.int (-1)) = some (.int (l : Nat)) := by
  obtain ⟨ys, rfl⟩ := List.getLast?_eq_some_iff.mp h
  show L2.atI ((ys ++ [l]).map fun i => PV.int (i : Nat)) (-1) = _
  unfold L2.atI L2.ixN
  have e : (-1 : Int) + ((((ys ++ [l]).map fun i => PV.int (i : Nat)).length : Nat) : Int) = (ys.length : Int) := by simp; omega
  rw [if_neg (by decide), if_pos (by simp; omega), e]
  simp
theorem v_rowne (r : List Nat) : neV (rowV r) (.tup []) = some (.bl (decide (r ≠ []))) := ne_nilT (fun i : Nat => PV.int (i : Nat)) (fun _ => rfl) r
theorem v_roweq (r : List Nat) : eqV (rowV r) (.tup []) = some (.bl (decide (r = []))) := by
  unfold eqV
  rw [show dp 60 (rowV r) = true from dp_nats 59 r, show dp 60 (.tup []) = true from rfl]
  cases r <;> rfl
theorem v_rowadd {r : List Nat} (h : r.length ≤ 1000) (i : Nat) : addV (rowV r) (.tup [.int (i : Nat)]) = some (rowV (r ++ [i])) := by
  show (if (r.map fun i => PV.int (i : Nat)).length + 1 ≤ LINE then some (PV.tup ((r.map fun i => PV.int (i : Nat)) ++ [.int (i : Nat)])) else none) = _
  rw [if_pos (by rw [List.length_map]; exact Nat.le_trans (Nat.add_le_add_right h 1) (by decide))]
  unfold rowV
  rw [List.map_append]; rfl
end G7

set_option Elab.async false
set_option linter.all false
set_option maxRecDepth 100000
set_option autoImplicit false
namespace G7
abbrev Q2 := Int × Int
def qsm (p : Q2) : Bool := Nat.ble p.1.natAbs 1000000000000000000 && Nat.ble p.2.natAbs 1000000000000000000
def qred (a b : Int) : Option Q2 :=
  if Nat.ble b.natAbs 0 then none else if Nat.ble 1000000000 b.natAbs then none else if Nat.ble 1000000000000000000000000000000000000 a.natAbs then none else
  if qsm (redI a b) then some (redI a b) else none
def qplus (p q : Q2) : Option Q2 := qred (p.1 * q.2 + q.1 * p.2) (p.2 * q.2)
def qminus (p q : Q2) : Option Q2 := qred (p.1 * q.2 - q.1 * p.2) (p.2 * q.2)
def qtimes (p q : Q2) : Option Q2 := qred (p.1 * q.1) (p.2 * q.2)
def qover (p q : Q2) : Option Q2 := qred (p.1 * q.2) (p.2 * q.1)
def qbelow (p q : Q2) : Bool := decide (p.1 * q.2 < q.1 * p.2)
def mapO {α β : Type} (f : α → Option β) : List α → Option (List β)
  | [] => some []
  | x :: xs => match f x with
    | none => none
    | some y => match mapO f xs with
      | none => none
      | some ys => some (y :: ys)
abbrev Row := List Q2
def qat (r : Row) (i : Nat) : Q2 := r.getD i (0, 1)
def pivE (row : Row) (place : Nat) (p : Q2 × Q2) : Option Q2 := match qtimes (qat row place) p.2 with
  | none => none
  | some t => qminus p.1 t
def pivRow (head row : Row) (place : Nat) : Option Row := mapO (pivE row place) (row.zip head)
def pivGo (head : Row) (a place : Nat) : Nat → List Row → Option (List Row)
  | _, [] => some []
  | k, r :: rs => match (if k = a then some head else pivRow head r place) with
    | none => none
    | some h => match pivGo head a place (k + 1) rs with
      | none => none
      | some hs => some (h :: hs)
def pivO (rows : List Row) (a place : Nat) : Option (List Row) :=
  match mapO (fun one => qover one (qat (rows.getD a []) place)) (rows.getD a []) with
  | none => none
  | some head => pivGo head a place 0 rows
def lastQ (r : Row) : Q2 := r.getD (r.length - 1) (0, 1)
def better (heads : List Nat) (lim : Q2) (h : Nat) (b : Q2 × Nat) : Bool := qbelow lim b.1 || (decide (lim = b.1) && decide (h < heads.getD b.2 0))
def leavGo (rows : List Row) (heads : List Nat) (place : Nat) : Nat → List Nat → Option (Q2 × Nat) → Option (Option (Q2 × Nat))
  | _, [], best => some best
  | k, h :: hs, best =>
    if 0 < (qat (rows.getD k []) place).1 then
      match qover (lastQ (rows.getD k [])) (qat (rows.getD k []) place) with
      | none => none
      | some lim => leavGo rows heads place (k + 1) hs (match best with
        | none => some (lim, k)
        | some b => if better heads lim h b then some (lim, k) else some b)
    else leavGo rows heads place (k + 1) hs best
def negs (row : Row) (m : Nat) : List Nat := (List.range m).filter fun i => decide ((qat row i).1 < 0)
def lastR (rows : List Row) : Row := rows.getD (rows.length - 1) []
def solGo (m : Nat) : Nat → List Row → List Nat → Option Row
  | 0, _, _ => none
  | f + 1, rows, heads => match negs (lastR rows) m with
    | [] => some (lastR rows)
    | p :: _ => match leavGo rows heads p 0 heads none with
      | some (some (_, a)) => match pivO rows a p with
        | none => none
        | some rows' => solGo m f rows' (heads.set a p)
      | _ => none
def frow (n d j : Nat) : Row := ((List.range (n + 1 - d)).map fun i => (- kr (n - (d + i)) (d + i) j, 1)) ++ ((List.range n).map fun o => if o + 1 = j then (1, 1) else (0, 1)) ++ [(kr n 0 j, 1)]
def frows (n d : Nat) : List Row := ((List.range n).map fun j => frow n d (j + 1)) ++ [(List.replicate (n + 1 - d) (-1, 1)) ++ (List.replicate n (0, 1)) ++ [(0, 1)]]
def solO (n d : Nat) : Option Row := solGo (n + 1 - d + n) 60 (frows n d) ((List.range n).map fun a => n + 1 - d + a)
theorem qsm_of {p : Q2} (h : qsm p = true) : p.1.natAbs ≤ 1000000000000000000 ∧ p.2.natAbs ≤ 1000000000000000000 := by
  unfold qsm at h
  rw [Bool.and_eq_true] at h
  exact ⟨Nat.le_of_ble_eq_true h.1, Nat.le_of_ble_eq_true h.2⟩
theorem qred_of {a b : Int} {r : Q2} (h : qred a b = some r) : b ≠ 0 ∧ b.natAbs < 1000000000 ∧ a.natAbs < 1000000000000000000000000000000000000 ∧ r = redI a b ∧ qsm r = true := by
  unfold qred at h
  split at h
  · cases h
  · rename_i h1
    split at h
    · cases h
    · rename_i h2
      split at h
      · cases h
      · rename_i h3
        split at h
        · rename_i h4
          cases h
          have a1 : ¬ b.natAbs ≤ 0 := fun z => h1 (Nat.ble_eq_true_of_le z)
          have a2 : ¬ 1000000000 ≤ b.natAbs := fun z => h2 (Nat.ble_eq_true_of_le z)
          have a3 : ¬ 1000000000000000000000000000000000000 ≤ a.natAbs := fun z => h3 (Nat.ble_eq_true_of_le z)
          exact ⟨by omega, by omega, by omega, rfl, h4⟩
        · cases h
theorem mapO_of {α β : Type} {f : α → Option β} (d : β) : ∀ {xs : List α} {ys : List β}, mapO f xs = some ys → (∀ x ∈ xs, f x = some ((f x).getD d)) ∧ ys = xs.map fun x => (f x).getD d
  | [], ys, h => by cases h; exact ⟨fun _ h => by simp at h, rfl⟩
  | x :: xs, ys, h => by
    unfold mapO at h
    split at h
    · cases h
    · rename_i y hy
      split at h
      · cases h
      · rename_i zs hz
        cases h
        obtain ⟨h1, h2⟩ := mapO_of d hz
        refine ⟨fun u hu => ?_, ?_⟩
        · rcases List.mem_cons.mp hu with rfl | hu
          · rw [hy]; rfl
          · exact h1 u hu
        · rw [List.map_cons, hy, h2]; rfl
def GoodR (L : Nat) (r : Row) : Prop := r.length = L ∧ ∀ p ∈ r, qsm p = true
theorem GoodR.at {L : Nat} {r : Row} (h : GoodR L r) {i : Nat} (hi : i < L) : r[i]? = some (qat r i) ∧ qsm (qat r i) = true := by
  have hl : i < r.length := by rw [h.1]; exact hi
  have e : r[i]? = some (qat r i) := by
    unfold qat
    rw [List.getD_eq_getElem?_getD, List.getElem?_eq_getElem hl]; rfl
  exact ⟨e, h.2 _ (List.mem_of_getElem? e)⟩
theorem pivE_sm {row : Row} {place : Nat} {p : Q2 × Q2} {r : Q2} (h : pivE row place p = some r) : ∃ t, qtimes (qat row place) p.2 = some t ∧ qminus p.1 t = some r ∧ qsm r = true ∧ qsm t = true := by
  unfold pivE at h
  split at h
  · cases h
  · rename_i t ht
    exact ⟨t, ht, h, (qred_of h).2.2.2.2, (qred_of ht).2.2.2.2⟩
theorem pivRow_good {L : Nat} {head row r : Row} {place : Nat} (hh : head.length = L) (hr : row.length = L) (h : pivRow head row place = some r) : GoodR L r := by
  obtain ⟨h1, h2⟩ := mapO_of (0, 1) h
  refine ⟨by rw [h2, List.length_map, List.length_zip]; omega, fun p hp => ?_⟩
  rw [h2] at hp
  obtain ⟨x, hx, rfl⟩ := List.mem_map.mp hp
  obtain ⟨t, _, _, hs, _⟩ := pivE_sm (h1 x hx)
  exact hs
theorem pivGo_of {head : Row} {a place : Nat} : ∀ {k : Nat} {rows rs : List Row}, pivGo head a place k rows = some rs → rs.length = rows.length ∧ ∀ i r, rows[i]? = some r → ∃ r', rs[i]? = some r' ∧ (if k + i = a then some head else pivRow head r place) = some r'
  | _, [], rs, h => by cases h; exact ⟨rfl, fun i r h => by simp at h⟩
  | k, r :: rows, rs, h => by
    unfold pivGo at h
    split at h
    · cases h
    · rename_i h1 hh1
      split at h
      · cases h
      · rename_i hs hhs
        cases h
        obtain ⟨l, q⟩ := pivGo_of hhs
        refine ⟨by simp [l], fun i u hu => ?_⟩
        cases i with
        | zero =>
          simp at hu
          subst hu
          exact ⟨h1, rfl, hh1⟩
        | succ i =>
          obtain ⟨r', e1, e2⟩ := q i u (by simpa using hu)
          exact ⟨r', by simpa using e1, by rw [show k + (i + 1) = k + 1 + i by omega]; exact e2⟩
theorem leav_lt {rows : List Row} {heads : List Nat} {place a : Nat} {lim : Q2} (m : Nat) : ∀ {hs : List Nat} {k : Nat} {b : Option (Q2 × Nat)}, k + hs.length ≤ m → leavGo rows heads place k hs b = some (some (lim, a)) → (∀ x, b = some x → x.2 < m) → a < m
  | [], k, b, _, h, hb => by
    unfold leavGo at h
    have : b = some (lim, a) := by simpa using h
    exact hb _ this
  | y :: hs, k, b, hk, h, hb => by
    unfold leavGo at h
    have hk' : k + 1 + hs.length ≤ m := by simp at hk; omega
    split at h
    · split at h
      · cases h
      · refine leav_lt m hk' h fun x hx => ?_
        cases b with
        | none => simp at hx; subst hx; simp at hk ⊢; omega
        | some b0 =>
          simp only at hx
          split at hx
          · simp at hx; subst hx; simp at hk ⊢; omega
          · simp at hx; subst hx; exact hb _ rfl
    · exact leav_lt m hk' h hb
structure GoodT (L : Nat) (rows : List Row) : Prop where
  g : ∀ r ∈ rows, GoodR L r
theorem pivO_of {L : Nat} {rows rs : List Row} {a place : Nat} (hg : GoodT L rows) (ha : a < rows.length) (h : pivO rows a place = some rs) :
    ∃ head, mapO (fun one => qover one (qat (rows.getD a []) place)) (rows.getD a []) = some head ∧ GoodR L head ∧ pivGo head a place 0 rows = some rs ∧ GoodT L rs ∧ rs.length = rows.length := by
  unfold pivO at h
  split at h
  · cases h
  · rename_i head hh
    have ha' : rows.getD a [] = rows[a] := by rw [List.getD_eq_getElem?_getD, List.getElem?_eq_getElem ha]; rfl
    have gh : GoodR L head := by
      obtain ⟨h1, h2⟩ := mapO_of (0, 1) hh
      have := (hg.g rows[a] (List.getElem_mem ha)).1
      refine ⟨by rw [h2, List.length_map, ha', this], fun p hp => ?_⟩
      rw [h2] at hp
      obtain ⟨x, hx, rfl⟩ := List.mem_map.mp hp
      exact (qred_of (h1 x hx)).2.2.2.2
    obtain ⟨l, q⟩ := pivGo_of h
    refine ⟨head, hh, gh, h, ⟨fun r hr => ?_⟩, l⟩
    obtain ⟨i, hi, e⟩ := List.getElem_of_mem hr
    have hi' : i < rows.length := by omega
    obtain ⟨r', e1, e2⟩ := q i rows[i] (List.getElem?_eq_getElem hi')
    rw [List.getElem?_eq_getElem hi, e] at e1
    cases e1
    split at e2
    · cases e2; exact gh
    · exact pivRow_good gh.1 (hg.g _ (List.getElem_mem hi')).1 e2
def rowQ (r : Row) : PV := .lst (r.map ratV)
def rowsQ (rows : List Row) : PV := .lst (rows.map rowQ)
theorem v_qat {L : Nat} {r : Row} (h : GoodR L r) {i : Nat} (hi : i < L) : getV (rowQ r) (.int (i : Nat)) = some (ratV (qat r i)) := L2.atI_nat (by rw [List.getElem?_map, (h.at hi).1]; rfl)
theorem v_rat {rows : List Row} {i : Nat} (hi : i < rows.length) : getV (rowsQ rows) (.int (i : Nat)) = some (rowQ (rows.getD i [])) := L2.atI_nat (by
  rw [List.getElem?_map, List.getD_eq_getElem?_getD, List.getElem?_eq_getElem hi]; rfl)
theorem atI_last {α : Type} {xs : List α} {v : α} (h : xs.getLast? = some v) : L2.atI xs (-1) = some v := by
  obtain ⟨ys, rfl⟩ := List.getLast?_eq_some_iff.mp h
  unfold L2.atI L2.ixN
  have e : (-1 : Int) + (((ys ++ [v]).length : Nat) : Int) = (ys.length : Int) := by simp; omega
  rw [if_neg (by decide), if_pos (by simp; omega), e]
  simp
theorem v_lastR {rows : List Row} (h : rows ≠ []) : getV (rowsQ rows) (.int (-1)) = some (rowQ (lastR rows)) := by
  refine atI_last (xs := rows.map rowQ) ?_
  unfold lastR
  rw [List.getLast?_map, List.getLast?_eq_getElem?, List.getD_eq_getElem?_getD, List.getElem?_eq_getElem (by have := List.length_pos_iff.mpr h; omega)]
  rfl
theorem v_lastQ {r : Row} (h : r ≠ []) : getV (rowQ r) (.int (-1)) = some (ratV (lastQ r)) := by
  refine atI_last (xs := r.map ratV) ?_
  unfold lastQ
  rw [List.getLast?_map, List.getLast?_eq_getElem?, List.getD_eq_getElem?_getD, List.getElem?_eq_getElem (by have := List.length_pos_iff.mpr h; omega)]
  rfl
theorem v_q0 (p : Q2) : getV (ratV p) (.int 0) = some (.int p.1) := rfl
theorem v_q1 (p : Q2) : getV (ratV p) (.int 1) = some (.int p.2) := rfl
theorem v_mulQ {a b : Int} (ha : a.natAbs ≤ 1000000000000000000) : mulV (.int a) (.int b) = some (.int (a * b)) := v_mulI _ _ (mulOk1 (by omega) (by omega))
theorem ratV_eq (p q : Q2) : eqV (ratV p) (ratV q) = some (.bl (decide (p = q))) := by
  show some (PV.bl ((p.1 == q.1) && ((p.2 == q.2) && true))) = _
  have : ((p.1 == q.1) && ((p.2 == q.2) && true)) = decide (p = q) := by
    rw [Bool.eq_iff_iff]
    simp only [Bool.and_eq_true, beq_iff_eq, decide_eq_true_eq, and_true]
    exact ⟨fun h => Prod.ext h.1 h.2, fun h => by rw [h]; exact ⟨rfl, rfl⟩⟩
  rw [this]
end G7

set_option Elab.async false
set_option linter.all false
set_option maxRecDepth 100000
set_option autoImplicit false
namespace G7
theorem pair_posF {n : Nat} {B : List Wd} (h : AllW n B) (j : Nat) : 0 ≤ sumF (fun u => kr (n - wt u) (wt u) j) (prL B) := by
  have hw : ∀ w ∈ prL B, wt w ≤ n := fun w hw => wt_le (prL_all h w hw)
  have := pair_pos h j
  rw [group_wt (fun i => kr (n - i) i j) hw] at this
  exact this
theorem sumF_le {α : Type} {f g : α → Int} : ∀ {l : List α}, (∀ x ∈ l, f x ≤ g x) → sumF f l ≤ sumF g l
  | [], _ => Int.le_refl _
  | x :: l, h => by
    have h1 := h x (List.mem_cons_self ..)
    have h2 := sumF_le (l := l) fun y hy => h y (List.mem_cons_of_mem _ hy)
    show f x + sumF f l ≤ g x + sumF g l
    omega
theorem sumF_one {f : Wd → Int} {M : Int} {a : Wd} : ∀ {l : List Wd}, l.Nodup → a ∈ l → (∀ b ∈ l, b ≠ a → f b ≤ -M) → sumF f l ≤ f a - M * ((l.length : Int) - 1)
  | [], _, h, _ => by simp at h
  | b :: l, nd, h, hf => by
    obtain ⟨n1, n2⟩ := List.nodup_cons.mp nd
    show f b + sumF f l ≤ _
    by_cases e : b = a
    · subst e
      have : sumF f l ≤ sumF (fun _ => -M) l := sumF_le fun x hx => hf x (List.mem_cons_of_mem _ hx) (fun e => n1 (e ▸ hx))
      rw [sumF_const] at this
      rw [List.length_cons]
      push_cast
      rw [show ((l.length : Int) + 1 - 1) = (l.length : Int) by omega]
      have e2 : -M * (l.length : Int) = -(M * (l.length : Int)) := Int.neg_mul ..
      omega
    · have ha : a ∈ l := (List.mem_cons.mp h).resolve_left (Ne.symm e)
      have h1 := hf b (List.mem_cons_self ..) e
      have h2 := sumF_one n2 ha fun x hx => hf x (List.mem_cons_of_mem _ hx)
      rw [List.length_cons]
      push_cast
      have e2 : M * ((l.length : Int) + 1 - 1) = M * ((l.length : Int) - 1) + M := by
        rw [show ((l.length : Int) + 1 - 1) = ((l.length : Int) - 1) + 1 by omega, Int.mul_add, Int.mul_one]
      omega
theorem sumI_nonneg : ∀ {l : List Nat} {f : Nat → Int}, (∀ i ∈ l, 0 ≤ f i) → 0 ≤ sumI (l.map f)
  | [], _, _ => Int.le_refl _
  | x :: l, f, h => by
    have h1 := h x (List.mem_cons_self ..)
    have h2 := sumI_nonneg (l := l) (f := f) fun y hy => h y (List.mem_cons_of_mem _ hy)
    show 0 ≤ f x + sumI (l.map f)
    omega
theorem sumI_sumF {α : Type} (f : Nat → α → Int) (L : List α) : ∀ l : List Nat, sumI (l.map fun j => sumF (f j) L) = sumF (fun u => sumI (l.map fun j => f j u)) L
  | [] => by
    show 0 = sumF (fun _ => 0) L
    rw [sumF_const, Int.zero_mul]
  | x :: l => by
    show sumF (f x) L + sumI (l.map fun j => sumF (f j) L) = sumF (fun u => f x u + sumI (l.map fun j => f j u)) L
    rw [sumI_sumF f L l, sumF_add]
def FarB (d : Nat) (B : List Wd) : Prop := B.Pairwise fun a b => d ≤ wt (xo a b)
theorem FarB.nodup {d : Nat} (hd : 1 ≤ d) {n : Nat} {B : List Wd} (hB : AllW n B) (h : FarB d B) : B.Nodup := h.imp_of_mem fun {a b} ha _ hab e => by
  subst e
  rw [xo_self (hB a ha).l, wt_zr] at hab
  omega
theorem FarB.far {d : Nat} {B : List Wd} (h : FarB d B) {a b : Wd} (ha : a ∈ B) (hb : b ∈ B) (hne : a ≠ b) : d ≤ wt (xo a b) := by
  unfold FarB at h
  induction B with
  | nil => simp at ha
  | cons x B ih =>
    obtain ⟨h1, h2⟩ := List.pairwise_cons.mp h
    rcases List.mem_cons.mp ha with rfl | ha'
    · rcases List.mem_cons.mp hb with rfl | hb'
      · exact absurd rfl hne
      · exact h1 b hb'
    · rcases List.mem_cons.mp hb with rfl | hb'
      · rw [xo_comm]; exact h1 a ha'
      · exact ih h2 ha' hb'
/-- no block has more words than a certificate tells -/
theorem delsarte {n d : Nat} (hd1 : 1 ≤ d) {B : List Wd} (hB : AllW n B) (hF : FarB d B) (hne : B ≠ []) {Y : Nat → Int} {M : Int} (hY : ∀ j, j < n → 0 ≤ Y j)
    (hc : ∀ i, d ≤ i → i ≤ n → sumI ((List.range n).map fun j => Y j * kr (n - i) i (j + 1)) ≤ -M) : (B.length : Int) * M ≤ M + sumI ((List.range n).map fun j => Y j * kr n 0 (j + 1)) := by
  obtain ⟨g, hg⟩ : ∃ g : Nat → Int, g = fun i => sumI ((List.range n).map fun j => Y j * kr (n - i) i (j + 1)) := ⟨_, rfl⟩
  have h0 : 0 ≤ sumF (fun u => g (wt u)) (prL B) := by
    have e : sumF (fun u => g (wt u)) (prL B) = sumI ((List.range n).map fun j => Y j * sumF (fun u => kr (n - wt u) (wt u) (j + 1)) (prL B)) := by
      rw [hg]
      rw [sumI_congr fun j _ => (sumF_mul (Y j) _ (prL B)).symm, sumI_sumF fun j u => Y j * kr (n - wt u) (wt u) (j + 1)]
    rw [e]
    exact sumI_nonneg fun j hj => Int.mul_nonneg (hY j (List.mem_range.mp hj)) (pair_posF hB (j + 1))
  have h1 : sumF (fun u => g (wt u)) (prL B) ≤ sumF (fun _ => g 0 - M * ((B.length : Int) - 1)) B := by
    unfold prL
    rw [sumF_flat]
    refine sumF_le fun a ha => ?_
    rw [sumF_map]
    have h2 := sumF_one (f := fun b => g (wt (xo a b))) (M := M) (hF.nodup hd1 hB) ha fun b hb hba => by
      have hf := hF.far ha hb (Ne.symm hba)
      rw [hg]
      exact hc _ hf (wt_le ((hB a ha).xo (hB b hb)))
    have e : wt (xo a a) = 0 := by rw [xo_self (hB a ha).l, wt_zr]
    simp only [e] at h2
    exact h2
  rw [sumF_const] at h1
  have hpos : (0 : Int) < (B.length : Int) := by have := List.length_pos_iff.mpr hne; omega
  have hg0 : g 0 = sumI ((List.range n).map fun j => Y j * kr n 0 (j + 1)) := by rw [hg]; rfl
  rw [← hg0]
  have h3 : 0 ≤ (g 0 - M * ((B.length : Int) - 1)) * (B.length : Int) := Int.le_trans h0 h1
  have h4 : 0 ≤ g 0 - M * ((B.length : Int) - 1) := by
    rcases Int.le_total 0 (g 0 - M * ((B.length : Int) - 1)) with h | h
    · exact h
    · rcases Int.lt_or_eq_of_le h with h | h
      · have := Int.mul_neg_of_neg_of_pos h hpos
        omega
      · omega
  have e3 : M * ((B.length : Int) - 1) = (B.length : Int) * M - M := by rw [Int.mul_sub, Int.mul_one, Int.mul_comm]
  omega
def lcmL (l : List Nat) : Nat := l.foldl Nat.lcm 1
def certOf (n d : Nat) (row : Row) : Row := (row.drop (n + 1 - d)).take n
def lpM (y : Row) : Int := ((lcmL (y.map fun p => p.2.natAbs) : Nat) : Int)
def lpY (y : Row) (j : Nat) : Int := (qat y j).1 * (lpM y / (qat y j).2)
def lpChk (n d : Nat) (row : Row) (r : Q2) : Bool :=
  let y := certOf n d row
  let M := lpM y
  let Y := (List.range n).map (lpY y)
  let Yf := fun j => Y.getD j 0
  !row.isEmpty && qsm (lastQ row) && decide (0 < M) && decide (0 < r.2) && Y.all (fun v => decide (0 ≤ v)) &&
  (List.range (n + 1 - d)).all (fun i => decide (sumI ((List.range n).map fun j => Yf j * kr (n - (d + i)) (d + i) (j + 1)) ≤ -M)) &&
  decide (M * r.1 = r.2 * (M + sumI ((List.range n).map fun j => Yf j * kr n 0 (j + 1))))
def lpR (n d : Nat) : Option Q2 := match solO n d with
  | none => none
  | some row => match qplus (1, 1) (lastQ row) with
    | none => none
    | some r => if lpChk n d row r then some r else none
theorem lpR_of {n d : Nat} {r : Q2} (h : lpR n d = some r) : ∃ row, solO n d = some row ∧ row ≠ [] ∧ qsm (lastQ row) = true ∧ qplus (1, 1) (lastQ row) = some r ∧ 0 < r.2 ∧
    ∀ B : List Wd, AllW n B → 1 ≤ d → FarB d B → (B.length : Int) * r.2 ≤ r.1 := by
  unfold lpR at h
  split at h
  · cases h
  · rename_i row hrow
    split at h
    · cases h
    · rename_i r' hr'
      split at h
      · rename_i hc
        cases h
        unfold lpChk at hc
        simp only [Bool.and_eq_true, decide_eq_true_eq, List.all_eq_true, Bool.not_eq_true'] at hc
        obtain ⟨⟨⟨⟨⟨⟨c1, c2⟩, c3⟩, c4⟩, c5⟩, c6⟩, c7⟩ := hc
        refine ⟨row, hrow, (fun e => by rw [e] at c1; cases c1), c2, hr', c4, fun B hB hd1 hF => ?_⟩
        have hYf : ∀ j, j < n → 0 ≤ ((List.range n).map (lpY (certOf n d row))).getD j 0 := fun j hj => by
          rw [List.getD_eq_getElem?_getD, List.getElem?_map, List.getElem?_range hj]
          exact c5 _ (List.mem_map.mpr ⟨j, List.mem_range.mpr hj, rfl⟩)
        have hcc : ∀ i, d ≤ i → i ≤ n → sumI ((List.range n).map fun j => ((List.range n).map (lpY (certOf n d row))).getD j 0 * kr (n - i) i (j + 1)) ≤ -lpM (certOf n d row) := fun i h1 h2 => by
          have := c6 (i - d) (List.mem_range.mpr (by omega))
          rw [show d + (i - d) = i by omega] at this
          exact this
        generalize lpM (certOf n d row) = M at *
        generalize hYY : (fun j => ((List.range n).map (lpY (certOf n d row))).getD j 0) = Yf at *
        have hcc' : ∀ i, d ≤ i → i ≤ n → sumI ((List.range n).map fun j => Yf j * kr (n - i) i (j + 1)) ≤ -M := fun i h1 h2 => by rw [← hYY]; exact hcc i h1 h2
        have hYf' : ∀ j, j < n → 0 ≤ Yf j := fun j hj => by rw [← hYY]; exact hYf j hj
        have c7' : M * r.1 = r.2 * (M + sumI ((List.range n).map fun j => Yf j * kr n 0 (j + 1))) := by rw [← hYY]; exact c7
        have key : ∀ B : List Wd, AllW n B → FarB d B → B ≠ [] → (B.length : Int) * r.2 ≤ r.1 := fun B hB hF hne => by
          have hd := delsarte hd1 hB hF hne hYf' hcc'
          generalize sumI ((List.range n).map fun j => Yf j * kr n 0 (j + 1)) = G at *
          have h1 : r.2 * ((B.length : Int) * M) ≤ r.2 * (M + G) := Int.mul_le_mul_of_nonneg_left hd (by omega)
          rw [← c7', Int.mul_left_comm, ← Int.mul_assoc, Int.mul_comm _ M] at h1
          exact Int.le_of_mul_le_mul_left h1 c3
        by_cases hne : B = []
        · subst hne
          have := key [zr n] (fun w hw => by simp at hw; rw [hw]; exact Wn.zr n) (List.pairwise_singleton _ _) (by simp)
          simp at this ⊢
          omega
        · exact key B hB hF hne
      · cases h
end G7

set_option Elab.async false
set_option linter.all false
set_option maxRecDepth 100000
set_option autoImplicit false
namespace G7
section
variable {r : Env}
@[simp ↓] theorem w_lrng2 (f g : M PV) (Q : PV → Env → Prop) : Wp (lrng2 f g r) Q = Wp (f r) fun a r' => Wp ((bnd g fun b => lft (rg2V a b)) r') Q := w_bnd _ _ _
end
theorem rangeL_nat : ∀ (m a : Nat), rangeL (a : Int) m = (List.range m).map fun i => PV.int ((a + i : Nat) : Int)
  | 0, a => rfl
  | m + 1, a => by
    show PV.int (a : Int) :: rangeL ((a : Int) + 1) m = _
    rw [show ((a : Int) + 1) = ((a + 1 : Nat) : Int) from rfl, rangeL_nat m (a + 1), List.range_succ_eq_map, List.map_cons, List.map_map]
    congr 1
    refine List.map_congr_left fun i _ => ?_
    show PV.int ((a + 1 + i : Nat) : Int) = PV.int ((a + (i + 1) : Nat) : Int)
    rw [show a + 1 + i = a + (i + 1) by omega]
theorem v_rg2 {a n : Nat} (h1 : a ≤ 1000) (h : n ≤ 1000) : rg2V (.int (a : Nat)) (.int (n : Nat)) = some (.lst ((List.range (n - a)).map fun i => PV.int ((a + i : Nat) : Int))) := by
  show (if near 8000000 (a : Int) && near 8000000 (n : Int) then some (PV.lst (rangeL (a : Int) ((n : Int) - (a : Int)).toNat)) else none) = _
  rw [near_mk (by omega) (by omega), near_mk (by omega) (by omega)]
  have e : ((n : Int) - (a : Int)).toNat = n - a := by omega
  rw [e, rangeL_nat]; rfl
def ones (n : Nat) : Wd := List.replicate n 49
theorem ones_wn (n : Nat) : Wn n (ones n) := ⟨by simp [ones], fun c hc => .inr (List.mem_replicate.mp hc).2⟩
theorem ones_red {n : Nat} (h : 1 ≤ n) : redL [ones n] = [ones n] := by
  have hm : 49 ∈ ones n := List.mem_replicate.mpr ⟨by omega, rfl⟩
  show stepL [] (ones n) = _
  unfold stepL
  rw [show remL [] (ones n) = ones n from rfl, if_pos hm]
  rfl
theorem one_redW {n : Nat} (h : 1 ≤ n) : RedW n [ones n] := by
  have := (redL_ok (n := n) (ws := [ones n]) fun w hw => by simp at hw; rw [hw]; exact ones_wn n).1
  rw [ones_red h] at this
  exact this
theorem one_sp {n : Nat} (w : Wd) : SpW n [ones n] w ↔ w = zr n ∨ w = ones n := by
  rw [← sp_cons_iff w (ones_wn n)]
  have h0 : ∀ u, SpW n [] u ↔ u = zr n := fun u => by
    rw [← (enum_zr n).m u]; simp
  rw [h0, h0]
  constructor
  · rintro ⟨hw, h | h⟩
    · exact .inl h
    · exact .inr (xo_eq_zr hw (ones_wn n) h)
  · rintro (rfl | rfl)
    · exact ⟨Wn.zr n, .inl rfl⟩
    · exact ⟨ones_wn n, .inr (xo_self (ones_wn n).l)⟩
theorem bt_ones {n i : Nat} (hi : i < n) : bt (ones n) i = true := by
  unfold bt at_ ones
  rw [List.getD_eq_getElem?_getD, List.getElem?_replicate, if_pos hi]; rfl
theorem wt_ones (n : Nat) : wt (ones n) = n := by unfold wt ones; simp [List.filter_replicate]
theorem cnt2_ones : ∀ {n : Nat} {w : Wd}, Wn n w → cnt2 (ones n) w = wt w
  | 0, w, h => by
    have := List.eq_nil_of_length_eq_zero h.l
    subst this
    rfl
  | n + 1, w, h => by
    rcases h.cases with ⟨e, _⟩ | ⟨m, x, a, e, rfl, hx, ha⟩
    · cases e
    cases e
    have ih := cnt2_ones ha
    rw [show ones (n + 1) = 49 :: ones n from rfl, wt_cons, ← ih]
    unfold cnt2
    rw [List.zip_cons_cons, List.filter_cons]
    rcases hx with rfl | rfl
    · simp
    · simp; omega
theorem even_sp {n : Nat} (h : 1 ≤ n) (w : Wd) : SpW n (dualL n [ones n]) w ↔ Wn n w ∧ wt w % 2 = 0 := by
  rw [(dual_ok (one_redW h).u).2]
  unfold Orth
  refine and_congr_right fun hw => ?_
  have : (∀ b ∈ [ones n], dot n b w = false) ↔ dot n (ones n) w = false := by simp
  rw [this, dot_cnt (ones_wn n) hw, cnt2_ones hw, decide_eq_false_iff_not]
  omega
theorem wt_ones_xo {n : Nat} {w : Wd} (hw : Wn n w) : wt (xo (ones n) w) + wt w = n := by
  have := wt_cnt2 (ones_wn n) hw
  rw [cnt2_ones hw, wt_ones] at this
  omega
/-- a word of each weight -/
def wd (n k : Nat) : Wd := List.replicate k 49 ++ List.replicate (n - k) 48
theorem wd_ok {n k : Nat} (h : k ≤ n) : Wn n (wd n k) ∧ wt (wd n k) = k := by
  refine ⟨⟨by simp [wd]; omega, fun c hc => ?_⟩, ?_⟩
  · rcases List.mem_append.mp hc with h | h
    · exact .inr (List.mem_replicate.mp h).2
    · exact .inl (List.mem_replicate.mp h).2
  · unfold wd
    rw [wt_app]
    unfold wt
    simp [List.filter_replicate]
theorem lead_of {n : Nat} {bs : List Wd} {w : Wd} (hw : Wn n w) : ∃ l, (remL bs w, l) ∈ leadD n bs := by
  obtain ⟨p, hp, e⟩ := List.mem_map.mp ((lead_ok n bs).all w hw)
  exact ⟨p.2, by rw [← e]; exact hp⟩
theorem cov_eq {n m : Nat} {bs : List Wd} (h1 : ∀ p ∈ leadD n bs, wt p.2 ≤ m) (h2 : ∃ p ∈ leadD n bs, wt p.2 = m) : covR n bs = (m : Int) := by
  have ok := maxI_ok (l := (leadD n bs).map fun p => ((wt p.2 : Nat) : Int)) (by simpa using leadD_ne n bs)
  obtain ⟨p, hp, e⟩ := h2
  refine int_max_uniq ok ⟨List.mem_map.mpr ⟨p, hp, by rw [e]⟩, fun y hy => ?_⟩
  obtain ⟨q, hq, rfl⟩ := List.mem_map.mp hy
  have := h1 q hq
  show ((wt q.2 : Nat) : Int) ≤ _
  omega
theorem one_lead {n : Nat} (h : 1 ≤ n) : (∀ p ∈ leadD n [ones n], 2 * wt p.2 ≤ n) ∧ ∃ p ∈ leadD n [ones n], wt p.2 = n / 2 := by
  have LK := lead_ok n [ones n]
  have hr := one_redW h
  have co : ∀ {u v : Wd}, Wn n u → Wn n v → (remL [ones n] u = remL [ones n] v ↔ v = u ∨ v = xo (ones n) u) := fun {u v} hu hv => by
    rw [rem_coset hr hu hv, one_sp]
    constructor
    · rintro (e | e)
      · exact .inl (xo_eq_zr hu hv e).symm
      · refine .inr ?_
        rw [← e, xo_comm (xo u v) u, xo_lcan hu hv]
    · rintro (rfl | rfl)
      · exact .inl (xo_self hu.l)
      · refine .inr ?_
        rw [xo_comm (ones n) u, xo_lcan hu (ones_wn n)]
  have hle : ∀ p ∈ leadD n [ones n], 2 * wt p.2 ≤ n := fun p hp => by
    have hw := LK.w p hp
    have h1 := LK.min p hp (xo (ones n) p.2) ((ones_wn n).xo hw) (by
      rw [LK.k p hp]
      exact ((co hw ((ones_wn n).xo hw)).mpr (.inr rfl)).symm)
    have h2 := ltW_wt h1
    have h3 := wt_ones_xo hw
    omega
  refine ⟨hle, ?_⟩
  obtain ⟨hw, hk⟩ := wd_ok (n := n) (k := n / 2) (by omega)
  obtain ⟨l, hl⟩ := lead_of (bs := [ones n]) hw
  refine ⟨_, hl, ?_⟩
  have hlw : Wn n l := LK.w _ hl
  have hlk : remL [ones n] (wd n (n / 2)) = remL [ones n] l := LK.k _ hl
  have h1 := hle _ hl
  show wt l = n / 2
  have h1' : 2 * wt l ≤ n := h1
  rcases (co hw hlw).mp hlk with e | e
  · rw [e, hk]
  · have h3 := wt_ones_xo hw
    rw [← e, hk] at h3
    omega
theorem even_lead {n : Nat} (h : 1 ≤ n) : covR n (dualL n [ones n]) = ((1 : Nat) : Int) := by
  have hr := (dual_ok (one_redW h).u).1
  have LK := lead_ok n (dualL n [ones n])
  have co : ∀ {u v : Wd}, Wn n u → Wn n v → (remL (dualL n [ones n]) u = remL (dualL n [ones n]) v ↔ (wt u + wt v) % 2 = 0) := fun {u v} hu hv => by
    rw [rem_coset hr hu hv, even_sp h, wt_xo2 hu hv]
    exact ⟨fun z => z.2, fun z => ⟨hu.xo hv, z⟩⟩
  refine cov_eq (fun p hp => ?_) ?_
  · have hw := LK.w p hp
    obtain ⟨h1, h2⟩ := wd_ok (n := n) (k := wt p.2 % 2) (by omega)
    have h3 := LK.min p hp (wd n (wt p.2 % 2)) h1 (by
      rw [LK.k p hp, co h1 hw, h2]
      omega)
    have h4 := ltW_wt h3
    omega
  · obtain ⟨h1, h2⟩ := wd_ok (n := n) (k := 1) h
    obtain ⟨l, hl⟩ := lead_of (bs := dualL n [ones n]) h1
    refine ⟨_, hl, ?_⟩
    have hlw : Wn n l := LK.w _ hl
    have hlk : remL (dualL n [ones n]) (wd n 1) = remL (dualL n [ones n]) l := LK.k _ hl
    have h3 := (co h1 hlw).mp hlk
    have h4 := LK.min _ hl (wd n 1) h1 rfl
    have h5 := ltW_wt h4
    show wt l = 1
    have h5' : wt l ≤ wt (wd n 1) := h5
    have h3' : (wt (wd n 1) + wt l) % 2 = 0 := h3
    rw [h2] at h3' h5'
    omega
theorem even_cnt {n : Nat} (h : 1 ≤ n) {k : Nat} : ((cntW (wordsL n (dualL n [ones n])) k : Nat) : Int) = if k % 2 = 0 then kr n 0 k else 0 := by
  have hE := words_of_red (dual_ok (one_redW h).u).1
  have hF : EnumL (SpW n (dualL n [ones n])) ((allF n).filter fun w => decide (wt w % 2 = 0)) := (enum_filter (allF_enum n) _).congr fun w => by rw [even_sp h, decide_eq_true_eq]
  rw [cntW_perm (enum_perm hE hF)]
  unfold cntW
  rw [List.filter_filter]
  by_cases hk : k % 2 = 0
  · rw [if_pos hk, ← cnt_allF]
    congr 1
    exact filter_len_congr fun w _ => by
      by_cases e : wt w = k
      · simp [e, hk]
      · simp [e]
  · rw [if_neg hk]
    have : ((allF n).filter fun w => decide (wt w = k) && decide (wt w % 2 = 0)) = [] := List.filter_eq_nil_iff.mpr fun w _ hc => by
      rw [Bool.and_eq_true, decide_eq_true_eq, decide_eq_true_eq] at hc
      rw [hc.1] at hc
      exact hk hc.2
    rw [this]; rfl
theorem shift_eq {m : Nat} {u : Wd} (hu : Wn (m + 1) u) (he : wt u % 2 = 0) : extF (delF 0 u) = arrF ((List.range m).map (1 + ·) ++ [0]) u := by
  rcases hu.cases with ⟨e, _⟩ | ⟨m', x, a, e, rfl, hx, ha⟩
  · cases e
  cases e
  have hd : delF 0 (x :: a) = a := rfl
  rw [hd]
  unfold extF arrF
  rw [List.map_append, List.map_map]
  have h1 : (List.range m).map (at_ (x :: a) ∘ (1 + ·)) = a := by
    rw [← range_at ha]
    refine List.map_congr_left fun i _ => ?_
    show at_ (x :: (List.range m).map (at_ a)) (1 + i) = _
    rw [range_at ha, Nat.add_comm]
    rfl
  rw [h1]
  congr 1
  rw [wt_cons] at he
  show _ = [at_ (x :: a) 0]
  have : at_ (x :: a) 0 = x := rfl
  rw [this]
  rcases hx with rfl | rfl
  · rw [if_neg]
    simp at he
    omega
  · rw [if_pos]
    simp at he
    omega
theorem shift_code {m : Nat} : redL ((redL ((dualL (m + 1) [ones (m + 1)]).map (delF 0))).map extF) = redL ((dualL (m + 1) [ones (m + 1)]).map (arrF ((List.range m).map (1 + ·) ++ [0]))) := by
  have ho : ((List.range m).map (1 + ·) ++ [0]).Perm (List.range (m + 1)) := by
    have h1 : List.range (m + 1) = 0 :: (List.range m).map (1 + ·) := by
      rw [List.range_succ_eq_map]
      congr 1
      exact List.map_congr_left fun i _ => by show i + 1 = 1 + i; omega
    rw [h1]
    exact List.perm_append_singleton _ _
  have hr := (dual_ok (one_redW (n := m + 1) (by omega)).u).1
  have hall := RedW.all hr.u
  obtain ⟨p1, p2⟩ := redL_ok ((del_map (Nat.zero_le m)).all hall)
  have hpa := RedW.all p1.u
  obtain ⟨q1, q2⟩ := redL_ok ((arr_map ho).all hall)
  refine redL_of ((ext_map m).all hpa) q1 fun w => ?_
  rw [q2, (ext_map m).span hpa, (arr_map ho).span hall]
  have hin : ∀ u, SpW (m + 1) (dualL (m + 1) [ones (m + 1)]) u → extF (delF 0 u) = arrF ((List.range m).map (1 + ·) ++ [0]) u := fun u hu => by
    have := (even_sp (by omega) u).mp hu
    exact shift_eq this.1 this.2
  constructor
  · rintro ⟨v, hv, rfl⟩
    obtain ⟨u, hu, rfl⟩ := ((del_map (Nat.zero_le m)).span hall v).mp ((p2 v).mp hv)
    exact ⟨u, hu, (hin u hu).symm⟩
  · rintro ⟨u, hu, rfl⟩
    exact ⟨delF 0 u, (p2 _).mpr (((del_map (Nat.zero_le m)).span hall _).mpr ⟨u, hu, rfl⟩), hin u hu⟩
end G7

set_option Elab.async false
set_option linter.all false
set_option maxRecDepth 100000
set_option autoImplicit false
namespace G7
def stepC (k : Nat) (bs : List Wd) : List (List Wd) :=
  (bs.map (48 :: ·)) :: ((allB k).filter fun t => bs.all fun w => decide (at_ t (ldOf w) = 48)).map fun t => (49 :: t) :: bs.map (48 :: ·)
def rowsC : Nat → List (List Wd)
  | 0 => [[]]
  | k + 1 => (rowsC k).flatMap (stepC k)
theorem at_0 (c : Nat) (w : Wd) : at_ (c :: w) 0 = c := rfl
theorem at_S (c : Nat) (w : Wd) (i : Nat) : at_ (c :: w) (i + 1) = at_ w i := by unfold at_; rfl
theorem wn_cons {k : Nat} {w : Wd} {c : Nat} (h : Wn k w) (hc : c = 48 ∨ c = 49) : Wn (k + 1) (c :: w) := by
  refine ⟨by simp [h.l], fun d hd => ?_⟩
  rcases List.mem_cons.mp hd with e | e
  · rw [e]; exact hc
  · exact h.b d e
theorem lead_S {w : Wd} {p : Nat} (h : LeadAt w p) : LeadAt (48 :: w) (p + 1) := by
  refine ⟨by rw [at_S]; exact h.1, fun i hi => ?_⟩
  cases i with
  | zero => rfl
  | succ i => rw [at_S]; exact h.2 i (by omega)
theorem red_up {k : Nat} {bs : List Wd} (h : RedW k bs) : rowsOf (bs.map (48 :: ·)) = (rowsOf bs).map (fun r => (r.1 + 1, 48 :: r.2)) ∧ RedW (k + 1) (bs.map (48 :: ·)) := by
  have e : rowsOf (bs.map (48 :: ·)) = (rowsOf bs).map (fun r => (r.1 + 1, 48 :: r.2)) := by
    unfold rowsOf
    rw [List.map_map, List.map_map]
    refine List.map_congr_left fun w hw => ?_
    have h1 := RedW.idx h.u hw
    have h2 := RedW.all h.u w hw
    show (ldOf (48 :: w), 48 :: w) = (ldOf w + 1, 48 :: w)
    rw [(ld_of (wn_cons h2 (.inl rfl)) (lead_S h1.2)).2]
  refine ⟨e, ?_⟩
  show Red (k + 1) (rowsOf (bs.map (48 :: ·)))
  rw [e]
  refine ⟨⟨fun r hr => ?_, ?_, fun r hr s hs hne => ?_⟩, ?_⟩
  · obtain ⟨q, hq, rfl⟩ := List.mem_map.mp hr
    have := h.u.w q hq
    exact ⟨wn_cons this.1 (.inl rfl), lead_S this.2⟩
  · rw [List.pairwise_map]
    exact h.u.d.imp fun {a b} hab e => hab (by simpa using e)
  · obtain ⟨q, hq, rfl⟩ := List.mem_map.mp hr
    obtain ⟨t, ht, rfl⟩ := List.mem_map.mp hs
    rw [at_S]
    exact h.u.c q hq t ht fun e => hne (by simp [e])
  · rw [List.pairwise_map]
    exact h.p.imp fun {a b} hab => by simpa using hab
theorem red_top {k : Nat} {bs : List Wd} (h : RedW k bs) {t : Wd} (ht : Wn k t) (hz : ∀ w ∈ bs, at_ t (ldOf w) = 48) : RedW (k + 1) ((49 :: t) :: bs.map (48 :: ·)) := by
  obtain ⟨e, h2⟩ := red_up h
  have hw := wn_cons ht (c := 49) (.inr rfl)
  have hl : LeadAt (49 :: t) 0 := ⟨rfl, fun i hi => absurd hi (Nat.not_lt_zero _)⟩
  have e0 : ldOf (49 :: t) = 0 := (ld_of hw hl).2
  have er : rowsOf ((49 :: t) :: bs.map (48 :: ·)) = (0, 49 :: t) :: (rowsOf bs).map (fun r => (r.1 + 1, 48 :: r.2)) := by
    rw [← e]
    show (ldOf (49 :: t), 49 :: t) :: rowsOf (bs.map (48 :: ·)) = _
    rw [e0]
  show Red (k + 1) (rowsOf ((49 :: t) :: bs.map (48 :: ·)))
  have h2' : Red (k + 1) ((rowsOf bs).map (fun r => (r.1 + 1, 48 :: r.2))) := by rw [← e]; exact h2
  rw [er]
  have hcr : ∀ s ∈ (rowsOf bs).map (fun r => (r.1 + 1, 48 :: r.2)), 0 < s.1 ∧ at_ (49 :: t) s.1 = 48 ∧ at_ s.2 0 = 48 := fun s hs => by
    obtain ⟨q, hq, rfl⟩ := List.mem_map.mp hs
    obtain ⟨w, hw, rfl⟩ := List.mem_map.mp hq
    exact ⟨Nat.succ_pos _, by rw [at_S]; exact hz w hw, rfl⟩
  refine ⟨⟨fun r hr => ?_, ?_, fun r hr s hs hne => ?_⟩, ?_⟩
  · rcases List.mem_cons.mp hr with rfl | hr
    · exact ⟨hw, hl⟩
    · exact h2'.u.w r hr
  · refine List.pairwise_cons.mpr ⟨fun s hs => ?_, h2'.u.d⟩
    have := (hcr s hs).1
    show 0 ≠ s.1
    omega
  · rcases List.mem_cons.mp hr with rfl | hr <;> rcases List.mem_cons.mp hs with rfl | hs
    · exact absurd rfl hne
    · exact (hcr s hs).2.1
    · exact (hcr r hr).2.2
    · exact h2'.u.c r hr s hs hne
  · exact List.pairwise_cons.mpr ⟨fun s hs => (hcr s hs).1, h2'.p⟩
theorem step_red {k : Nat} {bs : List Wd} (h : RedW k bs) : ∀ cs ∈ stepC k bs, RedW (k + 1) cs := by
  intro cs hc
  unfold stepC at hc
  rcases List.mem_cons.mp hc with rfl | hc
  · exact (red_up h).2
  · obtain ⟨t, ht, rfl⟩ := List.mem_map.mp hc
    obtain ⟨h1, h2⟩ := List.mem_filter.mp ht
    exact red_top h (allB_mem.mp h1) fun w hw => of_decide_eq_true (List.all_eq_true.mp h2 w hw)
theorem rows_red : ∀ {k : Nat}, ∀ bs ∈ rowsC k, RedW k bs
  | 0, bs, h => by
    have : bs = [] := by simpa [rowsC] using h
    subst this
    exact ⟨⟨fun r hr => by simp at hr, List.Pairwise.nil, fun r hr => by simp at hr⟩, List.Pairwise.nil⟩
  | k + 1, bs, h => by
    obtain ⟨cs, h1, h2⟩ := List.mem_flatMap.mp h
    exact step_red (rows_red cs h1) bs h2
theorem toks_strs : ∀ (l m : List Wd) (s s' : List (Int ⊕ List Nat)), PySem.W.keyToksAll (toDs (l.map .str)) ++ s = PySem.W.keyToksAll (toDs (m.map .str)) ++ s' → l = m
  | [], [], _, _, _ => rfl
  | [], b :: m, s, s', h => by
    rw [show PySem.W.keyToksAll (toDs (([] : List Wd).map .str)) = [.inl 0] from rfl, show toDs ((b :: m).map PV.str) = .str ⟨b.toArray⟩ :: toDs (m.map .str) from rfl, PySem.W.toks_all_cons] at h
    injection h with h1 _
    injection h1 with h1
    cases h1
  | a :: l, [], s, s', h => by
    rw [show PySem.W.keyToksAll (toDs (([] : List Wd).map .str)) = [.inl 0] from rfl, show toDs ((a :: l).map PV.str) = .str ⟨a.toArray⟩ :: toDs (l.map .str) from rfl, PySem.W.toks_all_cons] at h
    injection h with h1 _
    injection h1 with h1
    cases h1
  | a :: l, b :: m, s, s', h => by
    rw [show toDs ((b :: m).map PV.str) = .str ⟨b.toArray⟩ :: toDs (m.map .str) from rfl, PySem.W.toks_all_cons, show toDs ((a :: l).map PV.str) = .str ⟨a.toArray⟩ :: toDs (l.map .str) from rfl, PySem.W.toks_all_cons] at h
    injection h with _ h
    rw [show PySem.W.keyToks (.str ⟨a.toArray⟩) = [.inr a] from rfl, show PySem.W.keyToks (.str ⟨b.toArray⟩) = [.inr b] from rfl] at h
    injection h with h1 h2
    injection h1 with h1
    rw [h1, toks_strs l m s s' h2]
def ltCd (n : Nat) (a b : List Wd) : Bool := ltA (codeV n a) (codeV n b)
theorem tok_code (n : Nat) (bs : List Wd) : tokD (codeV n bs) = .inl 1 :: .inl (n : Int) :: .inl 1 :: (PySem.W.keyToksAll (toDs (bs.map .str)) ++ [.inl 0]) := by
  show PySem.W.keyToks (.tuple [.int (n : Nat), .tuple (toDs (bs.map .str))]) = _
  rw [PySem.W.keyToks, PySem.W.toks_all_cons, PySem.W.toks_all_cons, PySem.W.keyToks, PySem.W.keyToks]
  rfl
theorem ltCd_tot (n : Nat) : TotO (ltCd n) := tot_tok (pv := codeV n) fun a b h => by
  rw [tok_code, tok_code] at h
  injection h with _ h
  injection h with _ h
  injection h with _ h
  exact toks_strs a b _ _ h
theorem alike_strs : ∀ l m : List Wd, PySem.W.alikeAll (toDs (l.map .str)) (toDs (m.map .str)) = true
  | [], m => by rw [show toDs (([] : List Wd).map .str) = [] from rfl, PySem.W.alikeAll]
  | a :: l, [] => by rw [show toDs (([] : List Wd).map .str) = [] from rfl, show toDs ((a :: l).map PV.str) = .str ⟨a.toArray⟩ :: toDs (l.map .str) from rfl, PySem.W.alikeAll]
  | a :: l, b :: m => by
    rw [show toDs ((b :: m).map PV.str) = .str ⟨b.toArray⟩ :: toDs (m.map .str) from rfl, show toDs ((a :: l).map PV.str) = .str ⟨a.toArray⟩ :: toDs (l.map .str) from rfl, PySem.W.alikeAll, alike_strs l m]
    rfl
theorem good_codes (n : Nat) (ps : List (List Wd)) : goodL (ps.map (codeV n)) = true := by
  refine goodL_mk (fun x hx => ?_) (.inl fun x hx => ?_) fun x hx y hy => ?_
  · obtain ⟨l, _, rfl⟩ := List.mem_map.mp hx
    show (dp 19 (.int n) && (dp 19 (.tup (l.map .str)) && true)) = true
    rw [show dp 19 (.tup (l.map PV.str)) = true from dp_strs 18 l]; rfl
  · obtain ⟨l, hl, rfl⟩ := List.mem_map.mp hx
    rfl
  · obtain ⟨l, _, rfl⟩ := List.mem_map.mp hx
    obtain ⟨m, _, rfl⟩ := List.mem_map.mp hy
    show PySem.W.alike (.tuple [.int (n : Nat), .tuple (toDs (l.map .str))]) (.tuple [.int (n : Nat), .tuple (toDs (m.map .str))]) = true
    rw [PySem.W.alike, PySem.W.alikeAll, PySem.W.alikeAll, PySem.W.alike, PySem.W.alike, alike_strs l m, PySem.W.alikeAll]
    rfl
theorem sort_codes (n : Nat) (ps : List (List Wd)) : sortA (.lst (ps.map (codeV n))) = some (.lst ((srt (ltCd n) ps).map (codeV n))) := sortA_map (ltCd_tot n) ps (good_codes n ps) fun _ _ _ _ => rfl
def codesL (n : Nat) : List (List Wd) := srt (ltCd n) (rowsC n)
theorem codes_red {n : Nat} : ∀ bs ∈ codesL n, RedW n bs := fun bs h => rows_red bs ((srt_perm _).mem_iff.mp h)
theorem rows_len : ∀ k, k ≤ 6 → (rowsC k).length ≤ 3000 := by
  have h : ((List.range 7).all fun k => decide ((rowsC k).length ≤ 3000)) = true := by decide +kernel
  intro k hk
  exact of_decide_eq_true (List.all_eq_true.mp h k (List.mem_range.mpr (by omega)))
theorem rows_nodup4 : ∀ k, k ≤ 4 → (rowsC k).Nodup := by
  have h : ((List.range 5).all fun k => decide (rowsC k).Nodup) = true := by decide +kernel
  intro k hk
  exact of_decide_eq_true (List.all_eq_true.mp h k (List.mem_range.mpr (by omega)))
theorem codes_nodup4 {k : Nat} (hk : k ≤ 4) : (codesL k).Nodup := (srt_perm _).nodup_iff.mpr (rows_nodup4 k hk)
theorem codes_len {k : Nat} (hk : k ≤ 6) : (codesL k).length ≤ 3000 := by
  rw [show (codesL k).length = (rowsC k).length from (srt_perm _).length_eq]
  exact rows_len k hk
theorem rows_ne : ∀ k, rowsC k ≠ []
  | 0 => by simp [rowsC]
  | k + 1 => fun e => by
    have h := rows_ne k
    cases hr : rowsC k with
    | nil => exact h hr
    | cons a b =>
      have e' : (rowsC k).flatMap (stepC k) = [] := e
      rw [hr, List.flatMap_cons] at e'
      simp [stepC] at e'
theorem codes_ne (k : Nat) : codesL k ≠ [] := fun e => rows_ne k (by
  have := (srt_perm (lt := ltCd k) (rowsC k))
  rw [show srt (ltCd k) (rowsC k) = [] from e] at this
  exact (List.Perm.nil_eq this).symm)
theorem rangeD_eq : ∀ (m : Nat) (i : Int), rangeD i m = (List.range m).map fun k => PV.int (i - (k : Nat))
  | 0, i => rfl
  | m + 1, i => by
    show PV.int i :: rangeD (i - 1) m = _
    rw [rangeD_eq m (i - 1), List.range_succ_eq_map, List.map_cons, List.map_map]
    congr 1
    · simp
    · exact List.map_congr_left fun k _ => by
        show PV.int (i - 1 - (k : Nat)) = PV.int (i - ((k + 1 : Nat) : Int))
        congr 1
        omega
theorem wp_rng3 {f : M (List PV)} {r : Env} {Q : List PV → Env → Prop} (m : Nat) (hm2 : m ≤ 16777216) (h : Wp (f r) fun as r' => as = [.int (m : Nat), .int (-1), .int (-1)] ∧ Q ((List.range (m + 1)).map fun k => PV.int ((m - k : Nat) : Int)) r') : Wp (rng3 f r) Q := by
  obtain ⟨as, r', e, rfl, h⟩ := h.get
  have : rng3 f r = .ok ((List.range (m + 1)).map fun k => PV.int ((m - k : Nat) : Int)) r' := by
    show bnd f _ r = _
    rw [e_bnd, e]
    show lft (if near 1000000000 (m : Int) && near 1000000000 (-1) then some (rangeD m ((m : Int) - (-1)).toNat) else none) r' = _
    rw [near_mk (by omega) (by omega), near_mk (by omega) (by omega), rangeD_eq, show ((m : Int) - (-1)).toNat = m + 1 by omega]
    have e2 : (List.range (m + 1)).map (fun k => PV.int ((m : Int) - (k : Nat))) = (List.range (m + 1)).map fun k => PV.int ((m - k : Nat) : Int) := List.map_congr_left fun k hk => by
      have := List.mem_range.mp hk
      congr 1
      omega
    rw [e2]
    simp
  rw [this]; exact h
theorem wp_cut {f g : M Out} {ρ : Env} {Q : Out → Env → Prop} (J : Env → Prop) (h1 : Wp (f ρ) fun o ρ' => o = .nx ∧ J ρ') (h2 : ∀ ρ', J ρ' → Wp (g ρ') Q) : Wp (seqM f g ρ) Q := by
  rw [w_seqM]
  refine h1.mono ?_
  rintro o ρ' ⟨rfl, h⟩
  exact h2 ρ' h
theorem sk_cut {f g : M Out} {ρ : Env} {Q : Out → Env → Prop} (J : Env → Prop) (h1 : Wp (f ρ) fun o ρ' => o = .nx ∧ J ρ') (h2 : ∀ ρ', J ρ' → Wp (g ρ') Q) : SeqK .nx (seqM f g) Q ρ := wp_cut J h1 h2
end G7

set_option Elab.async false
set_option linter.all false
set_option maxRecDepth 100000
set_option maxHeartbeats 0
set_option autoImplicit false
namespace Gk19
open PySem PySem.Spec PyProof.Rows L2 G7
def topS (i : Nat) : Stmt := PySem.Challenge.pw_codebounds_k19_whole_hidden_codes.main.body.getD i (.Pass ⟨0, 0, 0, 0⟩)
abbrev s_is_any_integer : Stmt := topS 19
abbrev s_is_integer : Stmt := topS 20
abbrev s_valid_word : Stmt := topS 22
abbrev s_sum_of : Stmt := topS 23
abbrev s_all_words : Stmt := topS 24
abbrev s_remainder : Stmt := topS 26
abbrev s_codes_of : Stmt := topS 29
abbrev s_check_short : Stmt := topS 30
abbrev s_all_codes : Stmt := topS 31
abbrev s_is_answer : Stmt := topS 32
abbrev s_agreeing : Stmt := topS 33
abbrev s_check_answers : Stmt := topS 34
abbrev s_agreeing_codes : Stmt := topS 35
abbrev s_known_words : Stmt := topS 36
abbrev s__law_cell_at : Stmt := topS 38
abbrev s__law_mixed : Stmt := topS 39
abbrev s__law_draw : Stmt := topS 40
abbrev s__law_pick : Stmt := topS 41
abbrev s__law_word : Stmt := topS 42
abbrev s__law_all_words : Stmt := topS 43
abbrev s__law_plus : Stmt := topS 44
abbrev s__law_closure : Stmt := topS 45
abbrev s__law_words_in : Stmt := topS 46
abbrev s__law_which : Stmt := topS 47
abbrev s__law_ask : Stmt := topS 48
abbrev s_law : Stmt := topS 49
abbrev N_is_any_integer : List Str := ["value"]
theorem sc_is_any_integer : FnScope N_is_any_integer ["value"] (defScope s_is_any_integer) := ⟨rfl, rfl, rfl, by decide +kernel, rfl, by decide +kernel, by decide +kernel⟩
abbrev N_is_integer : List Str := ["value", "low", "high"]
theorem sc_is_integer : FnScope N_is_integer ["value", "low", "high"] (defScope s_is_integer) := ⟨rfl, rfl, rfl, by decide +kernel, rfl, by decide +kernel, by decide +kernel⟩
abbrev N_valid_word : List Str := ["length", "value", "bit"]
theorem sc_valid_word : FnScope N_valid_word ["length", "value"] (defScope s_valid_word) := ⟨rfl, rfl, rfl, by decide +kernel, rfl, by decide +kernel, by decide +kernel⟩
abbrev N_sum_of : List Str := ["left", "right", "one", "other"]
theorem sc_sum_of : FnScope N_sum_of ["left", "right"] (defScope s_sum_of) := ⟨rfl, rfl, rfl, by decide +kernel, rfl, by decide +kernel, by decide +kernel⟩
abbrev N_all_words : List Str := ["length", "result", "position", "word", "bit"]
theorem sc_all_words : FnScope N_all_words ["length"] (defScope s_all_words) := ⟨rfl, rfl, rfl, by decide +kernel, rfl, by decide +kernel, by decide +kernel⟩
abbrev N_remainder : List Str := ["basis", "word", "row"]
theorem sc_remainder : FnScope N_remainder ["basis", "word"] (defScope s_remainder) := ⟨rfl, rfl, rfl, by decide +kernel, rfl, by decide +kernel, by decide +kernel⟩
abbrev N_codes_of : List Str := ["length", "rows", "position", "later", "basis", "firsts", "tail", "word", "first"]
theorem sc_codes_of : FnScope N_codes_of ["length"] (defScope s_codes_of) := ⟨rfl, rfl, rfl, by decide +kernel, rfl, by decide +kernel, by decide +kernel⟩
abbrev N_check_short : List Str := ["length"]
theorem sc_check_short : FnScope N_check_short ["length"] (defScope s_check_short) := ⟨rfl, rfl, rfl, by decide +kernel, rfl, by decide +kernel, by decide +kernel⟩
abbrev N_all_codes : List Str := ["length"]
theorem sc_all_codes : FnScope N_all_codes ["length"] (defScope s_all_codes) := ⟨rfl, rfl, rfl, by decide +kernel, rfl, by decide +kernel, by decide +kernel⟩
abbrev N_is_answer : List Str := ["length", "value"]
theorem sc_is_answer : FnScope N_is_answer ["length", "value"] (defScope s_is_answer) := ⟨rfl, rfl, rfl, by decide +kernel, rfl, by decide +kernel, by decide +kernel⟩
abbrev N_agreeing : List Str := ["length", "answers", "result", "code", "word", "answer"]
theorem sc_agreeing : FnScope N_agreeing ["length", "answers"] (defScope s_agreeing) := ⟨rfl, rfl, rfl, by decide +kernel, rfl, by decide +kernel, by decide +kernel⟩
abbrev N_check_answers : List Str := ["length", "answers", "one"]
theorem sc_check_answers : FnScope N_check_answers ["length", "answers"] (defScope s_check_answers) := ⟨rfl, rfl, rfl, by decide +kernel, rfl, by decide +kernel, by decide +kernel⟩
abbrev N_agreeing_codes : List Str := ["length", "answers"]
theorem sc_agreeing_codes : FnScope N_agreeing_codes ["length", "answers"] (defScope s_agreeing_codes) := ⟨rfl, rfl, rfl, by decide +kernel, rfl, by decide +kernel, by decide +kernel⟩
abbrev N_known_words : List Str := ["length", "answers", "word", "codes", "result", "told", "code"]
theorem sc_known_words : FnScope N_known_words ["length", "answers"] (defScope s_known_words) := ⟨rfl, rfl, rfl, by decide +kernel, rfl, by decide +kernel, by decide +kernel⟩
abbrev N__law_cell_at : List Str := ["script", "k", "spare", "again"]
theorem sc__law_cell_at : FnScope N__law_cell_at ["script", "k"] (defScope s__law_cell_at) := ⟨rfl, rfl, rfl, by decide +kernel, rfl, by decide +kernel, by decide +kernel⟩
abbrev N__law_mixed : List Str := ["script", "k", "bound", "spun"]
theorem sc__law_mixed : FnScope N__law_mixed ["script", "k", "bound"] (defScope s__law_mixed) := ⟨rfl, rfl, rfl, by decide +kernel, rfl, by decide +kernel, by decide +kernel⟩
abbrev N__law_draw : List Str := ["script", "town", "bound"]
theorem sc__law_draw : FnScope N__law_draw ["script", "town", "bound"] (defScope s__law_draw) := ⟨rfl, rfl, rfl, by decide +kernel, rfl, by decide +kernel, by decide +kernel⟩
abbrev N__law_pick : List Str := ["script", "town", "some"]
theorem sc__law_pick : FnScope N__law_pick ["script", "town", "some"] (defScope s__law_pick) := ⟨rfl, rfl, rfl, by decide +kernel, rfl, by decide +kernel, by decide +kernel⟩
abbrev N__law_word : List Str := ["script", "town", "length", "position"]
theorem sc__law_word : FnScope N__law_word ["script", "town", "length"] (defScope s__law_word) := ⟨rfl, rfl, rfl, by decide +kernel, rfl, by decide +kernel, by decide +kernel⟩
abbrev N__law_all_words : List Str := ["length", "made", "position", "later", "word"]
theorem sc__law_all_words : FnScope N__law_all_words ["length"] (defScope s__law_all_words) := ⟨rfl, rfl, rfl, by decide +kernel, rfl, by decide +kernel, by decide +kernel⟩
abbrev N__law_plus : List Str := ["left", "right", "one", "other"]
theorem sc__law_plus : FnScope N__law_plus ["left", "right"] (defScope s__law_plus) := ⟨rfl, rfl, rfl, by decide +kernel, rfl, by decide +kernel, by decide +kernel⟩
abbrev N__law_closure : List Str := ["length", "given", "found", "word", "other"]
theorem sc__law_closure : FnScope N__law_closure ["length", "given"] (defScope s__law_closure) := ⟨rfl, rfl, rfl, by decide +kernel, rfl, by decide +kernel, by decide +kernel⟩
abbrev N__law_words_in : List Str := ["code"]
theorem sc__law_words_in : FnScope N__law_words_in ["code"] (defScope s__law_words_in) := ⟨rfl, rfl, rfl, by decide +kernel, rfl, by decide +kernel, by decide +kernel⟩
abbrev N__law_which : List Str := ["e", "own"]
theorem sc__law_which : FnScope N__law_which ["e"] (defScope s__law_which) := ⟨rfl, rfl, rfl, by decide +kernel, rfl, by decide +kernel, by decide +kernel⟩
abbrev N__law_ask : List Str := ["length", "answers", "e"]
theorem sc__law_ask : FnScope N__law_ask ["length", "answers"] (defScope s__law_ask) := ⟨rfl, rfl, rfl, by decide +kernel, rfl, by decide +kernel, by decide +kernel⟩
abbrev N_law : List Str := ["script", "town", "length", "every", "hidden", "again", "due", "code", "got", "told", "tables", "word", "full", "members", "own", "answers", "some", "seen", "answer"]
theorem sc_law : FnScope N_law ["script"] (defScope s_law) := ⟨rfl, rfl, rfl, by decide +kernel, rfl, by decide +kernel, by decide +kernel⟩
def B_is_any_integer : M Out := (retM (andV (op1 (isiV .int) (tkv 0)) (notV (op1 (isiV .bool) (tkv 0)))))
def D_is_any_integer : List PV → FR := runP 1 B_is_any_integer
def B_is_integer : M Out := (retM (andV (callP D_is_any_integer (cns (rd 0) nil)) (chn leV leV (tkv 1) (tkv 0) (tkv 2))))
def D_is_integer : List PV → FR := runP 3 B_is_integer
def B_valid_word : M Out := (retM (andV (op1 (isiV .str) (tkv 1)) (andV (op2 eqV (sv (opn (on1 lenV) (cns (tkv 1) nil))) (tkv 0)) (opn (on1 allV) (cns (sv (lcM (itX (rd 1)) (nmT 2) yesM (op2 inV1 (tkv 2) (sv (ret (.str [48, 49])))) [2])) nil)))))
def D_valid_word : List PV → FR := runP 3 B_valid_word
def B_sum_of : M Out := (retM (methS (on1m joinV) (sv (ret (.str []))) (cns (sv (lcM (zip2 (cns (rd 0) (cns (rd 1) nil))) (tupT [(nmT 2), (nmT 3)]) yesM (ifX (tst (op2 eqV (tkv 2) (tkv 3))) (ret (.str [48])) (ret (.str [49]))) [2, 3])) nil)))
def D_sum_of : List PV → FR := runP 4 B_sum_of
def B_all_words : M Out := (seqM (setV 1 (bnd (cns (ret (.str [])) nil) fun as => lft (lstV as)))
  (seqM (forM (rng1 (cns (rd 0) nil)) (nmT 2) (setV 1 (lc2M (itX (rd 1)) (nmT 3) yesM (itX (ret (.str [48, 49]))) (nmT 4) yesM (op2 addV (tkv 3) (tkv 4)) [3, 4] [4])))
  (retM (rd 1))))
def D_all_words : List PV → FR := runP 5 B_all_words
def B_remainder : M Out := (seqM (forM (itX (rd 0)) (nmT 2) (ifX (tst (op2 eqV (sv (op2 getV (tkv 1) (sv (methS (on1m indexV) (tkv 2) (cns (sv (ret (.str [49]))) nil))))) (sv (ret (.str [49]))))) (setV 1 (callP D_sum_of (cns (rd 1) (cns (rd 2) nil)))) skipM))
  (retM (rd 1)))
def D_remainder : List PV → FR := runP 3 B_remainder
def B_codes_of : M Out := (seqM (setV 1 (bnd (cns (bnd nil fun as => lft (tupV as)) nil) fun as => lft (lstV as)))
  (seqM (forM (rng3 (cns (op2 subV (tkv 0) (sv (ret (.int 1)))) (cns (op1 negV (sv (ret (.int 1)))) (cns (op1 negV (sv (ret (.int 1)))) nil)))) (nmT 2) (seqM (setO 3 (bnd nil fun as => lft (lstV as)))
  (seqM (forM (itX (rd 1)) (nmT 4) (seqM (appM 3 (opn (on1 tupleV) (cns (sv (lcM (itX (rd 4)) (nmT 7) yesM (op2 addV (sv (ret (.str [48]))) (tkv 7)) [7])) nil)))
  (seqM (setV 5 (lcM (itX (rd 4)) (nmT 7) yesM (methS (on1m indexV) (tkv 7) (cns (sv (ret (.str [49]))) nil)) [7]))
  (forM (itX (callP D_all_words (cns (op2 subV (sv (op2 subV (tkv 0) (sv (ret (.int 1))))) (tkv 2)) nil))) (nmT 6) (ifX (tst (opn (on1 allV) (cns (sv (lcM (itX (rd 5)) (nmT 8) yesM (op2 eqV (sv (op2 getV (tkv 6) (tkv 8))) (sv (ret (.str [48])))) [8])) nil))) (appM 3 (op2 addV (sv (bnd (cns (op2 addV (sv (ret (.str [49]))) (tkv 6)) nil) fun as => lft (tupV as))) (sv (opn (on1 tupleV) (cns (sv (lcM (itX (rd 4)) (nmT 7) yesM (op2 addV (sv (ret (.str [48]))) (tkv 7)) [7])) nil))))) skipM)))))
  (setV 1 (rd 3)))))
  (retM (opn (on1 sortA) (cns (sv (lcM (itX (rd 1)) (nmT 4) yesM (bnd (cns (rd 0) (cns (rd 4) nil)) fun as => lft (tupV as)) [4])) nil)))))
def D_codes_of : List PV → FR := runP 9 B_codes_of
def B_check_short : M Out := (ifX (notT (tst (callP D_is_integer (cns (rd 0) (cns (ret (.int 1)) (cns (ret (.int 4)) nil)))))) (raiseM 0) skipM)
def D_check_short : List PV → FR := runP 1 B_check_short
def B_all_codes : M Out := (seqM (dropM (callP D_check_short (cns (rd 0) nil)))
  (retM (callP D_codes_of (cns (rd 0) nil))))
def D_all_codes : List PV → FR := runP 1 B_all_codes
def B_is_answer : M Out := (seqM (ifX (orT (notT (tst (op1 (isiV .tuple) (tkv 1)))) (orT (tst (op2 neV (sv (opn (on1 lenV) (cns (tkv 1) nil))) (sv (ret (.int 2))))) (notT (tst (callP D_valid_word (cns (rd 0) (cns (op2 getV (tkv 1) (sv (ret (.int 0)))) nil))))))) (retM (ret (.bl false))) skipM)
  (retM (op1 (isiV .bool) (sv (op2 getV (tkv 1) (sv (ret (.int 1))))))))
def D_is_answer : List PV → FR := runP 2 B_is_answer
def B_agreeing : M Out := (seqM (setO 2 (bnd nil fun as => lft (lstV as)))
  (seqM (forM (itX (callP D_codes_of (cns (rd 0) nil))) (nmT 3) (ifX (tst (opn (on1 allV) (cns (sv (lcM (itX (rd 1)) (tupT [(nmT 4), (nmT 5)]) yesM (op2 eqV (sv (op2 inV0 (sv (ret (.str [49]))) (sv (callP D_remainder (cns (op2 getV (tkv 3) (sv (ret (.int 1)))) (cns (rd 4) nil)))))) (tkv 5)) [4, 5])) nil))) (appM 2 (rd 3)) skipM))
  (retM (rd 2))))
def D_agreeing : List PV → FR := runP 6 B_agreeing
def B_check_answers : M Out := (seqM (dropM (callP D_check_short (cns (rd 0) nil)))
  (ifX (orT (notT (tst (op1 (isiV .tuple) (tkv 1)))) (notT (tst (opn (on1 allV) (cns (sv (lcM (itX (rd 1)) (nmT 2) yesM (callP D_is_answer (cns (rd 0) (cns (rd 2) nil))) [2])) nil))))) (raiseM 13) skipM))
def D_check_answers : List PV → FR := runP 3 B_check_answers
def B_agreeing_codes : M Out := (seqM (dropM (callP D_check_answers (cns (rd 0) (cns (rd 1) nil))))
  (retM (callP D_agreeing (cns (rd 0) (cns (rd 1) nil)))))
def D_agreeing_codes : List PV → FR := runP 2 B_agreeing_codes
def B_known_words : M Out := (seqM (dropM (callP D_check_answers (cns (rd 0) (cns (rd 1) nil))))
  (seqM (parM 3 4 (cns (mV (callP D_agreeing (cns (rd 0) (cns (rd 1) nil)))) (cns (mO (bnd nil fun as => lft (lstV as))) nil)))
  (seqM (ifX (tst (op2 eqV (tkv 3) (sv (bnd nil fun as => lft (lstV as))))) (raiseM 13) skipM)
  (seqM (forM (itX (callP D_all_words (cns (rd 0) nil))) (nmT 2) (seqM (setV 5 (lcM (itX (rd 3)) (nmT 6) yesM (op2 inV0 (sv (ret (.str [49]))) (sv (callP D_remainder (cns (op2 getV (tkv 6) (sv (ret (.int 1)))) (cns (rd 2) nil))))) [6]))
  (ifX (orT (tst (opn (on1 allV) (cns (tkv 5) nil))) (notT (tst (opn (on1 anyV) (cns (tkv 5) nil))))) (appM 4 (bnd (cns (rd 2) (cns (op2 getV (tkv 5) (sv (ret (.int 0)))) nil)) fun as => lft (tupV as))) skipM)))
  (retM (rd 4))))))
def D_known_words : List PV → FR := runP 7 B_known_words
def B__law_cell_at : M Out := (seqM (ifX (tst (op2 ltV (tkv 1) (sv (opn (on1 lenV) (cns (tkv 0) nil))))) (retM (op2 getV (tkv 0) (tkv 1))) skipM)
  (seqM (ifX (tst (op2 eqV (tkv 0) (sv (bnd nil fun as => lft (lstV as))))) (retM (ret (.int 0))) skipM)
  (seqM (setV 2 (op2 getV (tkv 0) (sv (op2 modV (tkv 1) (sv (opn (on1 lenV) (cns (tkv 0) nil)))))))
  (seqM (forM (rng1 (cns (opn min2V (cns (sv (op2 divV (tkv 1) (sv (opn (on1 lenV) (cns (tkv 0) nil))))) (cns (sv (ret (.int 60))) nil))) nil)) (nmT 3) (setV 2 (op2 divV (tkv 2) (sv (ret (.int 1000003))))))
  (retM (op2 addV (sv (op2 addV (sv (op2 mulV (sv (op2 getV (tkv 0) (sv (op2 modV (tkv 1) (sv (opn (on1 lenV) (cns (tkv 0) nil))))))) (sv (ret (.int 31))))) (tkv 1))) (sv (op2 mulV (tkv 2) (sv (ret (.int 101)))))))))))
def D__law_cell_at : List PV → FR := runP 4 B__law_cell_at
def B__law_mixed : M Out := (seqM (setV 3 (op2 modV (sv (op2 addV (sv (op2 addV (sv (op2 mulV (sv (callP D__law_cell_at (cns (rd 0) (cns (rd 1) nil)))) (sv (ret (.int 1103515245))))) (sv (op2 mulV (sv (ret (.int 7919))) (tkv 1))))) (sv (ret (.int 12345))))) (sv (ret (.int 2147483647)))))
  (retM (op2 modV (sv (op2 modV (sv (op2 modV (sv (op2 powV (tkv 3) (sv (ret (.int 5))))) (sv (ret (.int 2147483647))))) (sv (ret (.int 999983))))) (tkv 2))))
def D__law_mixed : List PV → FR := runP 4 B__law_mixed
def B__law_draw : M Out := (seqM (appM 1 (ret (.int 0)))
  (retM (callP D__law_mixed (cns (rd 0) (cns (opn (on1 lenV) (cns (tkv 1) nil)) (cns (rd 2) nil))))))
def D__law_draw : List PV → FR := runR 3 1 B__law_draw
def B__law_pick : M Out := (retM (op2 getV (tkv 2) (sv (callR D__law_draw 1 (cns (sv (rd 0)) (cns (tkv 1) (cns (sv (opn (on1 lenV) (cns (tkv 2) nil))) nil)))))))
def D__law_pick : List PV → FR := runR 3 1 B__law_pick
def B__law_word : M Out := (retM (methS (on1m joinV) (sv (ret (.str []))) (cns (sv (lcM (rng1 (cns (rd 2) nil)) (nmT 3) yesM (callR D__law_pick 1 (cns (sv (rd 0)) (cns (tkv 1) (cns (sv (bnd (cns (ret (.str [48])) (cns (ret (.str [49])) nil)) fun as => lft (lstV as))) nil)))) [3])) nil)))
def D__law_word : List PV → FR := runR 4 1 B__law_word
def B__law_all_words : M Out := (seqM (setV 1 (bnd (cns (ret (.str [])) nil) fun as => lft (lstV as)))
  (seqM (forM (rng1 (cns (rd 0) nil)) (nmT 2) (seqM (setO 3 (bnd nil fun as => lft (lstV as)))
  (seqM (forM (itX (rd 1)) (nmT 4) (extM 3 (bnd (cns (op2 addV (tkv 4) (sv (ret (.str [48])))) (cns (op2 addV (tkv 4) (sv (ret (.str [49])))) nil)) fun as => lft (lstV as))))
  (setV 1 (rd 3)))))
  (retM (rd 1))))
def D__law_all_words : List PV → FR := runP 5 B__law_all_words
def B__law_plus : M Out := (retM (methS (on1m joinV) (sv (ret (.str []))) (cns (sv (lcM (zip2 (cns (rd 0) (cns (rd 1) nil))) (tupT [(nmT 2), (nmT 3)]) yesM (opn (on1 strV) (cns (sv (opn (on1 intV) (cns (sv (op2 neV (tkv 2) (tkv 3))) nil))) nil)) [2, 3])) nil)))
def D__law_plus : List PV → FR := runP 4 B__law_plus
def B__law_closure : M Out := (seqM (setO 2 (dict1 (op2 mulV (sv (ret (.str [48]))) (tkv 0)) (ret (.bl true))))
  (seqM (forM (itX (rd 1)) (nmT 3) (ifX (tst (op2 inV0 (tkv 3) (tkv 2))) (forM (itX (opn (on1 listV) (cns (tkv 2) nil))) (nmT 4) (putDM 2 (callP D__law_plus (cns (rd 3) (cns (rd 4) nil))) (ret (.bl true)))) skipM))
  (retM (opn (on1 sortV) (cns (sv (opn (on1 listV) (cns (tkv 2) nil))) nil)))))
def D__law_closure : List PV → FR := runP 5 B__law_closure
def B__law_words_in : M Out := (retM (callP D__law_closure (cns (op2 getV (tkv 0) (sv (ret (.int 0)))) (cns (opn (on1 listV) (cns (sv (op2 getV (tkv 0) (sv (ret (.int 1))))) nil)) nil))))
def D__law_words_in : List PV → FR := runP 1 B__law_words_in
def B__law_ask : M Out := (tryM (retM (callP D_known_words (cns (rd 0) (cns (rd 1) nil)))))
def D__law_ask : List PV → FR := runP 3 B__law_ask
def B_law : M Out := (seqM (setO 1 (bnd nil fun as => lft (lstV as)))
  (seqM (setV 2 (op2 addV (sv (ret (.int 1))) (sv (callR D__law_draw 1 (cns (sv (rd 0)) (cns (tkv 1) (cns (sv (ifX (tst (op2 eqV (sv (callR D__law_draw 1 (cns (sv (rd 0)) (cns (tkv 1) (cns (sv (ret (.int 5))) nil))))) (sv (ret (.int 0))))) (ret (.int 4)) (ret (.int 3)))) nil)))))))
  (seqM (setV 3 (callP D_all_codes (cns (rd 2) nil)))
  (seqM (setV 4 (callR D__law_pick 1 (cns (sv (rd 0)) (cns (tkv 1) (cns (sv (rd 3)) nil)))))
  (seqM (parN [14, 15] (cns (mV (callP D__law_words_in (cns (rd 4) nil))) (cns (mO (bnd nil fun as => lft (lstV as))) nil)))
  (seqM (forM (rng1 (cns (callR D__law_draw 1 (cns (sv (rd 0)) (cns (tkv 1) (cns (sv (ret (.int 6))) nil)))) nil)) (nmT 5) (seqM (setV 11 (callR D__law_word 1 (cns (sv (rd 0)) (cns (tkv 1) (cns (sv (rd 2)) nil)))))
  (appM 15 (bnd (cns (rd 11) (cns (op2 inV1 (tkv 11) (tkv 14)) nil)) fun as => lft (tupV as)))))
  (seqM (ifX (andT (tst (op2 neV (tkv 15) (sv (bnd nil fun as => lft (lstV as))))) (tst (op2 eqV (sv (callR D__law_draw 1 (cns (sv (rd 0)) (cns (tkv 1) (cns (sv (ret (.int 4))) nil))))) (sv (ret (.int 0)))))) (appM 15 (bnd (cns (op2 getV (sv (op2 getV (tkv 15) (sv (ret (.int 0))))) (sv (ret (.int 0)))) (cns (notV (op2 getV (sv (op2 getV (tkv 15) (sv (ret (.int 0))))) (sv (ret (.int 1))))) nil)) fun as => lft (tupV as))) skipM)
  (seqM (setO 6 (bnd nil fun as => lft (lstV as)))
  (seqM (forM (itX (rd 3)) (nmT 7) (seqM (setV 16 (callP D__law_words_in (cns (rd 7) nil)))
  (ifX (tst (op2 eqV (sv (lcM (itX (rd 15)) (tupT [(nmT 11), (nmT 18)]) (tst (op2 neV (sv (op2 inV1 (tkv 11) (tkv 16))) (tkv 18))) (rd 11) [11, 18])) (sv (bnd nil fun as => lft (lstV as))))) (appM 6 (rd 7)) skipM)))
  (seqM (ifX (tst (op2 neV (sv (callP D_agreeing_codes (cns (rd 2) (cns (opn (on1 tupleV) (cns (tkv 15) nil)) nil)))) (tkv 6))) (retM (ret (.bl false))) skipM)
  (seqM (setV 8 (callP D__law_ask (cns (rd 2) (cns (opn (on1 tupleV) (cns (tkv 15) nil)) nil))))
  (seqM (ifX (tst (op2 eqV (tkv 6) (sv (bnd nil fun as => lft (lstV as))))) (retM (op2 eqV (tkv 8) (sv (bnd (cns (ret (.str [114, 97, 105, 115, 101, 100])) (cns (ret (.int 13)) nil)) fun as => lft (tupV as))))) skipM)
  (seqM (setO 9 (bnd nil fun as => lft (lstV as)))
  (seqM (setV 10 (lcM (itX (rd 6)) (nmT 7) yesM (callP D__law_words_in (cns (rd 7) nil)) [7]))
  (seqM (forM (itX (callP D__law_all_words (cns (rd 2) nil))) (nmT 11) (seqM (setV 17 (lcM (itX (rd 10)) (nmT 16) yesM (op2 inV1 (tkv 11) (tkv 16)) [16]))
  (ifX (orT (tst (op2 inV0 (sv (ret (.bl true))) (tkv 17))) (tst (op2 inV0 (sv (ret (.bl false))) (tkv 17)))) (appM 9 (bnd (cns (rd 11) (cns (op2 getV (tkv 17) (sv (ret (.int 0)))) nil)) fun as => lft (tupV as))) skipM)))
  (seqM (ifX (tst (op2 neV (tkv 8) (tkv 9))) (retM (ret (.bl false))) skipM)
  (seqM (setV 12 (opn (on1 tupleV) (cns (sv (lcM (itX (callP D__law_all_words (cns (rd 2) nil))) (nmT 11) yesM (bnd (cns (rd 11) (cns (op2 inV1 (tkv 11) (tkv 14)) nil)) fun as => lft (tupV as)) [11])) nil)))
  (seqM (ifX (tst (op2 neV (sv (callP D_agreeing_codes (cns (rd 2) (cns (rd 12) nil)))) (sv (bnd (cns (rd 4) nil) fun as => lft (lstV as))))) (retM (ret (.bl false))) skipM)
  (seqM (setV 13 (lcM (itX (rd 8)) (tupT [(nmT 11), (nmT 18)]) (tst (rd 18)) (rd 11) [11, 18]))
  (retM (op2 eqV (sv (lcM (itX (callP D__law_closure (cns (rd 2) (cns (rd 13) nil)))) (nmT 11) (tst (op2 inV0 (tkv 11) (tkv 13))) (rd 11) [11])) (sv (bnd nil fun as => lft (lstV as))))))))))))))))))))))))
def D_law : List PV → FR := runP 19 B_law
structure Tx (K : PySem.W.Frag) (mg : Str → Option Value) where
  d_is_any_integer : FuncData
  F_is_any_integer : FnP K "is_any_integer" s_is_any_integer (He.ga K "is_any_integer") d_is_any_integer
  g_is_any_integer : mg "is_any_integer" = some (.ref (He.ga K "is_any_integer"))
  d_is_integer : FuncData
  F_is_integer : FnP K "is_integer" s_is_integer (He.ga K "is_integer") d_is_integer
  g_is_integer : mg "is_integer" = some (.ref (He.ga K "is_integer"))
  d_valid_word : FuncData
  F_valid_word : FnP K "valid_word" s_valid_word (He.ga K "valid_word") d_valid_word
  g_valid_word : mg "valid_word" = some (.ref (He.ga K "valid_word"))
  d_sum_of : FuncData
  F_sum_of : FnP K "sum_of" s_sum_of (He.ga K "sum_of") d_sum_of
  g_sum_of : mg "sum_of" = some (.ref (He.ga K "sum_of"))
  d_all_words : FuncData
  F_all_words : FnP K "all_words" s_all_words (He.ga K "all_words") d_all_words
  g_all_words : mg "all_words" = some (.ref (He.ga K "all_words"))
  d_remainder : FuncData
  F_remainder : FnP K "remainder" s_remainder (He.ga K "remainder") d_remainder
  g_remainder : mg "remainder" = some (.ref (He.ga K "remainder"))
  d_codes_of : FuncData
  F_codes_of : FnP K "codes_of" s_codes_of (He.ga K "codes_of") d_codes_of
  g_codes_of : mg "codes_of" = some (.ref (He.ga K "codes_of"))
  d_check_short : FuncData
  F_check_short : FnP K "check_short" s_check_short (He.ga K "check_short") d_check_short
  g_check_short : mg "check_short" = some (.ref (He.ga K "check_short"))
  d_all_codes : FuncData
  F_all_codes : FnP K "all_codes" s_all_codes (He.ga K "all_codes") d_all_codes
  g_all_codes : mg "all_codes" = some (.ref (He.ga K "all_codes"))
  d_is_answer : FuncData
  F_is_answer : FnP K "is_answer" s_is_answer (He.ga K "is_answer") d_is_answer
  g_is_answer : mg "is_answer" = some (.ref (He.ga K "is_answer"))
  d_agreeing : FuncData
  F_agreeing : FnP K "agreeing" s_agreeing (He.ga K "agreeing") d_agreeing
  g_agreeing : mg "agreeing" = some (.ref (He.ga K "agreeing"))
  d_check_answers : FuncData
  F_check_answers : FnP K "check_answers" s_check_answers (He.ga K "check_answers") d_check_answers
  g_check_answers : mg "check_answers" = some (.ref (He.ga K "check_answers"))
  d_agreeing_codes : FuncData
  F_agreeing_codes : FnP K "agreeing_codes" s_agreeing_codes (He.ga K "agreeing_codes") d_agreeing_codes
  g_agreeing_codes : mg "agreeing_codes" = some (.ref (He.ga K "agreeing_codes"))
  d_known_words : FuncData
  F_known_words : FnP K "known_words" s_known_words (He.ga K "known_words") d_known_words
  g_known_words : mg "known_words" = some (.ref (He.ga K "known_words"))
  d__law_cell_at : FuncData
  F__law_cell_at : FnP K "_law_cell_at" s__law_cell_at (He.ga K "_law_cell_at") d__law_cell_at
  g__law_cell_at : mg "_law_cell_at" = some (.ref (He.ga K "_law_cell_at"))
  d__law_mixed : FuncData
  F__law_mixed : FnP K "_law_mixed" s__law_mixed (He.ga K "_law_mixed") d__law_mixed
  g__law_mixed : mg "_law_mixed" = some (.ref (He.ga K "_law_mixed"))
  d__law_draw : FuncData
  F__law_draw : FnP K "_law_draw" s__law_draw (He.ga K "_law_draw") d__law_draw
  g__law_draw : mg "_law_draw" = some (.ref (He.ga K "_law_draw"))
  d__law_pick : FuncData
  F__law_pick : FnP K "_law_pick" s__law_pick (He.ga K "_law_pick") d__law_pick
  g__law_pick : mg "_law_pick" = some (.ref (He.ga K "_law_pick"))
  d__law_word : FuncData
  F__law_word : FnP K "_law_word" s__law_word (He.ga K "_law_word") d__law_word
  g__law_word : mg "_law_word" = some (.ref (He.ga K "_law_word"))
  d__law_all_words : FuncData
  F__law_all_words : FnP K "_law_all_words" s__law_all_words (He.ga K "_law_all_words") d__law_all_words
  g__law_all_words : mg "_law_all_words" = some (.ref (He.ga K "_law_all_words"))
  d__law_plus : FuncData
  F__law_plus : FnP K "_law_plus" s__law_plus (He.ga K "_law_plus") d__law_plus
  g__law_plus : mg "_law_plus" = some (.ref (He.ga K "_law_plus"))
  d__law_closure : FuncData
  F__law_closure : FnP K "_law_closure" s__law_closure (He.ga K "_law_closure") d__law_closure
  g__law_closure : mg "_law_closure" = some (.ref (He.ga K "_law_closure"))
  d__law_words_in : FuncData
  F__law_words_in : FnP K "_law_words_in" s__law_words_in (He.ga K "_law_words_in") d__law_words_in
  g__law_words_in : mg "_law_words_in" = some (.ref (He.ga K "_law_words_in"))
  d__law_which : FuncData
  F__law_which : FnP K "_law_which" s__law_which (He.ga K "_law_which") d__law_which
  g__law_which : mg "_law_which" = some (.ref (He.ga K "_law_which"))
  d__law_ask : FuncData
  F__law_ask : FnP K "_law_ask" s__law_ask (He.ga K "_law_ask") d__law_ask
  g__law_ask : mg "_law_ask" = some (.ref (He.ga K "_law_ask"))
  d_law : FuncData
  F_law : FnP K "law" s_law (He.ga K "law") d_law
  g_law : mg "law" = some (.ref (He.ga K "law"))
  c_SHORT : ∃ t, mg "SHORT" = some (.int 4 t)
  g_CodeError : mg "CodeError" = some (.ref (He.ga K "CodeError"))
  m_exc : ∀ c, c < 16 → PySem.W.exmOne K (.ref (excA K c)) (.ref (He.ga K "CodeError")) = some true
  e_exc : ∀ c, c < 16 → ExcC K (excA K c)
  i_exc : ∀ c d, c < 16 → d < 16 → PySem.W.kitOne K (.ref (excA K c)) (.ref (excA K d)) = some (c == d)
  v_exc : ∀ c, c < 16 → PySem.W.kitOne K (.ref (excA K c)) (.type "ValueError") = some true
  g_InvalidAnswers : mg "InvalidAnswers" = some (.ref (He.ga K "InvalidAnswers"))
  x_InvalidAnswers : PySem.W.excIn K (He.ga K "InvalidAnswers") He.veBase "ValueError.__new__" = true
  k_InvalidAnswers : PySem.W.keepIn K (.ref (He.ga K "InvalidAnswers")) = true
  b_InvalidAnswers : PySem.W.subIn K (.ref (He.ga K "InvalidAnswers")) (.type "BaseException") = some true
  t_InvalidAnswers : PySem.W.typeIn K (.ref (He.ga K "InvalidAnswers")) = some (.type "type")
  g_InvalidBlock : mg "InvalidBlock" = some (.ref (He.ga K "InvalidBlock"))
  x_InvalidBlock : PySem.W.excIn K (He.ga K "InvalidBlock") He.veBase "ValueError.__new__" = true
  k_InvalidBlock : PySem.W.keepIn K (.ref (He.ga K "InvalidBlock")) = true
  b_InvalidBlock : PySem.W.subIn K (.ref (He.ga K "InvalidBlock")) (.type "BaseException") = some true
  t_InvalidBlock : PySem.W.typeIn K (.ref (He.ga K "InvalidBlock")) = some (.type "type")
  g_InvalidCode : mg "InvalidCode" = some (.ref (He.ga K "InvalidCode"))
  x_InvalidCode : PySem.W.excIn K (He.ga K "InvalidCode") He.veBase "ValueError.__new__" = true
  k_InvalidCode : PySem.W.keepIn K (.ref (He.ga K "InvalidCode")) = true
  b_InvalidCode : PySem.W.subIn K (.ref (He.ga K "InvalidCode")) (.type "BaseException") = some true
  t_InvalidCode : PySem.W.typeIn K (.ref (He.ga K "InvalidCode")) = some (.type "type")
  g_InvalidCounts : mg "InvalidCounts" = some (.ref (He.ga K "InvalidCounts"))
  x_InvalidCounts : PySem.W.excIn K (He.ga K "InvalidCounts") He.veBase "ValueError.__new__" = true
  k_InvalidCounts : PySem.W.keepIn K (.ref (He.ga K "InvalidCounts")) = true
  b_InvalidCounts : PySem.W.subIn K (.ref (He.ga K "InvalidCounts")) (.type "BaseException") = some true
  t_InvalidCounts : PySem.W.typeIn K (.ref (He.ga K "InvalidCounts")) = some (.type "type")
  g_InvalidDistance : mg "InvalidDistance" = some (.ref (He.ga K "InvalidDistance"))
  x_InvalidDistance : PySem.W.excIn K (He.ga K "InvalidDistance") He.veBase "ValueError.__new__" = true
  k_InvalidDistance : PySem.W.keepIn K (.ref (He.ga K "InvalidDistance")) = true
  b_InvalidDistance : PySem.W.subIn K (.ref (He.ga K "InvalidDistance")) (.type "BaseException") = some true
  t_InvalidDistance : PySem.W.typeIn K (.ref (He.ga K "InvalidDistance")) = some (.type "type")
  g_InvalidIndex : mg "InvalidIndex" = some (.ref (He.ga K "InvalidIndex"))
  x_InvalidIndex : PySem.W.excIn K (He.ga K "InvalidIndex") He.veBase "ValueError.__new__" = true
  k_InvalidIndex : PySem.W.keepIn K (.ref (He.ga K "InvalidIndex")) = true
  b_InvalidIndex : PySem.W.subIn K (.ref (He.ga K "InvalidIndex")) (.type "BaseException") = some true
  t_InvalidIndex : PySem.W.typeIn K (.ref (He.ga K "InvalidIndex")) = some (.type "type")
  g_InvalidLength : mg "InvalidLength" = some (.ref (He.ga K "InvalidLength"))
  x_InvalidLength : PySem.W.excIn K (He.ga K "InvalidLength") He.veBase "ValueError.__new__" = true
  k_InvalidLength : PySem.W.keepIn K (.ref (He.ga K "InvalidLength")) = true
  b_InvalidLength : PySem.W.subIn K (.ref (He.ga K "InvalidLength")) (.type "BaseException") = some true
  t_InvalidLength : PySem.W.typeIn K (.ref (He.ga K "InvalidLength")) = some (.type "type")
  g_InvalidOrder : mg "InvalidOrder" = some (.ref (He.ga K "InvalidOrder"))
  x_InvalidOrder : PySem.W.excIn K (He.ga K "InvalidOrder") He.veBase "ValueError.__new__" = true
  k_InvalidOrder : PySem.W.keepIn K (.ref (He.ga K "InvalidOrder")) = true
  b_InvalidOrder : PySem.W.subIn K (.ref (He.ga K "InvalidOrder")) (.type "BaseException") = some true
  t_InvalidOrder : PySem.W.typeIn K (.ref (He.ga K "InvalidOrder")) = some (.type "type")
  g_InvalidPartial : mg "InvalidPartial" = some (.ref (He.ga K "InvalidPartial"))
  x_InvalidPartial : PySem.W.excIn K (He.ga K "InvalidPartial") He.veBase "ValueError.__new__" = true
  k_InvalidPartial : PySem.W.keepIn K (.ref (He.ga K "InvalidPartial")) = true
  b_InvalidPartial : PySem.W.subIn K (.ref (He.ga K "InvalidPartial")) (.type "BaseException") = some true
  t_InvalidPartial : PySem.W.typeIn K (.ref (He.ga K "InvalidPartial")) = some (.type "type")
  g_InvalidPosition : mg "InvalidPosition" = some (.ref (He.ga K "InvalidPosition"))
  x_InvalidPosition : PySem.W.excIn K (He.ga K "InvalidPosition") He.veBase "ValueError.__new__" = true
  k_InvalidPosition : PySem.W.keepIn K (.ref (He.ga K "InvalidPosition")) = true
  b_InvalidPosition : PySem.W.subIn K (.ref (He.ga K "InvalidPosition")) (.type "BaseException") = some true
  t_InvalidPosition : PySem.W.typeIn K (.ref (He.ga K "InvalidPosition")) = some (.type "type")
  g_InvalidWord : mg "InvalidWord" = some (.ref (He.ga K "InvalidWord"))
  x_InvalidWord : PySem.W.excIn K (He.ga K "InvalidWord") He.veBase "ValueError.__new__" = true
  k_InvalidWord : PySem.W.keepIn K (.ref (He.ga K "InvalidWord")) = true
  b_InvalidWord : PySem.W.subIn K (.ref (He.ga K "InvalidWord")) (.type "BaseException") = some true
  t_InvalidWord : PySem.W.typeIn K (.ref (He.ga K "InvalidWord")) = some (.type "type")
  g_NoWords : mg "NoWords" = some (.ref (He.ga K "NoWords"))
  x_NoWords : PySem.W.excIn K (He.ga K "NoWords") He.veBase "ValueError.__new__" = true
  k_NoWords : PySem.W.keepIn K (.ref (He.ga K "NoWords")) = true
  b_NoWords : PySem.W.subIn K (.ref (He.ga K "NoWords")) (.type "BaseException") = some true
  t_NoWords : PySem.W.typeIn K (.ref (He.ga K "NoWords")) = some (.type "type")
  g_NothingToUndo : mg "NothingToUndo" = some (.ref (He.ga K "NothingToUndo"))
  x_NothingToUndo : PySem.W.excIn K (He.ga K "NothingToUndo") He.veBase "ValueError.__new__" = true
  k_NothingToUndo : PySem.W.keepIn K (.ref (He.ga K "NothingToUndo")) = true
  b_NothingToUndo : PySem.W.subIn K (.ref (He.ga K "NothingToUndo")) (.type "BaseException") = some true
  t_NothingToUndo : PySem.W.typeIn K (.ref (He.ga K "NothingToUndo")) = some (.type "type")
  g_ParseError : mg "ParseError" = some (.ref (He.ga K "ParseError"))
  x_ParseError : PySem.W.excIn K (He.ga K "ParseError") He.veBase "ValueError.__new__" = true
  k_ParseError : PySem.W.keepIn K (.ref (He.ga K "ParseError")) = true
  b_ParseError : PySem.W.subIn K (.ref (He.ga K "ParseError")) (.type "BaseException") = some true
  t_ParseError : PySem.W.typeIn K (.ref (He.ga K "ParseError")) = some (.type "type")
  g_TooLong : mg "TooLong" = some (.ref (He.ga K "TooLong"))
  x_TooLong : PySem.W.excIn K (He.ga K "TooLong") He.veBase "ValueError.__new__" = true
  k_TooLong : PySem.W.keepIn K (.ref (He.ga K "TooLong")) = true
  b_TooLong : PySem.W.subIn K (.ref (He.ga K "TooLong")) (.type "BaseException") = some true
  t_TooLong : PySem.W.typeIn K (.ref (He.ga K "TooLong")) = some (.type "type")
  g_Underdetermined : mg "Underdetermined" = some (.ref (He.ga K "Underdetermined"))
  x_Underdetermined : PySem.W.excIn K (He.ga K "Underdetermined") He.veBase "ValueError.__new__" = true
  k_Underdetermined : PySem.W.keepIn K (.ref (He.ga K "Underdetermined")) = true
  b_Underdetermined : PySem.W.subIn K (.ref (He.ga K "Underdetermined")) (.type "BaseException") = some true
  t_Underdetermined : PySem.W.typeIn K (.ref (He.ga K "Underdetermined")) = some (.type "type")
  z_ValueError : mg "ValueError" = none
  z_all : mg "all" = none
  z_any : mg "any" = none
  z_bool : mg "bool" = none
  z_int : mg "int" = none
  z_isinstance : mg "isinstance" = none
  z_len : mg "len" = none
  z_list : mg "list" = none
  z_min : mg "min" = none
  z_range : mg "range" = none
  z_sorted : mg "sorted" = none
  z_str : mg "str" = none
  z_tuple : mg "tuple" = none
  z_zip : mg "zip" = none
section
variable {P : Program} {w : World} {K : PySem.W.Frag} {mg : Str → Option Value} {base : Heap}
theorem bd_is_any_integer (T : Tx K mg) : Binds K T.d_is_any_integer ["value"] [] := T.F_is_any_integer.bindsN fun _ _ _ _ _ _ us hl => match us, hl with | [_], _ => rfl
theorem ok_is_any_integer (T : Tx K mg) : FnOk P w K mg base (L2N.CX P w) 1 (He.ga K "is_any_integer") T.d_is_any_integer ["value"] (spP K (EE1 K) 1 D_is_any_integer) :=
  okE (N := N_is_any_integer) T.F_is_any_integer sc_is_any_integer rfl fun _ _ _ _ _ _ hr tk TK =>
  (dss_one (ds_ret (dx_and (dx_isi (T := .int) (by rfl) T.z_isinstance (by rfl) T.z_int (by decide +kernel) (do_var (pv 0))) (dx_one (dx_not (dx_isi (T := .bool) (by rfl) T.z_isinstance (by rfl) T.z_bool (by decide +kernel) (do_var (pv 0))))))))
theorem bd_is_integer (T : Tx K mg) : Binds K T.d_is_integer ["value", "low", "high"] [] := T.F_is_integer.bindsN fun _ _ _ _ _ _ us hl => match us, hl with | [_, _, _], _ => rfl
theorem ok_is_integer (T : Tx K mg) : FnOk P w K mg base (L2N.CX P w) 2 (He.ga K "is_integer") T.d_is_integer ["value", "low", "high"] (spP K (EE1 K) 3 D_is_integer) :=
  okE (N := N_is_integer) T.F_is_integer sc_is_integer rfl fun _ _ _ _ _ _ hr tk TK =>
  (dss_one (ds_ret (dx_and (dx_call (ok_is_any_integer T) (hr.mono (by decide)) (by rfl) T.g_is_any_integer T.F_is_any_integer.kp (bd_is_any_integer T) TK.ps (fun _ _ z => z) (a_cons (dx_var (pv 0)) a_nil) (len_cns len_nil)) (dx_one (dx_chain op_le op_le opr_le opr_le (do_var (pv 1)) (do_var (pv 0)) (do_var (pv 2)))))))
theorem bd_valid_word (T : Tx K mg) : Binds K T.d_valid_word ["length", "value"] [] := T.F_valid_word.bindsN fun _ _ _ _ _ _ us hl => match us, hl with | [_, _], _ => rfl
theorem ok_valid_word (T : Tx K mg) : FnOk P w K mg base (L2N.CX P w) 1 (He.ga K "valid_word") T.d_valid_word ["length", "value"] (spP K (EE1 K) 2 D_valid_word) :=
  okE (N := N_valid_word) T.F_valid_word sc_valid_word rfl fun _ _ _ _ _ _ hr tk TK =>
  (dss_one (ds_ret (dx_and (dx_isi (T := .str) (by rfl) T.z_isinstance (by rfl) T.z_str (by decide +kernel) (do_var (pv 1))) (dx_and (dx_cmp (op_eqD hr.units) opr_eq (do_of (dx_callB call_lenX opr_len (by rfl) T.z_len (by decide +kernel) (oa_cons (do_var (pv 1)) oa_nil))) (do_var (pv 0)) (nomark _)) (dx_one (dx_callB (cr_all rfl) opr_all (by rfl) T.z_all (by decide +kernel) (oa_cons (do_of (dx_lc (own := [("bit", 2)]) rfl rfl sc_valid_word.nd (di_any (dx_var (pv 1))) (blkOk_by (by kernel_rfl)) (fun _ _ _ _ _ => (dg_name (i := 2) (nin rfl) sc_valid_word.nd rfl (.inl rfl))) (fun _ _ _ _ _ => dts_nil) (fun _ _ _ _ _ => (dx_cmp (op_inX (hu65 hr)) opr_in (do_var (pv 2)) (do_of (dx_str (l := [48, 49]) (by decide +kernel) (by decide +kernel))) rfl)))) oa_nil)))))))
theorem bd_sum_of (T : Tx K mg) : Binds K T.d_sum_of ["left", "right"] [] := T.F_sum_of.bindsN fun _ _ _ _ _ _ us hl => match us, hl with | [_, _], _ => rfl
theorem ok_sum_of (T : Tx K mg) : FnOk P w K mg base (L2N.CX P w) 1 (He.ga K "sum_of") T.d_sum_of ["left", "right"] (spP K (EE1 K) 2 D_sum_of) :=
  okE (N := N_sum_of) T.F_sum_of sc_sum_of rfl fun _ _ _ _ _ _ hr tk TK =>
  (dss_one (ds_ret (dx_meth PySem.F.slot_str_join PySem.F.type_str_join mt_join opr_join (do_of (dx_str (l := []) (by decide +kernel) (by decide +kernel))) (oa_cons (do_of (dx_lc (own := [("one", 2), ("other", 3)]) rfl rfl sc_sum_of.nd (di_zip (by rfl) T.z_zip (a_cons (dx_var (pv 0)) (a_cons (dx_var (pv 1)) a_nil))) (blkOk_by (by kernel_rfl)) (fun _ _ _ _ _ => (dg_tup (n := 2) rfl rfl (dgs_cons (dg_name (i := 2) (nin rfl) sc_sum_of.nd rfl (.inl rfl)) (dgs_cons (dg_name (i := 3) (nin rfl) sc_sum_of.nd rfl (.inl rfl)) dgs_nil)))) (fun _ _ _ _ _ => dts_nil) (fun _ _ _ _ _ => (dx_if (dt_cmp (op_eqD hr.units) opr_eq (do_var (pv 2)) (do_var (pv 3)) (nomark _)) (dx_str (l := [48]) (by decide +kernel) (by decide +kernel)) (dx_str (l := [49]) (by decide +kernel) (by decide +kernel)))))) oa_nil))))
theorem bd_all_words (T : Tx K mg) : Binds K T.d_all_words ["length"] [] := T.F_all_words.bindsN fun _ _ _ _ _ _ us hl => match us, hl with | [_], _ => rfl
theorem ok_all_words (T : Tx K mg) : FnOk P w K mg base (L2N.CX P w) 1 (He.ga K "all_words") T.d_all_words ["length"] (spP K (EE1 K) 1 D_all_words) :=
  okE (N := N_all_words) T.F_all_words sc_all_words rfl fun _ _ _ _ _ _ hr tk TK =>
  (dss_cons (ds_set (i := 1) (nin rfl) sc_all_words.nd rfl (.inl rfl) (dx_lst (a_cons (dx_str (l := []) (by decide +kernel) (by decide +kernel)) a_nil)))
  (dss_cons (ds_for TK.po rfl (di_rng1 (by rfl) T.z_range (a_cons (dx_var (pv 0)) a_nil)) (dg_name (i := 2) (nin rfl) sc_all_words.nd rfl (.inl rfl)) (dss_one (ds_setLc2 (own := [("word", 3), ("bit", 4)]) (vs1 := [4]) (i := 1) (nin rfl) rfl rfl sc_all_words.nd rfl rfl (sw_true rfl rfl rfl (by decide +kernel)) (di_any (dx_var (pv 1))) (blkOk_by (by kernel_rfl)) (by decide) (fun _ _ _ _ _ => (dg_name (i := 3) (nin rfl) sc_all_words.nd rfl (.inl rfl))) (fun _ _ _ _ _ => dts_nil) (fun _ _ _ _ _ => (di_any0 (dx_str (l := [48, 49]) (by decide +kernel) (by decide +kernel)))) (fun _ _ _ _ _ => (dg_name (i := 4) (nin rfl) sc_all_words.nd rfl (.inl rfl))) (fun _ _ _ _ _ => dts_nil) (fun _ _ _ _ _ => (dx_bin op_addA opr_add (do_var (pv 3)) (do_var (pv 4)))))))
  (dss_one (ds_ret (dx_var (pv 1))))))
theorem bd_remainder (T : Tx K mg) : Binds K T.d_remainder ["basis", "word"] [] := T.F_remainder.bindsN fun _ _ _ _ _ _ us hl => match us, hl with | [_, _], _ => rfl
theorem ok_remainder (T : Tx K mg) : FnOk P w K mg base (L2N.CX P w) 2 (He.ga K "remainder") T.d_remainder ["basis", "word"] (spP K (EE1 K) 2 D_remainder) :=
  okE (N := N_remainder) T.F_remainder sc_remainder rfl fun _ _ _ _ _ _ hr tk TK =>
  (dss_cons (ds_for TK.po rfl (di_any (dx_var (pv 0))) (dg_name (i := 2) (nin rfl) sc_remainder.nd rfl (.inl rfl)) (dss_one (ds_if (dt_cmp (op_eqD hr.units) opr_eq (do_of (dx_ix (do_var (pv 1)) (do_of (dx_meth PySem.F.slot_str_index PySem.F.type_str_index mt_indexF opr_index (do_var (pv 2)) (oa_cons (do_of (dx_str (l := [49]) (by decide +kernel) (by decide +kernel))) oa_nil))) (fun _ _ => rfl))) (do_of (dx_str (l := [49]) (by decide +kernel) (by decide +kernel))) (nomark _)) (dss_one (ds_set (i := 1) (nin rfl) sc_remainder.nd rfl (.inl rfl) (dx_call (ok_sum_of T) (hr.mono (by decide)) (by rfl) T.g_sum_of T.F_sum_of.kp (bd_sum_of T) TK.ps (fun _ _ z => z) (a_cons (dx_var (pv 1)) (a_cons (dx_var (pv 2)) a_nil)) (len_cns (len_cns len_nil))))) dss_nil)))
  (dss_one (ds_ret (dx_var (pv 1)))))
theorem bd_codes_of (T : Tx K mg) : Binds K T.d_codes_of ["length"] [] := T.F_codes_of.bindsN fun _ _ _ _ _ _ us hl => match us, hl with | [_], _ => rfl
theorem ok_codes_of (T : Tx K mg) : FnOk P w K mg base (L2N.CX P w) 2 (He.ga K "codes_of") T.d_codes_of ["length"] (spP K (EE1 K) 1 D_codes_of) :=
  okE (N := N_codes_of) T.F_codes_of sc_codes_of rfl fun _ _ _ _ _ _ hr tk TK =>
  (dss_cons (ds_set (i := 1) (nin rfl) sc_codes_of.nd rfl (.inl rfl) (dx_lst (a_cons (dx_tup a_nil) a_nil)))
  (dss_cons (ds_for TK.po rfl (di_rng3 (by rfl) T.z_range (a_cons (dx_bin op_sub opr_sub (do_var (pv 0)) (do_of dx_int)) (a_cons (dx_un un_neg opr_neg (do_of dx_int)) (a_cons (dx_un un_neg opr_neg (do_of dx_int)) a_nil)))) (dg_name (i := 2) (nin rfl) sc_codes_of.nd rfl (.inl rfl)) (dss_cons (ds_setO (i := 3) (nin rfl) sc_codes_of.nd rfl (.inl rfl) (df_lst a_nil))
  (dss_cons (ds_for TK.po rfl (di_any (dx_var (pv 1))) (dg_name (i := 4) (nin rfl) sc_codes_of.nd rfl (.inl rfl)) (dss_cons (ds_app (pv 3) (dx_callT call_tuple_of opr_tuple (by rfl) T.z_tuple (by decide +kernel) (oa_cons (do_of (dx_lc (own := [("word", 7)]) rfl rfl sc_codes_of.nd (di_any (dx_var (pv 4))) (blkOk_by (by kernel_rfl)) (fun _ _ _ _ _ => (dg_name (i := 7) (nin rfl) sc_codes_of.nd rfl (.inl rfl))) (fun _ _ _ _ _ => dts_nil) (fun _ _ _ _ _ => (dx_bin op_addA opr_add (do_of (dx_str (l := [48]) (by decide +kernel) (by decide +kernel))) (do_var (pv 7)))))) oa_nil)))
  (dss_cons (ds_setLc (own := [("word", 7)]) (i := 5) (nin rfl) rfl rfl sc_codes_of.nd rfl rfl (sw_true rfl rfl rfl (by decide +kernel)) (di_any (dx_var (pv 4))) (blkOk_by (by kernel_rfl)) (fun _ _ _ _ _ => (dg_name (i := 7) (nin rfl) sc_codes_of.nd rfl (.inl rfl))) (fun _ _ _ _ _ => dts_nil) (fun _ _ _ _ _ => (dx_meth PySem.F.slot_str_index PySem.F.type_str_index mt_indexF opr_index (do_var (pv 7)) (oa_cons (do_of (dx_str (l := [49]) (by decide +kernel) (by decide +kernel))) oa_nil))))
  (dss_one (ds_for TK.po rfl (di_any (dx_call (ok_all_words T) (hr.mono (by decide)) (by rfl) T.g_all_words T.F_all_words.kp (bd_all_words T) TK.ps (fun _ _ z => z) (a_cons (dx_bin op_sub opr_sub (do_of (dx_bin op_sub opr_sub (do_var (pv 0)) (do_of dx_int))) (do_var (pv 2))) a_nil) (len_cns len_nil))) (dg_name (i := 6) (nin rfl) sc_codes_of.nd rfl (.inr rfl)) (dss_one (ds_if (dt_val (dx_callB (cr_all rfl) opr_all (by rfl) T.z_all (by decide +kernel) (oa_cons (do_of (dx_lc (own := [("first", 8)]) rfl rfl sc_codes_of.nd (di_any (dx_var (pv 5))) (blkOk_by (by kernel_rfl)) (fun _ _ _ _ _ => (dg_name (i := 8) (nin rfl) sc_codes_of.nd rfl (.inl rfl))) (fun _ _ _ _ _ => dts_nil) (fun _ _ _ _ _ => (dx_cmp (op_eqD hr.units) opr_eq (do_of (dx_ix (do_var (pv 6)) (do_var (pv 8)) (fun _ _ => rfl))) (do_of (dx_str (l := [48]) (by decide +kernel) (by decide +kernel))) (nomark _))))) oa_nil))) (dss_one (ds_app (pv 3) (dx_bin op_addA opr_add (do_of (dx_tup (a_cons (dx_bin op_addA opr_add (do_of (dx_str (l := [49]) (by decide +kernel) (by decide +kernel))) (do_var (pv 6))) a_nil))) (do_of (dx_callT call_tuple_of opr_tuple (by rfl) T.z_tuple (by decide +kernel) (oa_cons (do_of (dx_lc (own := [("word", 7)]) rfl rfl sc_codes_of.nd (di_any (dx_var (pv 4))) (blkOk_by (by kernel_rfl)) (fun _ _ _ _ _ => (dg_name (i := 7) (nin rfl) sc_codes_of.nd rfl (.inl rfl))) (fun _ _ _ _ _ => dts_nil) (fun _ _ _ _ _ => (dx_bin op_addA opr_add (do_of (dx_str (l := [48]) (by decide +kernel) (by decide +kernel))) (do_var (pv 7)))))) oa_nil)))))) dss_nil)))))))
  (dss_one (ds_set (i := 1) (nin rfl) sc_codes_of.nd rfl (.inl rfl) (dx_var (pv 3)))))))
  (dss_one (ds_ret (dx_callB (cr_sortA (hu65 hr)) opr_sortA (by rfl) T.z_sorted (by decide +kernel) (oa_cons (do_of (dx_lc (own := [("basis", 4)]) rfl rfl sc_codes_of.nd (di_any (dx_var (pv 1))) (blkOk_by (by kernel_rfl)) (fun _ _ _ _ _ => (dg_name (i := 4) (nin rfl) sc_codes_of.nd rfl (.inl rfl))) (fun _ _ _ _ _ => dts_nil) (fun _ _ _ _ _ => (dx_tup (a_cons (dx_var (pv 0)) (a_cons (dx_var (pv 4)) a_nil)))))) oa_nil))))))
theorem bd_check_short (T : Tx K mg) : Binds K T.d_check_short ["length"] [] := T.F_check_short.bindsN fun _ _ _ _ _ _ us hl => match us, hl with | [_], _ => rfl
theorem ok_check_short (T : Tx K mg) : FnOk P w K mg base (L2N.CX P w) 3 (He.ga K "check_short") T.d_check_short ["length"] (spP K (EE1 K) 1 D_check_short) :=
  okE (N := N_check_short) T.F_check_short sc_check_short rfl fun _ _ _ _ _ _ hr tk TK =>
  (dss_one (ds_if (dt_not (dt_val (dx_call (ok_is_integer T) (hr.mono (by decide)) (by rfl) T.g_is_integer T.F_is_integer.kp (bd_is_integer T) TK.ps (fun _ _ z => z) (a_cons (dx_var (pv 0)) (a_cons dx_int (a_cons (dx_gint (by rfl) T.c_SHORT.choose_spec ⟨_, rfl⟩) a_nil))) (len_cns (len_cns (len_cns len_nil)))))) (dss_one (ds_raise (c := 0) tk rfl rfl T.x_InvalidLength T.g_InvalidLength T.k_InvalidLength (raises_own T.b_InvalidLength T.t_InvalidLength) (by rfl))) dss_nil))
theorem bd_all_codes (T : Tx K mg) : Binds K T.d_all_codes ["length"] [] := T.F_all_codes.bindsN fun _ _ _ _ _ _ us hl => match us, hl with | [_], _ => rfl
theorem ok_all_codes (T : Tx K mg) : FnOk P w K mg base (L2N.CX P w) 4 (He.ga K "all_codes") T.d_all_codes ["length"] (spP K (EE1 K) 1 D_all_codes) :=
  okE (N := N_all_codes) T.F_all_codes sc_all_codes rfl fun _ _ _ _ _ _ hr tk TK =>
  (dss_cons (ds_expr (dx_call (ok_check_short T) (hr.mono (by decide)) (by rfl) T.g_check_short T.F_check_short.kp (bd_check_short T) TK.ps (fun _ _ z => z) (a_cons (dx_var (pv 0)) a_nil) (len_cns len_nil)))
  (dss_one (ds_ret (dx_call (ok_codes_of T) (hr.mono (by decide)) (by rfl) T.g_codes_of T.F_codes_of.kp (bd_codes_of T) TK.ps (fun _ _ z => z) (a_cons (dx_var (pv 0)) a_nil) (len_cns len_nil)))))
theorem bd_is_answer (T : Tx K mg) : Binds K T.d_is_answer ["length", "value"] [] := T.F_is_answer.bindsN fun _ _ _ _ _ _ us hl => match us, hl with | [_, _], _ => rfl
theorem ok_is_answer (T : Tx K mg) : FnOk P w K mg base (L2N.CX P w) 2 (He.ga K "is_answer") T.d_is_answer ["length", "value"] (spP K (EE1 K) 2 D_is_answer) :=
  okE (N := N_is_answer) T.F_is_answer sc_is_answer rfl fun _ _ _ _ _ _ hr tk TK =>
  (dss_cons (ds_if (PW.pt (dw_or (dt_not (dt_val (dx_isi (T := .tuple) (by rfl) T.z_isinstance (by rfl) T.z_tuple (by decide +kernel) (do_var (pv 1))))) (dw_or (dt_cmp (op_neD hr.units) opr_ne (do_of (dx_callB call_lenX opr_len (by rfl) T.z_len (by decide +kernel) (oa_cons (do_var (pv 1)) oa_nil))) (do_of dx_int) (nomark _)) (dw_or1 (dt_not (dt_val (dx_call (ok_valid_word T) (hr.mono (by decide)) (by rfl) T.g_valid_word T.F_valid_word.kp (bd_valid_word T) TK.ps (fun _ _ z => z) (a_cons (dx_var (pv 0)) (a_cons (dx_ix (do_var (pv 1)) (do_of dx_int) (fun _ _ => rfl)) a_nil)) (len_cns (len_cns len_nil))))))))) (dss_one (ds_ret dx_bl)) dss_nil)
  (dss_one (ds_ret (dx_isi (T := .bool) (by rfl) T.z_isinstance (by rfl) T.z_bool (by decide +kernel) (do_of (dx_ix (do_var (pv 1)) (do_of dx_int) (fun _ _ => rfl)))))))
theorem bd_agreeing (T : Tx K mg) : Binds K T.d_agreeing ["length", "answers"] [] := T.F_agreeing.bindsN fun _ _ _ _ _ _ us hl => match us, hl with | [_, _], _ => rfl
theorem ok_agreeing (T : Tx K mg) : FnOk P w K mg base (L2N.CX P w) 3 (He.ga K "agreeing") T.d_agreeing ["length", "answers"] (spP K (EE1 K) 2 D_agreeing) :=
  okE (N := N_agreeing) T.F_agreeing sc_agreeing rfl fun _ _ _ _ _ _ hr tk TK =>
  (dss_cons (ds_setO (i := 2) (nin rfl) sc_agreeing.nd rfl (.inl rfl) (df_lst a_nil))
  (dss_cons (ds_for TK.po rfl (di_any (dx_call (ok_codes_of T) (hr.mono (by decide)) (by rfl) T.g_codes_of T.F_codes_of.kp (bd_codes_of T) TK.ps (fun _ _ z => z) (a_cons (dx_var (pv 0)) a_nil) (len_cns len_nil))) (dg_name (i := 3) (nin rfl) sc_agreeing.nd rfl (.inr rfl)) (dss_one (ds_if (dt_val (dx_callB (cr_all rfl) opr_all (by rfl) T.z_all (by decide +kernel) (oa_cons (do_of (dx_lc (own := [("word", 4), ("answer", 5)]) rfl rfl sc_agreeing.nd (di_any (dx_var (pv 1))) (blkOk_by (by kernel_rfl)) (fun _ _ _ _ _ => (dg_tup (n := 2) rfl rfl (dgs_cons (dg_name (i := 4) (nin rfl) sc_agreeing.nd rfl (.inl rfl)) (dgs_cons (dg_name (i := 5) (nin rfl) sc_agreeing.nd rfl (.inl rfl)) dgs_nil)))) (fun _ _ _ _ _ => dts_nil) (fun _ _ _ _ _ => (dx_cmp (op_eqD hr.units) opr_eq (do_of (dx_cmp (op_notInX (hu65 hr)) opr_notIn (do_of (dx_str (l := [49]) (by decide +kernel) (by decide +kernel))) (do_of (dx_call (okq (ok_remainder T)) (hr.mono (by decide)) (by rfl) T.g_remainder T.F_remainder.kp (bd_remainder T) pass0 (fun _ _ z => z) (a_cons (dx_ix (do_var (pv 3)) (do_of dx_int) (fun _ _ => rfl)) (a_cons (dx_var (pv 4)) a_nil)) (len_cns (len_cns len_nil)))) rfl)) (do_var (pv 5)) (nomark _))))) oa_nil))) (dss_one (ds_app (pv 2) (dx_var (pv 3)))) dss_nil)))
  (dss_one (ds_ret (dx_var (pv 2))))))
theorem bd_check_answers (T : Tx K mg) : Binds K T.d_check_answers ["length", "answers"] [] := T.F_check_answers.bindsN fun _ _ _ _ _ _ us hl => match us, hl with | [_, _], _ => rfl
theorem ok_check_answers (T : Tx K mg) : FnOk P w K mg base (L2N.CX P w) 4 (He.ga K "check_answers") T.d_check_answers ["length", "answers"] (spP K (EE1 K) 2 D_check_answers) :=
  okE (N := N_check_answers) T.F_check_answers sc_check_answers rfl fun _ _ _ _ _ _ hr tk TK =>
  (dss_cons (ds_expr (dx_call (ok_check_short T) (hr.mono (by decide)) (by rfl) T.g_check_short T.F_check_short.kp (bd_check_short T) TK.ps (fun _ _ z => z) (a_cons (dx_var (pv 0)) a_nil) (len_cns len_nil)))
  (dss_one (ds_if (PW.pt (dw_or (dt_not (dt_val (dx_isi (T := .tuple) (by rfl) T.z_isinstance (by rfl) T.z_tuple (by decide +kernel) (do_var (pv 1))))) (dw_or1 (dt_not (dt_val (dx_callB (cr_all rfl) opr_all (by rfl) T.z_all (by decide +kernel) (oa_cons (do_of (dx_lc (own := [("one", 2)]) rfl rfl sc_check_answers.nd (di_any (dx_var (pv 1))) (blkOk_by (by kernel_rfl)) (fun _ _ _ _ _ => (dg_name (i := 2) (nin rfl) sc_check_answers.nd rfl (.inl rfl))) (fun _ _ _ _ _ => dts_nil) (fun _ _ _ _ _ => (dx_call (okq (ok_is_answer T)) (hr.mono (by decide)) (by rfl) T.g_is_answer T.F_is_answer.kp (bd_is_answer T) pass0 (fun _ _ z => z) (a_cons (dx_var (pv 0)) (a_cons (dx_var (pv 2)) a_nil)) (len_cns (len_cns len_nil)))))) oa_nil))))))) (dss_one (ds_raise (c := 13) tk rfl rfl T.x_InvalidAnswers T.g_InvalidAnswers T.k_InvalidAnswers (raises_own T.b_InvalidAnswers T.t_InvalidAnswers) (by rfl))) dss_nil)))
theorem bd_agreeing_codes (T : Tx K mg) : Binds K T.d_agreeing_codes ["length", "answers"] [] := T.F_agreeing_codes.bindsN fun _ _ _ _ _ _ us hl => match us, hl with | [_, _], _ => rfl
theorem ok_agreeing_codes (T : Tx K mg) : FnOk P w K mg base (L2N.CX P w) 5 (He.ga K "agreeing_codes") T.d_agreeing_codes ["length", "answers"] (spP K (EE1 K) 2 D_agreeing_codes) :=
  okE (N := N_agreeing_codes) T.F_agreeing_codes sc_agreeing_codes rfl fun _ _ _ _ _ _ hr tk TK =>
  (dss_cons (ds_expr (dx_call (ok_check_answers T) (hr.mono (by decide)) (by rfl) T.g_check_answers T.F_check_answers.kp (bd_check_answers T) TK.ps (fun _ _ z => z) (a_cons (dx_var (pv 0)) (a_cons (dx_var (pv 1)) a_nil)) (len_cns (len_cns len_nil))))
  (dss_one (ds_ret (dx_call (ok_agreeing T) (hr.mono (by decide)) (by rfl) T.g_agreeing T.F_agreeing.kp (bd_agreeing T) TK.ps (fun _ _ z => z) (a_cons (dx_var (pv 0)) (a_cons (dx_var (pv 1)) a_nil)) (len_cns (len_cns len_nil))))))
theorem bd_known_words (T : Tx K mg) : Binds K T.d_known_words ["length", "answers"] [] := T.F_known_words.bindsN fun _ _ _ _ _ _ us hl => match us, hl with | [_, _], _ => rfl
theorem ok_known_words (T : Tx K mg) : FnOk P w K mg base (L2N.CX P w) 5 (He.ga K "known_words") T.d_known_words ["length", "answers"] (spP K (EE1 K) 2 D_known_words) :=
  okE (N := N_known_words) T.F_known_words sc_known_words rfl fun _ _ _ _ _ _ hr tk TK =>
  (dss_cons (ds_expr (dx_call (ok_check_answers T) (hr.mono (by decide)) (by rfl) T.g_check_answers T.F_check_answers.kp (bd_check_answers T) TK.ps (fun _ _ z => z) (a_cons (dx_var (pv 0)) (a_cons (dx_var (pv 1)) a_nil)) (len_cns (len_cns len_nil))))
  (dss_cons (ds_par (i := 3) (j := 4) (nin rfl) (nin rfl) rfl sc_known_words.nd rfl rfl (by decide) rfl rfl (ma_val (dx_call (ok_agreeing T) (hr.mono (by decide)) (by rfl) T.g_agreeing T.F_agreeing.kp (bd_agreeing T) TK.ps (fun _ _ z => z) (a_cons (dx_var (pv 0)) (a_cons (dx_var (pv 1)) a_nil)) (len_cns (len_cns len_nil))) (ma_own (df_lst a_nil) ma_nil)) (by rfl))
  (dss_cons (ds_if (dt_cmp (op_eqD hr.units) opr_eq (do_var (pv 3)) (do_of (dx_lst a_nil)) (nomark _)) (dss_one (ds_raise (c := 13) tk rfl rfl T.x_InvalidAnswers T.g_InvalidAnswers T.k_InvalidAnswers (raises_own T.b_InvalidAnswers T.t_InvalidAnswers) (by rfl))) dss_nil)
  (dss_cons (ds_for TK.po rfl (di_any (dx_call (ok_all_words T) (hr.mono (by decide)) (by rfl) T.g_all_words T.F_all_words.kp (bd_all_words T) TK.ps (fun _ _ z => z) (a_cons (dx_var (pv 0)) a_nil) (len_cns len_nil))) (dg_name (i := 2) (nin rfl) sc_known_words.nd rfl (.inr rfl)) (dss_cons (ds_setLc (own := [("code", 6)]) (i := 5) (nin rfl) rfl rfl sc_known_words.nd rfl rfl (sw_true rfl rfl rfl (by decide +kernel)) (di_any (dx_var (pv 3))) (blkOk_by (by kernel_rfl)) (fun _ _ _ _ _ => (dg_name (i := 6) (nin rfl) sc_known_words.nd rfl (.inl rfl))) (fun _ _ _ _ _ => dts_nil) (fun _ _ _ _ _ => (dx_cmp (op_notInX (hu65 hr)) opr_notIn (do_of (dx_str (l := [49]) (by decide +kernel) (by decide +kernel))) (do_of (dx_call (okq (ok_remainder T)) (hr.mono (by decide)) (by rfl) T.g_remainder T.F_remainder.kp (bd_remainder T) pass0 (fun _ _ z => z) (a_cons (dx_ix (do_var (pv 6)) (do_of dx_int) (fun _ _ => rfl)) (a_cons (dx_var (pv 2)) a_nil)) (len_cns (len_cns len_nil)))) rfl)))
  (dss_one (ds_if (PW.pt (dw_or (dt_val (dx_callB (cr_all rfl) opr_all (by rfl) T.z_all (by decide +kernel) (oa_cons (do_var (pv 5)) oa_nil))) (dw_or1 (dt_not (dt_val (dx_callB (cr_any rfl) opr_any (by rfl) T.z_any (by decide +kernel) (oa_cons (do_var (pv 5)) oa_nil))))))) (dss_one (ds_app (pv 4) (dx_tup (a_cons (dx_var (pv 2)) (a_cons (dx_ix (do_var (pv 5)) (do_of dx_int) (fun _ _ => rfl)) a_nil))))) dss_nil))))
  (dss_one (ds_ret (dx_var (pv 4))))))))
theorem bd__law_cell_at (T : Tx K mg) : Binds K T.d__law_cell_at ["script", "k"] [] := T.F__law_cell_at.bindsN fun _ _ _ _ _ _ us hl => match us, hl with | [_, _], _ => rfl
theorem ok__law_cell_at (T : Tx K mg) : FnOk P w K mg base (L2N.CX P w) 1 (He.ga K "_law_cell_at") T.d__law_cell_at ["script", "k"] (spP K (EE1 K) 2 D__law_cell_at) :=
  okE (N := N__law_cell_at) T.F__law_cell_at sc__law_cell_at rfl fun _ _ _ _ _ _ hr tk TK =>
  (dss_cons (ds_if (dt_cmp op_ltA opr_lt (do_var (pv 1)) (do_of (dx_callB call_lenX opr_len (by rfl) T.z_len (by decide +kernel) (oa_cons (do_var (pv 0)) oa_nil))) (nomark _)) (dss_one (ds_ret (dx_ix (do_var (pv 0)) (do_var (pv 1)) (fun _ _ => rfl)))) dss_nil)
  (dss_cons (ds_if (dt_cmp (op_eqD hr.units) opr_eq (do_var (pv 0)) (do_of (dx_lst a_nil)) (nomark _)) (dss_one (ds_ret dx_int)) dss_nil)
  (dss_cons (ds_set (i := 2) (nin rfl) sc__law_cell_at.nd rfl (.inl rfl) (dx_ix (do_var (pv 0)) (do_of (dx_bin op_mod opr_mod (do_var (pv 1)) (do_of (dx_callB call_lenX opr_len (by rfl) T.z_len (by decide +kernel) (oa_cons (do_var (pv 0)) oa_nil))))) (fun _ _ => rfl)))
  (dss_cons (ds_for TK.po rfl (di_rng1 (by rfl) T.z_range (a_cons (dx_callB (call_min2 rfl) opr_min2 (by rfl) T.z_min (by decide +kernel) (oa_cons (do_of (dx_bin op_fdiv opr_div (do_var (pv 1)) (do_of (dx_callB call_lenX opr_len (by rfl) T.z_len (by decide +kernel) (oa_cons (do_var (pv 0)) oa_nil))))) (oa_cons (do_of dx_int) oa_nil))) a_nil)) (dg_name (i := 3) (nin rfl) sc__law_cell_at.nd rfl (.inl rfl)) (dss_one (ds_set (i := 2) (nin rfl) sc__law_cell_at.nd rfl (.inl rfl) (dx_bin op_fdiv opr_div (do_var (pv 2)) (do_of dx_int)))))
  (dss_one (ds_ret (dx_bin op_addA opr_add (do_of (dx_bin op_addA opr_add (do_of (dx_bin op_mulA opr_mul (do_of (dx_ix (do_var (pv 0)) (do_of (dx_bin op_mod opr_mod (do_var (pv 1)) (do_of (dx_callB call_lenX opr_len (by rfl) T.z_len (by decide +kernel) (oa_cons (do_var (pv 0)) oa_nil))))) (fun _ _ => rfl))) (do_of dx_int))) (do_var (pv 1)))) (do_of (dx_bin op_mulA opr_mul (do_var (pv 2)) (do_of dx_int))))))))))
theorem bd__law_mixed (T : Tx K mg) : Binds K T.d__law_mixed ["script", "k", "bound"] [] := T.F__law_mixed.bindsN fun _ _ _ _ _ _ us hl => match us, hl with | [_, _, _], _ => rfl
theorem ok__law_mixed (T : Tx K mg) : FnOk P w K mg base (L2N.CX P w) 2 (He.ga K "_law_mixed") T.d__law_mixed ["script", "k", "bound"] (spP K (EE1 K) 3 D__law_mixed) :=
  okE (N := N__law_mixed) T.F__law_mixed sc__law_mixed rfl fun _ _ _ _ _ _ hr tk TK =>
  (dss_cons (ds_set (i := 3) (nin rfl) sc__law_mixed.nd rfl (.inl rfl) (dx_bin op_mod opr_mod (do_of (dx_bin op_addA opr_add (do_of (dx_bin op_addA opr_add (do_of (dx_bin op_mulA opr_mul (do_of (dx_call (ok__law_cell_at T) (hr.mono (by decide)) (by rfl) T.g__law_cell_at T.F__law_cell_at.kp (bd__law_cell_at T) TK.ps (fun _ _ z => z) (a_cons (dx_var (pv 0)) (a_cons (dx_var (pv 1)) a_nil)) (len_cns (len_cns len_nil)))) (do_of dx_int))) (do_of (dx_bin op_mulA opr_mul (do_of dx_int) (do_var (pv 1)))))) (do_of dx_int))) (do_of dx_int)))
  (dss_one (ds_ret (dx_bin op_mod opr_mod (do_of (dx_bin op_mod opr_mod (do_of (dx_bin op_mod opr_mod (do_of (dx_bin op_pow opr_pow (do_var (pv 3)) (do_of dx_int))) (do_of dx_int))) (do_of dx_int))) (do_var (pv 2))))))
theorem bd__law_draw (T : Tx K mg) : Binds K T.d__law_draw ["script", "town", "bound"] [] := T.F__law_draw.bindsN fun _ _ _ _ _ _ us hl => match us, hl with | [_, _, _], _ => rfl
theorem ok__law_draw (T : Tx K mg) : FnOk P w K mg base (L2N.CX P w) 3 (He.ga K "_law_draw") T.d__law_draw ["script", "town", "bound"] (spR K (EE1 K) 3 1 D__law_draw) :=
  okER (N := N__law_draw) T.F__law_draw sc__law_draw rfl fun _ _ _ _ _ _ hr tk TK =>
  (dss_cons (ds_app (pv 1) dx_int)
  (dss_one (ds_ret (dx_call (ok__law_mixed T) (hr.mono (by decide)) (by rfl) T.g__law_mixed T.F__law_mixed.kp (bd__law_mixed T) TK.ps (fun _ _ z => z) (a_cons (dx_var (pv 0)) (a_cons (dx_callB call_lenX opr_len (by rfl) T.z_len (by decide +kernel) (oa_cons (do_var (pv 1)) oa_nil)) (a_cons (dx_var (pv 2)) a_nil))) (len_cns (len_cns (len_cns len_nil)))))))
theorem bd__law_pick (T : Tx K mg) : Binds K T.d__law_pick ["script", "town", "some"] [] := T.F__law_pick.bindsN fun _ _ _ _ _ _ us hl => match us, hl with | [_, _, _], _ => rfl
theorem ok__law_pick (T : Tx K mg) : FnOk P w K mg base (L2N.CX P w) 4 (He.ga K "_law_pick") T.d__law_pick ["script", "town", "some"] (spR K (EE1 K) 3 1 D__law_pick) :=
  okER (N := N__law_pick) T.F__law_pick sc__law_pick rfl fun _ _ _ _ _ _ hr tk TK =>
  (dss_one (ds_ret (dx_ix (do_var (pv 2)) (do_of (dx_callR (ok__law_draw T) (hr.mono (by decide)) (by rfl) T.g__law_draw T.F__law_draw.kp (bd__law_draw T) TK.ps (fun _ _ z => z) (oa_cons (do_of (dx_var (pv 0))) (oa_cons (do_var (pv 1)) (oa_cons (do_of (dx_callB call_lenX opr_len (by rfl) T.z_len (by decide +kernel) (oa_cons (do_var (pv 2)) oa_nil))) oa_nil))) (len_cns (len_cns (len_cns len_nil))))) (fun _ _ => rfl))))
theorem bd__law_word (T : Tx K mg) : Binds K T.d__law_word ["script", "town", "length"] [] := T.F__law_word.bindsN fun _ _ _ _ _ _ us hl => match us, hl with | [_, _, _], _ => rfl
theorem ok__law_word (T : Tx K mg) : FnOk P w K mg base (L2N.CX P w) 5 (He.ga K "_law_word") T.d__law_word ["script", "town", "length"] (spR K (EE1 K) 3 1 D__law_word) :=
  okER (N := N__law_word) T.F__law_word sc__law_word rfl fun _ _ _ _ _ _ hr tk TK =>
  (dss_one (ds_ret (dx_meth PySem.F.slot_str_join PySem.F.type_str_join mt_join opr_join (do_of (dx_str (l := []) (by decide +kernel) (by decide +kernel))) (oa_cons (do_of (dx_lc (own := [("position", 3)]) rfl rfl sc__law_word.nd (di_rng1 (by rfl) T.z_range (a_cons (dx_var (pv 2)) a_nil)) (blkOk_by (by kernel_rfl)) (fun _ _ _ _ _ => (dg_name (i := 3) (nin rfl) sc__law_word.nd rfl (.inl rfl))) (fun _ _ _ _ _ => dts_nil) (fun _ _ _ _ _ => (dx_callR (okqR (ok__law_pick T)) (hr.mono (by decide)) (by rfl) T.g__law_pick T.F__law_pick.kp (bd__law_pick T) pass0 (fun _ _ z => z) (oa_cons (do_of (dx_var (pv 0))) (oa_cons (do_var (pv 1)) (oa_cons (do_of (dx_lst (a_cons (dx_str (l := [48]) (by decide +kernel) (by decide +kernel)) (a_cons (dx_str (l := [49]) (by decide +kernel) (by decide +kernel)) a_nil)))) oa_nil))) (len_cns (len_cns (len_cns len_nil))))))) oa_nil))))
theorem bd__law_all_words (T : Tx K mg) : Binds K T.d__law_all_words ["length"] [] := T.F__law_all_words.bindsN fun _ _ _ _ _ _ us hl => match us, hl with | [_], _ => rfl
theorem ok__law_all_words (T : Tx K mg) : FnOk P w K mg base (L2N.CX P w) 1 (He.ga K "_law_all_words") T.d__law_all_words ["length"] (spP K (EE1 K) 1 D__law_all_words) :=
  okE (N := N__law_all_words) T.F__law_all_words sc__law_all_words rfl fun _ _ _ _ _ _ hr tk TK =>
  (dss_cons (ds_set (i := 1) (nin rfl) sc__law_all_words.nd rfl (.inl rfl) (dx_lst (a_cons (dx_str (l := []) (by decide +kernel) (by decide +kernel)) a_nil)))
  (dss_cons (ds_for TK.po rfl (di_rng1 (by rfl) T.z_range (a_cons (dx_var (pv 0)) a_nil)) (dg_name (i := 2) (nin rfl) sc__law_all_words.nd rfl (.inl rfl)) (dss_cons (ds_setO (i := 3) (nin rfl) sc__law_all_words.nd rfl (.inl rfl) (df_lst a_nil))
  (dss_cons (ds_for TK.po rfl (di_any (dx_var (pv 1))) (dg_name (i := 4) (nin rfl) sc__law_all_words.nd rfl (.inl rfl)) (dss_one (ds_ext (pv 3) (dx_lst (a_cons (dx_bin op_addA opr_add (do_var (pv 4)) (do_of (dx_str (l := [48]) (by decide +kernel) (by decide +kernel)))) (a_cons (dx_bin op_addA opr_add (do_var (pv 4)) (do_of (dx_str (l := [49]) (by decide +kernel) (by decide +kernel)))) a_nil))))))
  (dss_one (ds_set (i := 1) (nin rfl) sc__law_all_words.nd rfl (.inl rfl) (dx_var (pv 3)))))))
  (dss_one (ds_ret (dx_var (pv 1))))))
theorem bd__law_plus (T : Tx K mg) : Binds K T.d__law_plus ["left", "right"] [] := T.F__law_plus.bindsN fun _ _ _ _ _ _ us hl => match us, hl with | [_, _], _ => rfl
theorem ok__law_plus (T : Tx K mg) : FnOk P w K mg base (L2N.CX P w) 1 (He.ga K "_law_plus") T.d__law_plus ["left", "right"] (spP K (EE1 K) 2 D__law_plus) :=
  okE (N := N__law_plus) T.F__law_plus sc__law_plus rfl fun _ _ _ _ _ _ hr tk TK =>
  (dss_one (ds_ret (dx_meth PySem.F.slot_str_join PySem.F.type_str_join mt_join opr_join (do_of (dx_str (l := []) (by decide +kernel) (by decide +kernel))) (oa_cons (do_of (dx_lc (own := [("one", 2), ("other", 3)]) rfl rfl sc__law_plus.nd (di_zip (by rfl) T.z_zip (a_cons (dx_var (pv 0)) (a_cons (dx_var (pv 1)) a_nil))) (blkOk_by (by kernel_rfl)) (fun _ _ _ _ _ => (dg_tup (n := 2) rfl rfl (dgs_cons (dg_name (i := 2) (nin rfl) sc__law_plus.nd rfl (.inl rfl)) (dgs_cons (dg_name (i := 3) (nin rfl) sc__law_plus.nd rfl (.inl rfl)) dgs_nil)))) (fun _ _ _ _ _ => dts_nil) (fun _ _ _ _ _ => (dx_callT call_strX opr_str (by rfl) T.z_str (by decide +kernel) (oa_cons (do_of (dx_callT call_int1 opr_int (by rfl) T.z_int (by decide +kernel) (oa_cons (do_of (dx_cmp (op_neD hr.units) opr_ne (do_var (pv 2)) (do_var (pv 3)) (nomark _))) oa_nil))) oa_nil))))) oa_nil))))
theorem bd__law_closure (T : Tx K mg) : Binds K T.d__law_closure ["length", "given"] [] := T.F__law_closure.bindsN fun _ _ _ _ _ _ us hl => match us, hl with | [_, _], _ => rfl
theorem ok__law_closure (T : Tx K mg) : FnOk P w K mg base (L2N.CX P w) 2 (He.ga K "_law_closure") T.d__law_closure ["length", "given"] (spP K (EE1 K) 2 D__law_closure) :=
  okE (N := N__law_closure) T.F__law_closure sc__law_closure rfl fun _ _ _ _ _ _ hr tk TK =>
  (dss_cons (ds_setO (i := 2) (nin rfl) sc__law_closure.nd rfl (.inl rfl) (df_dict1 (hu1 hr) (dx_bin op_mulA opr_mul (do_of (dx_str (l := [48]) (by decide +kernel) (by decide +kernel))) (do_var (pv 0))) dx_bl))
  (dss_cons (ds_for TK.po rfl (di_any (dx_var (pv 1))) (dg_name (i := 3) (nin rfl) sc__law_closure.nd rfl (.inl rfl)) (dss_one (ds_if (dt_cmp (op_notInX (hu65 hr)) opr_notIn (do_var (pv 3)) (do_var (pv 2)) rfl) (dss_one (ds_for TK.po rfl (di_any (dx_callT (call_listX rfl) opr_list (by rfl) T.z_list (by decide +kernel) (oa_cons (do_var (pv 2)) oa_nil))) (dg_name (i := 4) (nin rfl) sc__law_closure.nd rfl (.inl rfl)) (dss_one (ds_putD (hu1 hr) (pv 2) (dx_call (ok__law_plus T) (hr.mono (by decide)) (by rfl) T.g__law_plus T.F__law_plus.kp (bd__law_plus T) TK.ps (fun _ _ z => z) (a_cons (dx_var (pv 3)) (a_cons (dx_var (pv 4)) a_nil)) (len_cns (len_cns len_nil))) dx_bl)))) dss_nil)))
  (dss_one (ds_ret (dx_callB call_sortX opr_sort (by rfl) T.z_sorted (by decide +kernel) (oa_cons (do_of (dx_callT (call_listX rfl) opr_list (by rfl) T.z_list (by decide +kernel) (oa_cons (do_var (pv 2)) oa_nil))) oa_nil))))))
theorem bd__law_words_in (T : Tx K mg) : Binds K T.d__law_words_in ["code"] [] := T.F__law_words_in.bindsN fun _ _ _ _ _ _ us hl => match us, hl with | [_], _ => rfl
theorem ok__law_words_in (T : Tx K mg) : FnOk P w K mg base (L2N.CX P w) 3 (He.ga K "_law_words_in") T.d__law_words_in ["code"] (spP K (EE1 K) 1 D__law_words_in) :=
  okE (N := N__law_words_in) T.F__law_words_in sc__law_words_in rfl fun _ _ _ _ _ _ hr tk TK =>
  (dss_one (ds_ret (dx_call (ok__law_closure T) (hr.mono (by decide)) (by rfl) T.g__law_closure T.F__law_closure.kp (bd__law_closure T) TK.ps (fun _ _ z => z) (a_cons (dx_ix (do_var (pv 0)) (do_of dx_int) (fun _ _ => rfl)) (a_cons (dx_callT (call_listX rfl) opr_list (by rfl) T.z_list (by decide +kernel) (oa_cons (do_of (dx_ix (do_var (pv 0)) (do_of dx_int) (fun _ _ => rfl))) oa_nil)) a_nil)) (len_cns (len_cns len_nil)))))
theorem bd__law_which (T : Tx K mg) : Binds K T.d__law_which ["e"] [] := T.F__law_which.bindsN fun _ _ _ _ _ _ us hl => match us, hl with | [_], _ => rfl
theorem ok__law_which (T : Tx K mg) : FnX P w K mg base 1 (He.ga K "_law_which") T.d__law_which ["e"] (spW K) :=
  okWh (N := N__law_which) (k := 0) T.F__law_which sc__law_which which_val fun _ _ _ _ _ _ p c hf hc hz hr =>
  have hp : p ∈ [p] := List.mem_cons_self
  (fun (a : Nat) (ea : p.1 = a) => by subst ea; exact
  (dss_cons (ds_setO (i := 1) (nin rfl) sc__law_which.nd rfl (.inl rfl) (df_lst (a_cons (dx_isE (b := c == 0) hp (T.e_exc c hc) hz hf (c := .ref (He.ga K "InvalidLength")) (cv := .ref (He.ga K "InvalidLength")) (fun _ z => z) (T.i_exc c 0 hc (by decide)) (by rfl) T.z_isinstance (pe_glob (v := .ref (He.ga K "InvalidLength")) (by rfl) T.g_InvalidLength rfl (by decide)) (pv 0)) (a_cons (dx_isE (b := c == 1) hp (T.e_exc c hc) hz hf (c := .ref (He.ga K "InvalidWord")) (cv := .ref (He.ga K "InvalidWord")) (fun _ z => z) (T.i_exc c 1 hc (by decide)) (by rfl) T.z_isinstance (pe_glob (v := .ref (He.ga K "InvalidWord")) (by rfl) T.g_InvalidWord rfl (by decide)) (pv 0)) (a_cons (dx_isE (b := c == 2) hp (T.e_exc c hc) hz hf (c := .ref (He.ga K "InvalidCode")) (cv := .ref (He.ga K "InvalidCode")) (fun _ z => z) (T.i_exc c 2 hc (by decide)) (by rfl) T.z_isinstance (pe_glob (v := .ref (He.ga K "InvalidCode")) (by rfl) T.g_InvalidCode rfl (by decide)) (pv 0)) a_nil)))))
  (dss_cons (ds_ext (pv 1) (dx_lst (a_cons (dx_isE (b := c == 3) hp (T.e_exc c hc) hz hf (c := .ref (He.ga K "InvalidBlock")) (cv := .ref (He.ga K "InvalidBlock")) (fun _ z => z) (T.i_exc c 3 hc (by decide)) (by rfl) T.z_isinstance (pe_glob (v := .ref (He.ga K "InvalidBlock")) (by rfl) T.g_InvalidBlock rfl (by decide)) (pv 0)) (a_cons (dx_isE (b := c == 4) hp (T.e_exc c hc) hz hf (c := .ref (He.ga K "InvalidCounts")) (cv := .ref (He.ga K "InvalidCounts")) (fun _ z => z) (T.i_exc c 4 hc (by decide)) (by rfl) T.z_isinstance (pe_glob (v := .ref (He.ga K "InvalidCounts")) (by rfl) T.g_InvalidCounts rfl (by decide)) (pv 0)) (a_cons (dx_isE (b := c == 5) hp (T.e_exc c hc) hz hf (c := .ref (He.ga K "InvalidIndex")) (cv := .ref (He.ga K "InvalidIndex")) (fun _ z => z) (T.i_exc c 5 hc (by decide)) (by rfl) T.z_isinstance (pe_glob (v := .ref (He.ga K "InvalidIndex")) (by rfl) T.g_InvalidIndex rfl (by decide)) (pv 0)) a_nil)))))
  (dss_cons (ds_ext (pv 1) (dx_lst (a_cons (dx_isE (b := c == 6) hp (T.e_exc c hc) hz hf (c := .ref (He.ga K "InvalidPosition")) (cv := .ref (He.ga K "InvalidPosition")) (fun _ z => z) (T.i_exc c 6 hc (by decide)) (by rfl) T.z_isinstance (pe_glob (v := .ref (He.ga K "InvalidPosition")) (by rfl) T.g_InvalidPosition rfl (by decide)) (pv 0)) (a_cons (dx_isE (b := c == 7) hp (T.e_exc c hc) hz hf (c := .ref (He.ga K "InvalidOrder")) (cv := .ref (He.ga K "InvalidOrder")) (fun _ z => z) (T.i_exc c 7 hc (by decide)) (by rfl) T.z_isinstance (pe_glob (v := .ref (He.ga K "InvalidOrder")) (by rfl) T.g_InvalidOrder rfl (by decide)) (pv 0)) (a_cons (dx_isE (b := c == 8) hp (T.e_exc c hc) hz hf (c := .ref (He.ga K "TooLong")) (cv := .ref (He.ga K "TooLong")) (fun _ z => z) (T.i_exc c 8 hc (by decide)) (by rfl) T.z_isinstance (pe_glob (v := .ref (He.ga K "TooLong")) (by rfl) T.g_TooLong rfl (by decide)) (pv 0)) a_nil)))))
  (dss_cons (ds_ext (pv 1) (dx_lst (a_cons (dx_isE (b := c == 9) hp (T.e_exc c hc) hz hf (c := .ref (He.ga K "NoWords")) (cv := .ref (He.ga K "NoWords")) (fun _ z => z) (T.i_exc c 9 hc (by decide)) (by rfl) T.z_isinstance (pe_glob (v := .ref (He.ga K "NoWords")) (by rfl) T.g_NoWords rfl (by decide)) (pv 0)) (a_cons (dx_isE (b := c == 10) hp (T.e_exc c hc) hz hf (c := .ref (He.ga K "InvalidDistance")) (cv := .ref (He.ga K "InvalidDistance")) (fun _ z => z) (T.i_exc c 10 hc (by decide)) (by rfl) T.z_isinstance (pe_glob (v := .ref (He.ga K "InvalidDistance")) (by rfl) T.g_InvalidDistance rfl (by decide)) (pv 0)) (a_cons (dx_isE (b := c == 11) hp (T.e_exc c hc) hz hf (c := .ref (He.ga K "InvalidPartial")) (cv := .ref (He.ga K "InvalidPartial")) (fun _ z => z) (T.i_exc c 11 hc (by decide)) (by rfl) T.z_isinstance (pe_glob (v := .ref (He.ga K "InvalidPartial")) (by rfl) T.g_InvalidPartial rfl (by decide)) (pv 0)) a_nil)))))
  (dss_cons (ds_ext (pv 1) (dx_lst (a_cons (dx_isE (b := c == 12) hp (T.e_exc c hc) hz hf (c := .ref (He.ga K "Underdetermined")) (cv := .ref (He.ga K "Underdetermined")) (fun _ z => z) (T.i_exc c 12 hc (by decide)) (by rfl) T.z_isinstance (pe_glob (v := .ref (He.ga K "Underdetermined")) (by rfl) T.g_Underdetermined rfl (by decide)) (pv 0)) (a_cons (dx_isE (b := c == 13) hp (T.e_exc c hc) hz hf (c := .ref (He.ga K "InvalidAnswers")) (cv := .ref (He.ga K "InvalidAnswers")) (fun _ z => z) (T.i_exc c 13 hc (by decide)) (by rfl) T.z_isinstance (pe_glob (v := .ref (He.ga K "InvalidAnswers")) (by rfl) T.g_InvalidAnswers rfl (by decide)) (pv 0)) (a_cons (dx_isE (b := c == 14) hp (T.e_exc c hc) hz hf (c := .ref (He.ga K "ParseError")) (cv := .ref (He.ga K "ParseError")) (fun _ z => z) (T.i_exc c 14 hc (by decide)) (by rfl) T.z_isinstance (pe_glob (v := .ref (He.ga K "ParseError")) (by rfl) T.g_ParseError rfl (by decide)) (pv 0)) a_nil)))))
  (dss_cons (ds_app (pv 1) (dx_isE (b := c == 15) hp (T.e_exc c hc) hz hf (c := .ref (He.ga K "NothingToUndo")) (cv := .ref (He.ga K "NothingToUndo")) (fun _ z => z) (T.i_exc c 15 hc (by decide)) (by rfl) T.z_isinstance (pe_glob (v := .ref (He.ga K "NothingToUndo")) (by rfl) T.g_NothingToUndo rfl (by decide)) (pv 0)))
  (dss_cons (ds_if (PW.pt (dw_or (dt_cmp (op_neD (huH hr)) opr_ne (do_of (dx_methL PySem.F.slot_list_count PySem.F.type_list_count mt_countF opr_cntL (do_var (pv 1)) (oa_cons (do_of dx_bl) oa_nil))) (do_of dx_int) (nomark _)) (dw_or1 (dt_not (dt_val (dx_isE (b := true) hp (T.e_exc c hc) hz hf (c := .ty "ValueError") (cv := .type "ValueError") (fun _ z => z) (T.v_exc c hc) (by rfl) T.z_isinstance (pe_bltn (v := .ty "ValueError") (by rfl) T.z_ValueError (by decide +kernel) rfl (by decide) (by decide)) (pv 0))))))) (dss_one (ds_ret (dx_tup (a_cons (dx_str (l := [114, 97, 105, 115, 101, 100]) (by decide +kernel) (by decide +kernel)) (a_cons (dx_un un_neg opr_neg (do_of dx_int)) a_nil))))) dss_nil)
  (dss_one (ds_ret (dx_tup (a_cons (dx_str (l := [114, 97, 105, 115, 101, 100]) (by decide +kernel) (by decide +kernel)) (a_cons (dx_methL PySem.F.slot_list_index PySem.F.type_list_index mt_index opr_idxL (do_var (pv 1)) (oa_cons (do_of dx_bl) oa_nil)) a_nil))))))))))))) p.1 rfl
theorem bd__law_ask (T : Tx K mg) : Binds K T.d__law_ask ["length", "answers"] [] := T.F__law_ask.bindsN fun _ _ _ _ _ _ us hl => match us, hl with | [_, _], _ => rfl
theorem ok__law_ask (T : Tx K mg) : FnOk P w K mg base (L2N.CX P w) 6 (He.ga K "_law_ask") T.d__law_ask ["length", "answers"] (spP K (EE1 K) 2 D__law_ask) :=
  okE (N := N__law_ask) T.F__law_ask sc__law_ask rfl fun _ _ _ _ _ _ hr tk TK =>
  (dss_one (ds_try (i := 2) rfl rfl sc__law_ask.nd rfl rfl ⟨by rfl, by decide, .inl T.g_CodeError⟩ T.m_exc (hr.mono (by decide)) (ok__law_which T) (by rfl) T.g__law_which T.F__law_which.kp (bd__law_which T) (fun _ _ _ => pv 2) (fun _ _ _ TK => (dss_one (ds_ret (dx_call (ok_known_words T) (hr.mono (by decide)) (by rfl) T.g_known_words T.F_known_words.kp (bd_known_words T) TK.ps (fun _ _ z => z) (a_cons (dx_var (pv 0)) (a_cons (dx_var (pv 1)) a_nil)) (len_cns (len_cns len_nil))))))))
theorem bd_law (T : Tx K mg) : Binds K T.d_law ["script"] [] := T.F_law.bindsN fun _ _ _ _ _ _ us hl => match us, hl with | [_], _ => rfl
theorem ok_law (T : Tx K mg) : FnOk P w K mg base (L2N.CX P w) 7 (He.ga K "law") T.d_law ["script"] (spP K (EE1 K) 1 D_law) :=
  okE (N := N_law) T.F_law sc_law rfl fun _ _ _ _ _ _ hr tk TK =>
  (dss_cons (ds_setO (i := 1) (nin rfl) sc_law.nd rfl (.inl rfl) (df_lst a_nil))
  (dss_cons (ds_set (i := 2) (nin rfl) sc_law.nd rfl (.inl rfl) (dx_bin op_addA opr_add (do_of dx_int) (do_of (dx_callR (ok__law_draw T) (hr.mono (by decide)) (by rfl) T.g__law_draw T.F__law_draw.kp (bd__law_draw T) TK.ps (fun _ _ z => z) (oa_cons (do_of (dx_var (pv 0))) (oa_cons (do_var (pv 1)) (oa_cons (do_of (dx_if (dt_cmp (op_eqD hr.units) opr_eq (do_of (dx_callR (ok__law_draw T) (hr.mono (by decide)) (by rfl) T.g__law_draw T.F__law_draw.kp (bd__law_draw T) TK.ps (fun _ _ z => z) (oa_cons (do_of (dx_var (pv 0))) (oa_cons (do_var (pv 1)) (oa_cons (do_of dx_int) oa_nil))) (len_cns (len_cns (len_cns len_nil))))) (do_of dx_int) (nomark _)) dx_int dx_int)) oa_nil))) (len_cns (len_cns (len_cns len_nil)))))))
  (dss_cons (ds_set (i := 3) (nin rfl) sc_law.nd rfl (.inl rfl) (dx_call (ok_all_codes T) (hr.mono (by decide)) (by rfl) T.g_all_codes T.F_all_codes.kp (bd_all_codes T) TK.ps (fun _ _ z => z) (a_cons (dx_var (pv 2)) a_nil) (len_cns len_nil)))
  (dss_cons (ds_set (i := 4) (nin rfl) sc_law.nd rfl (.inl rfl) (dx_callR (ok__law_pick T) (hr.mono (by decide)) (by rfl) T.g__law_pick T.F__law_pick.kp (bd__law_pick T) TK.ps (fun _ _ z => z) (oa_cons (do_of (dx_var (pv 0))) (oa_cons (do_var (pv 1)) (oa_cons (do_of (dx_var (pv 3))) oa_nil))) (len_cns (len_cns (len_cns len_nil)))))
  (dss_cons (ds_parN (is := [14, 15]) (n := 2) (nins rfl) rfl (by decide) rfl (gn_cons (pg_name (i := 14) sc_law.nd rfl (.inr rfl)) (gn_cons (pg_name (i := 15) sc_law.nd rfl (.inl rfl)) gn_nil)) (ma_val (dx_call (ok__law_words_in T) (hr.mono (by decide)) (by rfl) T.g__law_words_in T.F__law_words_in.kp (bd__law_words_in T) TK.ps (fun _ _ z => z) (a_cons (dx_var (pv 4)) a_nil) (len_cns len_nil)) (ma_own (df_lst a_nil) ma_nil)))
  (dss_cons (ds_for TK.po rfl (di_rng1 (by rfl) T.z_range (a_cons (dx_callR (ok__law_draw T) (hr.mono (by decide)) (by rfl) T.g__law_draw T.F__law_draw.kp (bd__law_draw T) TK.ps (fun _ _ z => z) (oa_cons (do_of (dx_var (pv 0))) (oa_cons (do_var (pv 1)) (oa_cons (do_of dx_int) oa_nil))) (len_cns (len_cns (len_cns len_nil)))) a_nil)) (dg_name (i := 5) (nin rfl) sc_law.nd rfl (.inl rfl)) (dss_cons (ds_set (i := 11) (nin rfl) sc_law.nd rfl (.inr rfl) (dx_callR (ok__law_word T) (hr.mono (by decide)) (by rfl) T.g__law_word T.F__law_word.kp (bd__law_word T) TK.ps (fun _ _ z => z) (oa_cons (do_of (dx_var (pv 0))) (oa_cons (do_var (pv 1)) (oa_cons (do_of (dx_var (pv 2))) oa_nil))) (len_cns (len_cns (len_cns len_nil)))))
  (dss_one (ds_app (pv 15) (dx_tup (a_cons (dx_var (pv 11)) (a_cons (dx_cmp (op_inX (hu65 hr)) opr_in (do_var (pv 11)) (do_var (pv 14)) rfl) a_nil)))))))
  (dss_cons (ds_if (PW.pt (dw_and (dt_cmp (op_neD hr.units) opr_ne (do_var (pv 15)) (do_of (dx_lst a_nil)) (nomark _)) (dw_and1 (dt_cmp (op_eqD hr.units) opr_eq (do_of (dx_callR (ok__law_draw T) (hr.mono (by decide)) (by rfl) T.g__law_draw T.F__law_draw.kp (bd__law_draw T) TK.ps (fun _ _ z => z) (oa_cons (do_of (dx_var (pv 0))) (oa_cons (do_var (pv 1)) (oa_cons (do_of dx_int) oa_nil))) (len_cns (len_cns (len_cns len_nil))))) (do_of dx_int) (nomark _))))) (dss_one (ds_app (pv 15) (dx_tup (a_cons (dx_ix (do_of (dx_ix (do_var (pv 15)) (do_of dx_int) (fun _ _ => rfl))) (do_of dx_int) (fun _ _ => rfl)) (a_cons (dx_not (dx_ix (do_of (dx_ix (do_var (pv 15)) (do_of dx_int) (fun _ _ => rfl))) (do_of dx_int) (fun _ _ => rfl))) a_nil))))) dss_nil)
  (dss_cons (ds_setO (i := 6) (nin rfl) sc_law.nd rfl (.inl rfl) (df_lst a_nil))
  (dss_cons (ds_for TK.po rfl (di_any (dx_var (pv 3))) (dg_name (i := 7) (nin rfl) sc_law.nd rfl (.inl rfl)) (dss_cons (ds_set (i := 16) (nin rfl) sc_law.nd rfl (.inr rfl) (dx_call (ok__law_words_in T) (hr.mono (by decide)) (by rfl) T.g__law_words_in T.F__law_words_in.kp (bd__law_words_in T) TK.ps (fun _ _ z => z) (a_cons (dx_var (pv 7)) a_nil) (len_cns len_nil)))
  (dss_one (ds_if (dt_cmp (op_eqD hr.units) opr_eq (do_of (dx_lc (own := [("word", 11), ("answer", 18)]) rfl rfl sc_law.nd (di_any (dx_var (pv 15))) (blkOk_by (by kernel_rfl)) (fun _ _ _ _ _ => (dg_tup (n := 2) rfl rfl (dgs_cons (dg_name (i := 11) (nin rfl) sc_law.nd rfl (.inl rfl)) (dgs_cons (dg_name (i := 18) (nin rfl) sc_law.nd rfl (.inl rfl)) dgs_nil)))) (fun _ _ _ _ _ => (dts_one (dt_cmp (op_neD hr.units) opr_ne (do_of (dx_cmp (op_inX (hu65 hr)) opr_in (do_var (pv 11)) (do_var (pv 16)) rfl)) (do_var (pv 18)) (nomark _)))) (fun _ _ _ _ _ => (dx_var (pv 11))))) (do_of (dx_lst a_nil)) (nomark _)) (dss_one (ds_app (pv 6) (dx_var (pv 7)))) dss_nil))))
  (dss_cons (ds_if (dt_cmp (op_neD hr.units) opr_ne (do_of (dx_call (ok_agreeing_codes T) (hr.mono (by decide)) (by rfl) T.g_agreeing_codes T.F_agreeing_codes.kp (bd_agreeing_codes T) TK.ps (fun _ _ z => z) (a_cons (dx_var (pv 2)) (a_cons (dx_callT call_tuple_of opr_tuple (by rfl) T.z_tuple (by decide +kernel) (oa_cons (do_var (pv 15)) oa_nil)) a_nil)) (len_cns (len_cns len_nil)))) (do_var (pv 6)) (nomark _)) (dss_one (ds_ret dx_bl)) dss_nil)
  (dss_cons (ds_set (i := 8) (nin rfl) sc_law.nd rfl (.inl rfl) (dx_call (ok__law_ask T) (hr.mono (by decide)) (by rfl) T.g__law_ask T.F__law_ask.kp (bd__law_ask T) TK.ps (fun _ _ z => z) (a_cons (dx_var (pv 2)) (a_cons (dx_callT call_tuple_of opr_tuple (by rfl) T.z_tuple (by decide +kernel) (oa_cons (do_var (pv 15)) oa_nil)) a_nil)) (len_cns (len_cns len_nil))))
  (dss_cons (ds_if (dt_cmp (op_eqD hr.units) opr_eq (do_var (pv 6)) (do_of (dx_lst a_nil)) (nomark _)) (dss_one (ds_ret (dx_cmp (op_eqD hr.units) opr_eq (do_var (pv 8)) (do_of (dx_tup (a_cons (dx_str (l := [114, 97, 105, 115, 101, 100]) (by decide +kernel) (by decide +kernel)) (a_cons dx_int a_nil)))) (nomark _)))) dss_nil)
  (dss_cons (ds_setO (i := 9) (nin rfl) sc_law.nd rfl (.inl rfl) (df_lst a_nil))
  (dss_cons (ds_setLc (own := [("code", 7)]) (i := 10) (nin rfl) rfl rfl sc_law.nd rfl rfl (sw_true rfl rfl rfl (by decide +kernel)) (di_any (dx_var (pv 6))) (blkOk_by (by kernel_rfl)) (fun _ _ _ _ _ => (dg_name (i := 7) (nin rfl) sc_law.nd rfl (.inl rfl))) (fun _ _ _ _ _ => dts_nil) (fun _ _ _ _ _ => (dx_call (okq (ok__law_words_in T)) (hr.mono (by decide)) (by rfl) T.g__law_words_in T.F__law_words_in.kp (bd__law_words_in T) pass0 (fun _ _ z => z) (a_cons (dx_var (pv 7)) a_nil) (len_cns len_nil))))
  (dss_cons (ds_for TK.po rfl (di_any (dx_call (ok__law_all_words T) (hr.mono (by decide)) (by rfl) T.g__law_all_words T.F__law_all_words.kp (bd__law_all_words T) TK.ps (fun _ _ z => z) (a_cons (dx_var (pv 2)) a_nil) (len_cns len_nil))) (dg_name (i := 11) (nin rfl) sc_law.nd rfl (.inr rfl)) (dss_cons (ds_setLc (own := [("some", 16)]) (i := 17) (nin rfl) rfl rfl sc_law.nd rfl rfl (sw_true rfl rfl rfl (by decide +kernel)) (di_any (dx_var (pv 10))) (blkOk_by (by kernel_rfl)) (fun _ _ _ _ _ => (dg_name (i := 16) (nin rfl) sc_law.nd rfl (.inl rfl))) (fun _ _ _ _ _ => dts_nil) (fun _ _ _ _ _ => (dx_cmp (op_inX (hu65 hr)) opr_in (do_var (pv 11)) (do_var (pv 16)) rfl)))
  (dss_one (ds_if (PW.pt (dw_or (dt_cmp (op_notInX (hu65 hr)) opr_notIn (do_of dx_bl) (do_var (pv 17)) rfl) (dw_or1 (dt_cmp (op_notInX (hu65 hr)) opr_notIn (do_of dx_bl) (do_var (pv 17)) rfl)))) (dss_one (ds_app (pv 9) (dx_tup (a_cons (dx_var (pv 11)) (a_cons (dx_ix (do_var (pv 17)) (do_of dx_int) (fun _ _ => rfl)) a_nil))))) dss_nil))))
  (dss_cons (ds_if (dt_cmp (op_neD hr.units) opr_ne (do_var (pv 8)) (do_var (pv 9)) (nomark _)) (dss_one (ds_ret dx_bl)) dss_nil)
  (dss_cons (ds_set (i := 12) (nin rfl) sc_law.nd rfl (.inl rfl) (dx_callT call_tuple_of opr_tuple (by rfl) T.z_tuple (by decide +kernel) (oa_cons (do_of (dx_lc (own := [("word", 11)]) rfl rfl sc_law.nd (di_any (dx_call (ok__law_all_words T) (hr.mono (by decide)) (by rfl) T.g__law_all_words T.F__law_all_words.kp (bd__law_all_words T) TK.ps (fun _ _ z => z) (a_cons (dx_var (pv 2)) a_nil) (len_cns len_nil))) (blkOk_by (by kernel_rfl)) (fun _ _ _ _ _ => (dg_name (i := 11) (nin rfl) sc_law.nd rfl (.inl rfl))) (fun _ _ _ _ _ => dts_nil) (fun _ _ _ _ _ => (dx_tup (a_cons (dx_var (pv 11)) (a_cons (dx_cmp (op_inX (hu65 hr)) opr_in (do_var (pv 11)) (do_var (pv 14)) rfl) a_nil)))))) oa_nil)))
  (dss_cons (ds_if (dt_cmp (op_neD hr.units) opr_ne (do_of (dx_call (ok_agreeing_codes T) (hr.mono (by decide)) (by rfl) T.g_agreeing_codes T.F_agreeing_codes.kp (bd_agreeing_codes T) TK.ps (fun _ _ z => z) (a_cons (dx_var (pv 2)) (a_cons (dx_var (pv 12)) a_nil)) (len_cns (len_cns len_nil)))) (do_of (dx_lst (a_cons (dx_var (pv 4)) a_nil))) (nomark _)) (dss_one (ds_ret dx_bl)) dss_nil)
  (dss_cons (ds_set (i := 13) (nin rfl) sc_law.nd rfl (.inr rfl) (dx_lc (own := [("word", 11), ("answer", 18)]) rfl rfl sc_law.nd (di_any (dx_var (pv 8))) (blkOk_by (by kernel_rfl)) (fun _ _ _ _ _ => (dg_tup (n := 2) rfl rfl (dgs_cons (dg_name (i := 11) (nin rfl) sc_law.nd rfl (.inl rfl)) (dgs_cons (dg_name (i := 18) (nin rfl) sc_law.nd rfl (.inl rfl)) dgs_nil)))) (fun _ _ _ _ _ => (dts_one (dt_val (dx_var (pv 18))))) (fun _ _ _ _ _ => (dx_var (pv 11)))))
  (dss_one (ds_ret (dx_cmp (op_eqD hr.units) opr_eq (do_of (dx_lc (own := [("word", 11)]) rfl rfl sc_law.nd (di_any (dx_call (ok__law_closure T) (hr.mono (by decide)) (by rfl) T.g__law_closure T.F__law_closure.kp (bd__law_closure T) TK.ps (fun _ _ z => z) (a_cons (dx_var (pv 2)) (a_cons (dx_var (pv 13)) a_nil)) (len_cns (len_cns len_nil)))) (blkOk_by (by kernel_rfl)) (fun _ _ _ _ _ => (dg_name (i := 11) (nin rfl) sc_law.nd rfl (.inl rfl))) (fun _ _ _ _ _ => (dts_one (dt_cmp (op_notInX (hu65 hr)) opr_notIn (do_var (pv 11)) (do_var (pv 13)) rfl))) (fun _ _ _ _ _ => (dx_var (pv 11))))) (do_of (dx_lst a_nil)) (nomark _)))))))))))))))))))))))
end

end Gk19

set_option Elab.async false
set_option linter.all false
set_option maxRecDepth 100000
set_option exponentiation.threshold 1000
set_option autoImplicit false
set_option maxHeartbeats 0
namespace Gk19
open G7
theorem cell_ok (ns : List Int) (k : Nat) (hn : ns.length ≤ 63) : ∃ v : Int, D__law_cell_at [.scr ns, .int k] = .ok (.int v) .non := by
  by_cases h1 : k < ns.length
  · obtain ⟨x, hx⟩ : ∃ x, ns[k]? = some x := ⟨_, List.getElem?_eq_getElem h1⟩
    have e : getV (.scr ns) (.int k) = some (.int x) := by show (L2.atI ns (k : Int)).map _ = _; rw [L2.atI_nat hx]; rfl
    have h2 : ((k : Int) < ns.length) := by omega
    exact ⟨x, by simp [D__law_cell_at, B__law_cell_at, h2, e]⟩
  · have h2 : ¬ ((k : Int) < ns.length) := by omega
    cases ns with
    | nil =>
      have e : eqV (.scr []) (.lst []) = some (.bl true) := rfl
      exact ⟨0, by simp [D__law_cell_at, B__law_cell_at, e, show ¬ ((k : Int) < 0) by omega]⟩
    | cons n0 ns0 =>
      generalize hns : n0 :: ns0 = ns at *
      have hpos : 0 < ns.length := by rw [← hns]; simp
      have e : eqV (.scr ns) (.lst []) = some (.bl false) := by rw [← hns]; rfl
      obtain ⟨q, e1, hk⟩ : ∃ q : Nat, modV (.int k) (.int ns.length) = some (.int (q : Int)) ∧ q < ns.length := by
        refine ⟨k % ns.length, ?_, Nat.mod_lt _ hpos⟩
        show (if (0 : Int) < (ns.length : Int) then _ else _) = _
        rw [if_pos (by omega)]; rfl
      obtain ⟨x, hx⟩ : ∃ x, ns[q]? = some x := ⟨_, List.getElem?_eq_getElem hk⟩
      have e2 : getV (.scr ns) (.int (q : Int)) = some (.int x) := by show (L2.atI ns _).map _ = _; rw [L2.atI_nat hx]; rfl
      obtain ⟨d, e3⟩ : ∃ d : Nat, divV (.int k) (.int ns.length) = some (.int (d : Int)) := by
        refine ⟨k / ns.length, ?_⟩
        show (if decide ((0 : Int) < (ns.length : Int)) && near 1073741823 (ns.length : Int) then _ else _) = _
        rw [if_pos (by rw [near_mk (by omega) (by omega), Bool.and_true]; simp; omega)]; rfl
      obtain ⟨m, em, hm⟩ : ∃ m : Nat, min2V [.int (d : Int), .int 60] = some (.int (m : Int)) ∧ m ≤ 60 := by
        by_cases hq : (60 : Int) < (d : Int)
        · exact ⟨60, by show some (PV.int (if _ then _ else _)) = _; rw [if_pos hq]; rfl, Nat.le_refl _⟩
        · exact ⟨d, by show some (PV.int (if _ then _ else _)) = _; rw [if_neg hq], by omega⟩
      have mul31 : ∀ a : Int, mulV (.int a) (.int 31) = some (.int (a * 31)) := fun a => v_mulI _ _ (mulOk2 (by decide) (by decide))
      have mul101 : ∀ a : Int, mulV (.int a) (.int 101) = some (.int (a * 101)) := fun a => v_mulI _ _ (mulOk2 (by decide) (by decide))
      have dv : ∀ a : Int, divV (.int a) (.int 1000003) = some (.int (a / 1000003)) := fun a => rfl
      obtain ⟨ρ', hl, v, z, rfl⟩ := loopM_inv (tg := nmT 3) (body := setV 2 (op2 divV (tkv 2) (sv (ret (.int 1000003))))) (xs := (List.range m).map fun i => PV.int (i : Nat)) (ρ := [some (.val (.scr ns)), some (.val (.int k)), some (.val (.int x)), none])
        (fun ρ => ∃ (v : Int) (z : Option Sl), ρ = [some (.val (.scr ns)), some (.val (.int k)), some (.val (.int v)), z]) ⟨x, none, rfl⟩ (by
          rintro y - ρ ⟨v, z, rfl⟩
          refine ⟨_, [some (.val (.scr ns)), some (.val (.int k)), some (.val (.int (v / 1000003))), some (.val y)], rfl, .inl (by simp [dv]), _, _, rfl⟩)
      refine ⟨x * 31 + k + v * 101, ?_⟩
      have hr : rng1 (cns (opn min2V (cns (sv (op2 divV (tkv 1) (sv (opn (on1 lenV) (cns (tkv 0) nil))))) (cns (sv (ret (.int 60))) nil))) nil) [some (.val (.scr ns)), some (.val (.int k)), some (.val (.int x)), none] = .ok ((List.range m).map fun i => PV.int (i : Nat)) [some (.val (.scr ns)), some (.val (.int k)), some (.val (.int x)), none] :=
        rng1_ok (by simp [e3, em]) (Nat.le_trans hm (by decide))
      simp [D__law_cell_at, B__law_cell_at, h2, e, e1, e2, hr, hl, mul31, mul101]
theorem mixed_ok (ns : List Int) (k : Nat) (hn : ns.length ≤ 63) (b : Nat) (hb : 0 < b) : ∃ d : Nat, d < b ∧ D__law_mixed [.scr ns, .int k, .int b] = .ok (.int d) .non := by
  obtain ⟨v, hv⟩ := cell_ok ns k hn
  have m1 : mulV (.int v) (.int 1103515245) = some (.int (v * 1103515245)) := v_mulI _ _ (mulOk2 (by decide) (by decide))
  have m2 : mulV (.int 7919) (.int k) = some (.int (7919 * k)) := v_mulI _ _ (mulOk1 (by decide) (by decide))
  have r1 : ∀ a : Int, modV (.int a) (.int 2147483647) = some (.int (a % 2147483647)) := fun a => rfl
  have r2 : ∀ a : Int, modV (.int a) (.int 999983) = some (.int (a % 999983)) := fun a => rfl
  have r3 : ∀ a : Int, modV (.int a) (.int b) = some (.int (a % b)) := fun a => by
    show (if (0 : Int) < (b : Int) then _ else _) = _
    rw [if_pos (by omega)]
  have p5 : ∀ a : Int, powV (.int (a % 2147483647)) (.int 5) = some (.int ((a % 2147483647) ^ 5)) := fun a => by
    have h1 := Int.emod_nonneg a (show (2147483647 : Int) ≠ 0 by decide)
    have h2 := Int.emod_lt_of_pos a (show (0 : Int) < 2147483647 by decide)
    show (if decide ((0 : Int) ≤ 5) && near 1000000 5 && decide ((a % 2147483647).natAbs < 2 ^ 64) then _ else _) = _
    rw [if_pos (by rw [show near 1000000 5 = true from rfl]; simp; omega)]; rfl
  refine ⟨((((v * 1103515245 + 7919 * k + 12345) % 2147483647) ^ 5 % 2147483647 % 999983) % b).toNat, ?_, ?_⟩
  · have h1 := Int.emod_nonneg (((v * 1103515245 + 7919 * k + 12345) % 2147483647) ^ 5 % 2147483647 % 999983) (show (b : Int) ≠ 0 by omega)
    have h2 := Int.emod_lt_of_pos (((v * 1103515245 + 7919 * k + 12345) % 2147483647) ^ 5 % 2147483647 % 999983) (show (0 : Int) < b by omega)
    omega
  · have h1 := Int.emod_nonneg (((v * 1103515245 + 7919 * k + 12345) % 2147483647) ^ 5 % 2147483647 % 999983) (show (b : Int) ≠ 0 by omega)
    rw [Int.toNat_of_nonneg h1]
    simp only [D__law_mixed, B__law_mixed, e_runP, e_envP, e_seqM, e_bnd, e_setV, e_op2, e_sv, e_callP, e_cns, e_rd, e_nil, e_ret, e_retM, e_tkv, e_wr, List.map, List.length_cons, List.length_nil, List.replicate, List.cons_append, List.nil_append, List.getElem?_cons_zero, List.getElem?_cons_succ, hv, e_frM1, e_forceV, e_forceS, e_pk, m1, m2, e_lftS, v_addI, r1, List.set, p5, r2, r3]
theorem draw_ok {ns : List Int} {t : List PV} {b : Nat} (hn : ns.length ≤ 63) (ht : t.length < 1000000) (hb : 0 < b) : ∃ d : Nat, d < b ∧ D__law_draw [.scr ns, .lst t, .int b] = .ok (.int d) (.lst (t ++ [.int 0])) := by
  obtain ⟨d, h1, h2⟩ := mixed_ok ns (t.length + 1) hn b hb
  refine ⟨d, h1, ?_⟩
  have hl : t.length < LINE := Nat.lt_of_lt_of_le ht (by decide)
  have h3 : D__law_mixed [.scr ns, .int ((t.length : Int) + 1), .int b] = .ok (.int d) .non := h2
  simp [D__law_draw, B__law_draw, appM, ownL, putL, hl, h3]

theorem pick_ok {ns : List Int} {t : List PV} (hn : ns.length ≤ 63) (ht : t.length < 1000000) : ∃ c : Nat, (c = 48 ∨ c = 49) ∧ D__law_pick [.scr ns, .lst t, .lst [.str [48], .str [49]]] = .ok (.str [c]) (.lst (t ++ [.int 0])) := by
  obtain ⟨d, h1, h2⟩ := draw_ok (b := 2) hn ht (by decide)
  have h3 : D__law_draw [.scr ns, .lst t, .int 2] = .ok (.int d) (.lst (t ++ [.int 0])) := h2
  rcases (by omega : d = 0 ∨ d = 1) with rfl | rfl
  · refine ⟨48, .inl rfl, ?_⟩
    have e : getV (.lst [.str [48], .str [49]]) (.int 0) = some (.str [48]) := rfl
    simp [D__law_pick, B__law_pick, h3, e]
  · refine ⟨49, .inr rfl, ?_⟩
    have e : getV (.lst [.str [48], .str [49]]) (.int 1) = some (.str [49]) := rfl
    simp [D__law_pick, B__law_pick, h3, e]

theorem word_ok {ns : List Int} {t : List PV} (hn : ns.length ≤ 63) (n : Nat) (h : n ≤ 100) (ht : t.length < 900000) : ∃ w t', Wn n w ∧ t'.length = t.length + n ∧
    D__law_word [.scr ns, .lst t, .int n] = .ok (.str w) (.lst t') := by
  have hL : n ≤ LINE := Nat.le_trans h (by decide)
  have hi : rng1 (cns (rd 2) nil) [some (.val (.scr ns)), some (.own (.lst t)), some (.val (.int n)), none] = .ok ((List.range n).map fun i => PV.int (i : Nat)) [some (.val (.scr ns)), some (.own (.lst t)), some (.val (.int n)), none] :=
    rng1_ok (by simp) hL
  obtain ⟨ys, ρ', h1, ⟨w, t', rfl, h3, h4, rfl⟩, h2⟩ := lcM_inv (tg := nmT 3) (el := callR D__law_pick 1 (cns (sv (rd 0)) (cns (tkv 1) (cns (sv (bnd (cns (ret (.str [48])) (cns (ret (.str [49])) nil)) fun as => lft (lstV as))) nil)))) (own := [3])
    (fun done ρ => ∃ w t', done = w.map (fun c => PV.str [c]) ∧ isW w ∧ t'.length = t.length + w.length ∧ ρ = [some (.val (.scr ns)), some (.own (.lst t')), some (.val (.int n)), none]) hi (by simp; exact hL)
    ⟨[], t, rfl, isW_nil, rfl, rfl⟩ (by
      rintro x hx done ρ hd ⟨w, t', rfl, h3, h4, rfl⟩
      obtain ⟨i, hi, rfl⟩ := List.mem_map.mp hx
      simp at hd
      obtain ⟨c, hc, h5⟩ := pick_ok (t := t') hn (by omega)
      refine ⟨[some (.val (.scr ns)), some (.own (.lst t')), some (.val (.int n)), some (.val (.int i))], .str [c], [some (.val (.scr ns)), some (.own (.lst (t' ++ [.int 0]))), some (.val (.int n)), some (.val (.int i))], rfl, ?_, w ++ [c], t' ++ [.int 0], by simp, ?_, by simp; omega, rfl⟩
      · simp [h5]
      · intro d hd
        rcases List.mem_append.mp hd with hd | hd
        · exact h3 d hd
        · simp at hd; rw [hd]; exact hc)
  simp at h2
  refine ⟨w, t', ⟨h2, h3⟩, by omega, ?_⟩
  have hj := v_join w (by rw [h2]; exact hL)
  simp [D__law_word, B__law_word, h1, hj]

theorem v_valid {w : Wd} {n : Nat} (h : Wn n w) (hn : n ≤ 10) : D_valid_word [.int n, .str w] = .ok (.bl true) .non := by
  have e := lcM_map (it := itX (rd 1)) (tg := nmT 2) (el := op2 inV1 (tkv 2) (sv (ret (.str [48, 49])))) (own := [2]) (ρ := [some (.val (.int n)), some (.val (.str w)), none]) (ρ' := [some (.val (.int n)), some (.val (.str w)), none]) (ys := w)
    (fun c => PV.str [c]) (fun _ => .bl true) (by simp) (by rw [h.l]; exact Nat.le_trans hn (by decide)) (fun c hc => by
      refine ⟨[some (.val (.int n)), some (.val (.str w)), some (.val (.str [c]))], [some (.val (.int n)), some (.val (.str w)), some (.val (.str [c]))], by simp, ?_, by simp⟩
      rcases h.b c hc with rfl | rfl <;> simp) (by simp)
  have e2 := v_allF w fun _ => true
  simp [D_valid_word, B_valid_word, h.ln (Nat.le_trans hn (by decide)), e, e2]

theorem v_sum_of {a b : Wd} {n : Nat} (ha : Wn n a) (hb : Wn n b) (hn : n ≤ 1000) : D_sum_of [.str a, .str b] = .ok (.str (xo a b)) .non := by
  have hl : (a.zip b).length ≤ LINE := by rw [List.length_zip, ha.l, hb.l, Nat.min_self]; exact Nat.le_trans hn (by decide)
  have e := lcM_map (it := zip2 (cns (rd 0) (cns (rd 1) nil))) (tg := tupT [nmT 2, nmT 3]) (el := ifX (tst (op2 eqV (tkv 2) (tkv 3))) (ret (.str [48])) (ret (.str [49]))) (own := [2, 3]) (ρ := [some (.val (.str a)), some (.val (.str b)), none, none]) (ρ' := [some (.val (.str a)), some (.val (.str b)), none, none]) (ys := a.zip b)
    (fun p => PV.tup [PV.str [p.1], PV.str [p.2]]) (fun p => .str [if p.1 = p.2 then 48 else 49]) (by simp [zip2, seqV, v_zip]) hl (fun p hp => by
      refine ⟨[some (.val (.str a)), some (.val (.str b)), some (.val (.str [p.1])), some (.val (.str [p.2]))], [some (.val (.str a)), some (.val (.str b)), some (.val (.str [p.1])), some (.val (.str [p.2]))], by simp, ?_, by simp⟩
      by_cases he : p.1 = p.2 <;> simp [he]) (by simp)
  have e2 := v_joinF (a.zip b) (fun p => if p.1 = p.2 then 48 else 49) hl
  simp [D_sum_of, B_sum_of, e, e2, xo_zip]

theorem v_plus {a b : Wd} {n : Nat} (ha : Wn n a) (hb : Wn n b) (hn : n ≤ 1000) : D__law_plus [.str a, .str b] = .ok (.str (xo a b)) .non := by
  have hl : (a.zip b).length ≤ LINE := by rw [List.length_zip, ha.l, hb.l, Nat.min_self]; exact Nat.le_trans hn (by decide)
  have e := lcM_map (it := zip2 (cns (rd 0) (cns (rd 1) nil))) (tg := tupT [nmT 2, nmT 3]) (el := opn (on1 strV) (cns (sv (opn (on1 intV) (cns (sv (op2 neV (tkv 2) (tkv 3))) nil))) nil)) (own := [2, 3]) (ρ := [some (.val (.str a)), some (.val (.str b)), none, none]) (ρ' := [some (.val (.str a)), some (.val (.str b)), none, none]) (ys := a.zip b)
    (fun p => PV.tup [PV.str [p.1], PV.str [p.2]]) (fun p => .str [if p.1 = p.2 then 48 else 49]) (by simp [zip2, seqV, v_zip]) hl (fun p hp => by
      refine ⟨[some (.val (.str a)), some (.val (.str b)), some (.val (.str [p.1])), some (.val (.str [p.2]))], [some (.val (.str a)), some (.val (.str b)), some (.val (.str [p.1])), some (.val (.str [p.2]))], by simp, ?_, by simp⟩
      have s0 : strV (.int (b2i false)) = some (.str [48]) := rfl
      have s1 : strV (.int (b2i true)) = some (.str [49]) := rfl
      by_cases he : p.1 = p.2 <;> simp [he, s0, s1]) (by simp)
  have e2 := v_joinF (a.zip b) (fun p => if p.1 = p.2 then 48 else 49) hl
  simp [D__law_plus, B__law_plus, e, e2, xo_zip]

theorem v_rem {n : Nat} (hn : n ≤ 10) {bs : List Wd} (h : RedU n (rowsOf bs)) {v : PV} (hv : iterV v = some (bs.map .str)) {w : Wd} (hw : Wn n w) : D_remainder [v, .str w] = .ok (.str (remL bs w)) .non := by
  obtain ⟨ρ', e, hw2, z, rfl⟩ := loopM_st (tg := nmT 2) (body := ifX (tst (op2 eqV (sv (op2 getV (tkv 1) (sv (methS (on1m indexV) (tkv 2) (cns (sv (ret (.str [49]))) nil))))) (sv (ret (.str [49]))))) (setV 1 (callP D_sum_of (cns (rd 1) (cns (rd 2) nil)))) skipM)
    PV.str (fun (u : Wd) ρ => Wn n u ∧ ∃ z, ρ = [some (.val v), some (.val (.str u)), z]) rem1 (ys := bs) (s := w) (ρ := [some (.val v), some (.val (.str w)), none]) ⟨hw, none, rfl⟩ (by
      rintro r hr u ρ ⟨hu, z, rfl⟩
      have hrw := RedW.all h r hr
      obtain ⟨i1, i2⟩ := RedW.idx h hr
      have hlt := lead_lt hrw i2
      refine ⟨[some (.val v), some (.val (.str u)), some (.val (.str r))], [some (.val v), some (.val (.str (rem1 u r))), some (.val (.str r))], by simp, ?_, ?_, _, rfl⟩
      · unfold rem1
        by_cases he : at_ u (ldOf r) = 49
        · simp [v_idx i1, v_at hu (by omega) hlt, he, v_sum_of hu hrw (by omega)]
        · simp [v_idx i1, v_at hu (by omega) hlt, he]
      · unfold rem1
        split
        · exact hu.xo hrw
        · exact hu)
  have e' : loopM (nmT 2) (ifX (tst (op2 eqV (sv (op2 getV (tkv 1) (sv (methS (on1m indexV) (tkv 2) (cns (sv (ret (.str [49]))) nil))))) (sv (ret (.str [49]))))) (setV 1 (callP D_sum_of (cns (rd 1) (cns (rd 2) nil)))) skipM) (bs.map .str) [some (.val v), some (.val (.str w)), none] = .ok .nx [some (.val v), some (.val (.str (remL bs w))), z] := e
  simp [D_remainder, B_remainder, hv, e']

theorem v_closure {n : Nat} (hn : n ≤ 10) {ws : List Wd} (h : AllW n ws) {v : PV} (hv : iterV v = some (ws.map .str)) : D__law_closure [.int n, v] = .ok (.lst ((everyL n ws).map .str)) .non := by
  obtain ⟨ρ', e, done, kvs, z3, z4, h1, h2, h3, rfl⟩ := loopM_st (tg := nmT 3) (body := ifX (tst (op2 inV0 (tkv 3) (tkv 2))) (forM (itX (opn (on1 listV) (cns (tkv 2) nil))) (nmT 4) (putDM 2 (callP D__law_plus (cns (rd 3) (cns (rd 4) nil))) (ret (.bl true)))) skipM)
    PV.str (fun (ks : List Wd) ρ => ∃ done kvs z3 z4, AllW n done ∧ EnumL (SpW n done) ks ∧ kvs.map (·.1) = ks.map .str ∧ ρ = [some (.val (.int n)), some (.val v), some (.own (.dct kvs)), z3, z4]) cloStep (ys := ws) (s := [zr n]) (ρ := [some (.val (.int n)), some (.val v), some (.own (.dct [(.str (zr n), .bl true)])), none, none])
    ⟨[], _, none, none, fun _ z => by simp at z, enum_zr n, rfl, rfl⟩ (by
      rintro w hw ks ρ ⟨done, kvs, z3, z4, h1, h2, h3, rfl⟩
      have hww := h w hw
      have hd' : AllW n (w :: done) := fun y hy => (List.mem_cons.mp hy).elim (fun e => e ▸ hww) (h1 y)
      by_cases hm : w ∈ ks
      · have hc : cloStep ks w = ks := if_pos hm
        refine ⟨[some (.val (.int n)), some (.val v), some (.own (.dct kvs)), some (.val (.str w)), z4], [some (.val (.int n)), some (.val v), some (.own (.dct kvs)), some (.val (.str w)), z4], by simp, ?_, done, kvs, _, _, h1, ?_, ?_, rfl⟩
        · simp [v_in0D h3, hm]
        · rw [hc]; exact h2
        · rw [hc]; exact h3
      · have hns : ¬ SpW n done w := fun z => hm ((h2.m w).mpr z)
        have hmore := (enum_more (sp_lin h1) h2 hww hns).congr fun u => sp_cons_iff u hww
        have hc : cloStep ks w = ks ++ ks.map fun o => xo o w := if_neg hm
        have hkl : ks.length ≤ 1024 := enum_len h2 hn
        have hf : ks.foldl (fun a o => addK a (xo w o)) ks = ks ++ ks.map fun o => xo o w := by
          have e1 : ks.foldl (fun a o => addK a (xo w o)) ks = (ks.map fun o => xo o w).foldl addK ks := by
            rw [List.foldl_map]
            congr 1
            funext a o
            rw [xo_comm]
          rw [e1]
          exact fold_addK _ _ hmore.nd
        obtain ⟨ρ', e, kvs', z4', k1, k2, rfl⟩ := loopM_ix (tg := nmT 4) (body := putDM 2 (callP D__law_plus (cns (rd 3) (cns (rd 4) nil))) (ret (.bl true)))
          PV.str (fun i (a : List Wd) ρ => ∃ kvs' z4, kvs'.map (·.1) = a.map .str ∧ a.length ≤ ks.length + i ∧ ρ = [some (.val (.int n)), some (.val v), some (.own (.dct kvs')), some (.val (.str w)), z4]) (fun a o => addK a (xo w o)) (ys := ks) (k := 0) (s := ks) (ρ := [some (.val (.int n)), some (.val v), some (.own (.dct kvs)), some (.val (.str w)), z4])
          ⟨kvs, z4, h3, Nat.le_refl _, rfl⟩ (by
            rintro i o ho a ρ ⟨kvs', z4', k1, k2, rfl⟩
            have hi := (List.getElem?_eq_some_iff.mp ho).1
            have hom := List.mem_of_getElem? ho
            have how : Wn n o := ((h2.m o).mp hom).1
            have hl' : kvs'.length = a.length := by have := congrArg List.length k1; simpa using this
            have hlt : kvs'.length < 16777216 := by omega
            refine ⟨[some (.val (.int n)), some (.val v), some (.own (.dct kvs')), some (.val (.str w)), some (.val (.str o))], [some (.val (.int n)), some (.val v), some (.own (.dct (putD (.str (xo w o)) (.bl true) kvs'))), some (.val (.str w)), some (.val (.str o))], by simp, ?_, putD (.str (xo w o)) (.bl true) kvs', _, keys_put _ _ _ _ k1, ?_, rfl⟩
            · simp [putDM, ownD, v_plus hww how (by omega), keyOk, hlt]
            · have := addK_len a (xo w o); omega)
        rw [hf] at k1
        refine ⟨[some (.val (.int n)), some (.val v), some (.own (.dct kvs)), some (.val (.str w)), z4], [some (.val (.int n)), some (.val v), some (.own (.dct kvs')), some (.val (.str w)), z4'], by simp, ?_, w :: done, kvs', _, _, hd', ?_, ?_, rfl⟩
        · have hk : (kvs.map fun x => x.1) = ks.map .str := h3
          simp [v_in0D h3, hm, hk, e]
        · rw [hc]; exact hmore
        · rw [hc]; exact k1)
  have e' : loopM (nmT 3) (ifX (tst (op2 inV0 (tkv 3) (tkv 2))) (forM (itX (opn (on1 listV) (cns (tkv 2) nil))) (nmT 4) (putDM 2 (callP D__law_plus (cns (rd 3) (cns (rd 4) nil))) (ret (.bl true)))) skipM) (ws.map .str) [some (.val (.int n)), some (.val v), some (.own (.dct [(.str (zr n), .bl true)])), none, none] = .ok .nx [some (.val (.int n)), some (.val v), some (.own (.dct kvs)), z3, z4] := e
  have h3' : (kvs.map fun x => x.1) = (cloL n ws).map .str := h3
  simp [D__law_closure, B__law_closure, dict1, v_zeros n (by omega), keyOk, hv, e', h3']
  rfl

theorem drawn_ok {ns : List Int} {t : List PV} {n m j k l' l : Nat} {rest : Env} {it : M (List PV)} {ρ : Env} (hj : j = k + 2) (hl : l = l' + 2) (hne : l' ≠ k) (hr : rest[l']? = some (some (.val (.int n)))) (h63 : ns.length ≤ 63) (hn : n ≤ 10) (hm : m ≤ 1000) (ht : t.length ≤ 500000)
    (hit : it ρ = .ok ((List.range m).map fun i => PV.int (i : Nat)) (some (.val (.scr ns)) :: some (.own (.lst t)) :: rest)) :
    ∃ ws t', AllW n ws ∧ ws.length = m ∧ t'.length = t.length + m * n ∧ lcM it (nmT j) yesM (callR D__law_word 1 (cns (sv (rd 0)) (cns (tkv 1) (cns (sv (rd l)) nil)))) [j] ρ =
      .ok (.lst (ws.map .str)) (some (.val (.scr ns)) :: some (.own (.lst t')) :: rest) := by
  subst hj hl
  have hr2 : ∀ z, (rest.set k z)[l']? = some (some (.val (.int n))) := fun z => by rw [List.getElem?_set_ne (Ne.symm hne)]; exact hr
  obtain ⟨ys, ρ', h1, ⟨ws, t', rfl, h2, h3, rfl⟩, h4⟩ := lcM_inv (tg := nmT (k + 2)) (el := callR D__law_word 1 (cns (sv (rd 0)) (cns (tkv 1) (cns (sv (rd (l' + 2))) nil)))) (own := [k + 2])
    (fun done ρ => ∃ ws t', done = ws.map PV.str ∧ AllW n ws ∧ t'.length = t.length + ws.length * n ∧ ρ = some (.val (.scr ns)) :: some (.own (.lst t')) :: rest.set k none) hit (by simp; omega)
    ⟨[], t, rfl, fun _ z => by simp at z, by simp, by simp [wipeE]⟩ (by
      rintro x hx done ρ hd ⟨ws, t', rfl, h2, h3, rfl⟩
      obtain ⟨i, hi, rfl⟩ := List.mem_map.mp hx
      simp at hd
      have hb : ws.length * n ≤ 1000 * 10 := Nat.mul_le_mul (by omega) hn
      obtain ⟨w, t'', hw, hl, he⟩ := word_ok (t := t') h63 n (by omega) (by omega)
      refine ⟨some (.val (.scr ns)) :: some (.own (.lst t')) :: rest.set k (some (.val (.int i))), .str w, some (.val (.scr ns)) :: some (.own (.lst t'')) :: rest.set k (some (.val (.int i))), by simp [wr], ?_, ws ++ [w], t'', by simp, ?_, ?_, by simp⟩
      · simp [he, hr2]
      · intro u hu
        rcases List.mem_append.mp hu with hu | hu
        · exact h2 u hu
        · have := List.mem_singleton.mp hu; subst this; exact hw
      · rw [hl, h3]; simp [Nat.add_mul]; omega)
  simp at h4
  refine ⟨ws, t', h2, h4, by rw [h3, h4], ?_⟩
  rw [h1]
  simp [set_back2]

theorem v_allw {n : Nat} (hn : n ≤ 10) : D__law_all_words [.int n] = .ok (.lst ((allB n).map .str)) .non := by
  have inner : ∀ (i : Nat) (hi : i ≤ 10) (z2 z4 : Option Sl), ∃ z4', loopM (nmT 4) (extM 3 (bnd (cns (op2 addV (tkv 4) (sv (ret (.str [48])))) (cns (op2 addV (tkv 4) (sv (ret (.str [49])))) nil)) fun as => lft (lstV as))) ((allB i).map .str)
      [some (.val (.int n)), some (.val (.lst ((allB i).map .str))), z2, some (.own (.lst [])), z4] = .ok .nx [some (.val (.int n)), some (.val (.lst ((allB i).map .str))), z2, some (.own (.lst ((allB (i + 1)).map .str))), z4'] := by
    intro i hi z2 z4
    have hle : (allB i).length ≤ 1024 := by rw [allB_len]; exact Nat.pow_le_pow_right (j := 10) (by decide) hi
    obtain ⟨ρ', e, ha, z4', rfl⟩ := loopM_ix (tg := nmT 4) (body := extM 3 (bnd (cns (op2 addV (tkv 4) (sv (ret (.str [48])))) (cns (op2 addV (tkv 4) (sv (ret (.str [49])))) nil)) fun as => lft (lstV as))) PV.str
      (fun k (acc : List Wd) ρ => acc.length = 2 * k ∧ ∃ z4, ρ = [some (.val (.int n)), some (.val (.lst ((allB i).map .str))), z2, some (.own (.lst (acc.map .str))), z4]) (fun acc w => acc ++ [w ++ [48], w ++ [49]]) (ys := allB i) (k := 0) (s := []) (ρ := [some (.val (.int n)), some (.val (.lst ((allB i).map .str))), z2, some (.own (.lst [])), z4]) ⟨rfl, z4, rfl⟩ (by
        rintro k w hk acc ρ ⟨hacc, z4, rfl⟩
        have hkl := (List.getElem?_eq_some_iff.mp hk).1
        have hw := allB_mem.mp (List.mem_of_getElem? hk)
        have a0 : addV (.str w) (.str [48]) = some (.str (w ++ [48])) := v_addS _ _ (by rw [hw.l]; simp; omega)
        have a1 : addV (.str w) (.str [49]) = some (.str (w ++ [49])) := v_addS _ _ (by rw [hw.l]; simp; omega)
        have hlt : acc.length + 2 ≤ 16777216 := by omega
        refine ⟨[some (.val (.int n)), some (.val (.lst ((allB i).map .str))), z2, some (.own (.lst (acc.map .str))), some (.val (.str w))], [some (.val (.int n)), some (.val (.lst ((allB i).map .str))), z2, some (.own (.lst ((acc ++ [w ++ [48], w ++ [49]]).map .str))), some (.val (.str w))], by simp, ?_, by simp; omega, _, rfl⟩
        simp [extM, ownL, putL, a0, a1, hlt])
    have hf : (allB i).foldl (fun acc w => acc ++ [w ++ [48], w ++ [49]]) [] = allB (i + 1) := by
      have : ∀ (l acc : List Wd), l.foldl (fun acc w => acc ++ [w ++ [48], w ++ [49]]) acc = acc ++ l.flatMap fun w => [w ++ [48], w ++ [49]] := by
        intro l
        induction l with
        | nil => intro acc; simp
        | cons x l ih => intro acc; rw [List.foldl_cons, ih, List.flatMap_cons]; simp
      rw [this]; rfl
    rw [hf] at e
    exact ⟨z4', e⟩
  obtain ⟨ρ', e, hL, z2, z3, z4, rfl⟩ := loopM_ix (tg := nmT 2) (body := seqM (setO 3 (bnd nil fun as => lft (lstV as))) (seqM (forM (itX (rd 1)) (nmT 4) (extM 3 (bnd (cns (op2 addV (tkv 4) (sv (ret (.str [48])))) (cns (op2 addV (tkv 4) (sv (ret (.str [49])))) nil)) fun as => lft (lstV as)))) (setV 1 (rd 3))))
    (fun k : Nat => PV.int k) (fun i (L : List Wd) ρ => L = allB i ∧ ∃ z2 z3 z4, ρ = [some (.val (.int n)), some (.val (.lst (L.map .str))), z2, z3, z4]) (fun L _ => L.flatMap fun w => [w ++ [48], w ++ [49]]) (ys := List.range n) (k := 0) (s := [[]]) (ρ := [some (.val (.int n)), some (.val (.lst [.str []])), none, none, none]) ⟨rfl, none, none, none, rfl⟩ (by
      rintro i x hx L ρ ⟨rfl, z2, z3, z4, rfl⟩
      rw [Nat.zero_add]
      have hi : i < n := by have := (List.getElem?_eq_some_iff.mp hx).1; simpa using this
      obtain ⟨z4', hin⟩ := inner i (by omega) (some (.val (.int x))) z4
      refine ⟨[some (.val (.int n)), some (.val (.lst ((allB i).map .str))), some (.val (.int x)), z3, z4], [some (.val (.int n)), some (.val (.lst ((allB (i + 1)).map .str))), some (.val (.int x)), some (.val (.lst ((allB (i + 1)).map .str))), z4'], by simp, ?_, rfl, _, _, _, rfl⟩
      simp [hin])
  have hr : rng1 (cns (rd 0) nil) [some (.val (.int n)), some (.val (.lst [.str []])), none, none, none] = .ok ((List.range n).map fun i => PV.int (i : Nat)) [some (.val (.int n)), some (.val (.lst [.str []])), none, none, none] := rng1_ok (by simp) (Nat.le_trans hn (by decide))
  rw [hL] at e
  have hlen : 0 + (List.range n).length = n := by simp
  rw [hlen] at e
  simp [D__law_all_words, B__law_all_words, hr, e]

theorem v_words_in {n : Nat} (hn : n ≤ 10) {bs : List Wd} (h : AllW n bs) : D__law_words_in [codeV n bs] = .ok (.lst ((everyL n bs).map .str)) .non := by
  have c1 := v_closure hn h (v := .lst (bs.map .str)) rfl
  simp [D__law_words_in, B__law_words_in, c1]

theorem v_allw2 {n : Nat} (hn : n ≤ 10) : D_all_words [.int n] = .ok (.lst ((allB n).map .str)) .non := by
  refine runP_of ?_
  unfold B_all_words
  simp
  refine wp_rng1 n (by omega) ?_
  simp
  refine wp_loop (List.range n) (fun i => PV.int (i : Nat)) (fun i ρ => ∃ z2, ρ = [some (.val (.int n)), some (.val (.lst ((allB i).map .str))), z2, none, none]) rfl ⟨none, rfl⟩ ?_ ?_
  · rintro i j hij ρ ⟨z2, rfl⟩
    have hi : i < n := by have := (List.getElem?_eq_some_iff.mp hij).1; simpa using this
    have hfl : ((allB i).flatMap fun w => [48, 49].map fun c => PV.str (w ++ [c])) = (allB (i + 1)).map PV.str := by
      show _ = ((allB i).flatMap fun w => [w ++ [48], w ++ [49]]).map PV.str
      rw [List.map_flatMap]; rfl
    simp
    refine wp_lc2 (allB i) PV.str [48, 49] (fun c => PV.str [c]) (fun w c => .str (w ++ [c])) (by
      rw [hfl, List.length_map, allB_len]
      exact Nat.le_trans (Nat.pow_le_pow_right (j := 10) (by decide) (by omega)) (by decide)) ?_
    simp
    refine Bx.of ⟨rfl, rfl, ?_, ?_⟩
    · intro w hw
      have hww := allB_mem.mp hw
      simp
      refine Bx.of ⟨rfl, rfl, rfl, fun c hc => ?_⟩
      have ha : addV (.str w) (.str [c]) = some (.str (w ++ [c])) := v_addS _ _ (by rw [hww.l]; simp; omega)
      simp [ha]
    · rw [hfl]
      simp
      exact Bx.of ⟨some (.val (.int j)), rfl⟩
  · rintro ρ ⟨z2, rfl⟩
    simp

theorem pickL_ok {ns : List Int} {t : List PV} {L : List Wd} (hn : ns.length ≤ 63) (ht : t.length < 1000000) (hL : L ≠ []) : ∃ w, w ∈ L ∧ D__law_pick [.scr ns, .lst t, .lst (L.map .str)] = .ok (.str w) (.lst (t ++ [.int 0])) := by
  have hpos : 0 < L.length := List.length_pos_iff.mpr hL
  obtain ⟨d, h1, h2⟩ := draw_ok (ns := ns) (t := t) (b := L.length) hn ht hpos
  refine ⟨L[d]'h1, List.getElem_mem _, ?_⟩
  have e : getV (.lst (L.map .str)) (.int d) = some (.str (L[d]'h1)) := L2.atI_nat (by rw [List.getElem?_map, List.getElem?_eq_getElem h1]; rfl)
  have hl : lenV (.lst (L.map PV.str)) = some (.int (L.length : Nat)) := by rw [v_lenL, List.length_map]
  refine runR_of ?_
  generalize L[d]'h1 = w at *
  generalize L.map PV.str = LL at *
  unfold B__law_pick
  simp [-v_lenL, hl, h2, e]

def tupS (bs : List Wd) : PV := .tup (bs.map .str)
theorem v_addT (xs ys : List PV) (h : xs.length + ys.length ≤ 16777216) : addV (.tup xs) (.tup ys) = some (.tup (xs ++ ys)) := if_pos h
theorem red_len {n : Nat} (hn : n ≤ 10) {bs : List Wd} (h : RedW n bs) : bs.length ≤ 10 := by
  have h1 : (bs.map ldOf).length ≤ n := by
    have hs : (bs.map ldOf).Nodup := by
      have := h.p
      rw [List.pairwise_map] at this
      rw [List.Nodup, List.pairwise_map]
      exact this.imp fun {a b} hab => Nat.ne_of_lt hab
    have hm : ∀ x ∈ bs.map ldOf, x ∈ List.range n := fun x hx => by
      obtain ⟨w, hw, rfl⟩ := List.mem_map.mp hx
      rw [List.mem_range]
      exact lead_lt (RedW.all h.u w hw) (RedW.idx h.u hw).2
    have := hs.length_le_of_subset hm
    rwa [List.length_range] at this
  rw [List.length_map] at h1
  omega
theorem v_codes_of {n : Nat} (h1 : 1 ≤ n) (hn : n ≤ 6) : D_codes_of [.int (n : Nat)] = .ok (.lst ((codesL n).map (codeV n))) .non := by
  obtain ⟨m, rfl⟩ : ∃ m, n = m + 1 := ⟨n - 1, by omega⟩
  have hs1 : subV (.int ((m + 1 : Nat) : Int)) (.int 1) = some (.int (m : Nat)) := by
    show some (PV.int (((m + 1 : Nat) : Int) - 1)) = _
    congr 2; omega
  have hng : negV (.int 1) = some (.int (-1)) := rfl
  generalize hN : m + 1 = n at *
  refine runP_of ?_
  unfold B_codes_of
  simp [-v_subI]
  refine wp_rng3 m (by omega) ?_
  simp [-v_subI, hs1, hng]
  rw [hN]
  refine wp_loop (List.range n) (fun k => PV.int ((m - k : Nat) : Int)) (fun k ρ => ∃ z2 z3 z4 z5 z6, ρ = [some (.val (.int (n : Nat))), some (.val (.lst ((rowsC k).map tupS))), z2, z3, z4, z5, z6, none, none]) rfl ⟨none, none, none, none, none, rfl⟩ ?_ ?_
  · rintro k k' hk ρ ⟨z2, z3, z4, z5, z6, rfl⟩
    have hkl : k < n := by have := (List.getElem?_eq_some_iff.mp hk).1; simpa using this
    have hkk : k' = k := by rw [List.getElem?_range hkl] at hk; exact (Option.some.inj hk).symm
    subst hkk
    obtain ⟨pos, hpos⟩ : ∃ pos, pos = m - k' := ⟨_, rfl⟩
    rw [← hpos]
    have hs2 : subV (.int (m : Nat)) (.int (pos : Nat)) = some (.int (k' : Nat)) := by
      show some (PV.int ((m : Int) - (pos : Int))) = _
      congr 2; omega
    simp
    refine wp_loop (rowsC k') tupS (fun i ρ => ∃ z4 z5 z6, ρ = [some (.val (.int (n : Nat))), some (.val (.lst ((rowsC k').map tupS))), some (.val (.int (pos : Nat))), some (.own (.lst ((((rowsC k').take i).flatMap (stepC k')).map tupS))), z4, z5, z6, none, none]) rfl ⟨_, _, _, rfl⟩ ?_ ?_
    · rintro i bs hi ρ ⟨z4, z5, z6, rfl⟩
      have hb := List.mem_of_getElem? hi
      have hr := rows_red bs hb
      have hbl := red_len (show k' ≤ 10 by omega) hr
      have hW := RedW.all hr.u
      have hG : ((rowsC k').take (i + 1)).flatMap (stepC k') = ((rowsC k').take i).flatMap (stepC k') ++ stepC k' bs := by
        rw [List.take_succ, hi, List.flatMap_append]
        simp
      have hGl : (((rowsC k').take i).flatMap (stepC k')).length ≤ 3000 := by
        have h2 : (rowsC (k' + 1)).length ≤ 3000 := rows_len (k' + 1) (by omega)
        have h3 : (rowsC k').flatMap (stepC k') = ((rowsC k').take i).flatMap (stepC k') ++ ((rowsC k').drop i).flatMap (stepC k') := by
          rw [← List.flatMap_append, List.take_append_drop]
        have h4 : (rowsC (k' + 1)).length = _ := congrArg List.length h3
        rw [List.length_append] at h4
        omega
      rw [hG]
      generalize ((rowsC k').take i).flatMap (stepC k') = G at *
      have hz : ∀ w ∈ bs, addV (.str [48]) (.str w) = some (.str (48 :: w)) := fun w hw => v_addS [48] w (by rw [(hW w hw).l]; simp; omega)
      simp
      refine wp_lcm bs PV.str (fun w => .str (48 :: w)) (by omega) ?_
      simp
      refine Bx.of ⟨rfl, rfl, fun w hw => ?_, ?_⟩
      · simp [hz w hw]
      · have hm0 : bs.map (fun w => PV.str (48 :: w)) = (bs.map (48 :: ·)).map .str := by rw [List.map_map]; rfl
        rw [hm0]
        simp
        refine ⟨by omega, ?_⟩
        refine wp_lcm bs PV.str (fun w => .int (ldOf w : Nat)) (by omega) ?_
        simp
        refine Bx.of ⟨rfl, rfl, fun w hw => ?_, ?_⟩
        · simp [v_idx (RedW.idx hr.u hw).1]
        · have haw := v_allw2 (n := k') (by omega)
          simp [-v_subI, hs1, hs2, haw]
          refine wp_loop (allB k') PV.str (fun j ρ => ∃ z6, ρ = [some (.val (.int (n : Nat))), some (.val (.lst ((rowsC k').map tupS))), some (.val (.int (pos : Nat))), some (.own (.lst ((G ++ (bs.map (48 :: ·)) :: (((allB k').take j).filter fun t => bs.all fun w => decide (at_ t (ldOf w) = 48)).map fun t => (49 :: t) :: bs.map (48 :: ·)).map tupS))), some (.val (tupS bs)), some (.val (.lst (bs.map fun w => .int (ldOf w : Nat)))), z6, none, none]) rfl ?_ ?_ ?_
          · refine ⟨z6, ?_⟩
            simp [tupS]
          · rintro j t hj ρ ⟨z6, rfl⟩
            have htm := allB_mem.mp (List.mem_of_getElem? hj)
            have htk : ((allB k').take (j + 1)).filter (fun t => bs.all fun w => decide (at_ t (ldOf w) = 48)) = ((allB k').take j).filter (fun t => bs.all fun w => decide (at_ t (ldOf w) = 48)) ++ if (bs.all fun w => decide (at_ t (ldOf w) = 48)) then [t] else [] := by
              rw [List.take_succ, hj, List.filter_append]
              congr 1
              simp only [Option.toList_some, List.filter_cons, List.filter_nil]
            have hTl : (((allB k').take j).filter (fun t => bs.all fun w => decide (at_ t (ldOf w) = 48))).length ≤ 1024 := by
              refine Nat.le_trans (List.length_filter_le _ _) ?_
              rw [List.length_take]
              refine Nat.le_trans (Nat.min_le_right _ _) ?_
              rw [allB_len]
              exact Nat.pow_le_pow_right (j := 10) (by decide) (by omega)
            rw [htk]
            generalize ((allB k').take j).filter (fun t => bs.all fun w => decide (at_ t (ldOf w) = 48)) = TL at *
            simp
            refine wp_lcm bs (fun w => .int (ldOf w : Nat)) (fun w => .bl (decide (at_ t (ldOf w) = 48))) (by omega) ?_
            simp
            refine Bx.of ⟨rfl, rfl, fun w hw => ?_, ?_⟩
            · have hat := v_at htm (by omega) (lead_lt (hW w hw) (RedW.idx hr.u hw).2)
              simp [hat]
            · have hal := v_allF bs fun w => decide (at_ t (ldOf w) = 48)
              simp [hal]
              refine IfK.of (fun h => ?_) (fun h => ?_)
              · have hat1 : addV (.str [49]) (.str t) = some (.str (49 :: t)) := v_addS [49] t (by rw [htm.l]; simp; omega)
                simp [hat1]
                refine wp_lcm bs PV.str (fun w => .str (48 :: w)) (by omega) ?_
                simp [tupS]
                refine Bx.of ⟨rfl, rfl, fun w hw => ?_, ?_⟩
                · simp [hz w hw]
                · rw [hm0]
                  have had := v_addT [.str (49 :: t)] ((bs.map (48 :: ·)).map .str) (by rw [List.length_map, List.length_map]; simp; omega)
                  simp only [List.map_map] at had ⊢
                  simp [had, h]
                  exact ⟨by omega, Bx.of ⟨some (.val (.str t)), by simp [tupS, h]⟩⟩
              · simp [h]
                exact Bx.of ⟨some (.val (.str t)), by simp [h]⟩
          · rintro ρ ⟨z6, rfl⟩
            rw [List.take_length]
            exact Bx.of ⟨_, _, _, rfl⟩
    · rintro ρ ⟨z4, z5, z6, rfl⟩
      rw [List.take_length]
      simp
      exact Bx.of ⟨_, _, _, _, _, rfl⟩
  · rintro ρ ⟨z2, z3, z4, z5, z6, rfl⟩
    rw [List.length_range]
    have hl := rows_len n hn
    simp
    refine wp_lcm (rowsC n) tupS (codeV n) (by omega) ?_
    simp
    refine Bx.of ⟨rfl, rfl, fun bs hb => ?_, ?_⟩
    · simp [tupS, codeV]
    · have hs := sort_codes n (rowsC n)
      simp [hs]
      rfl

end Gk19

set_option Elab.async false
set_option linter.all false
set_option maxRecDepth 100000
set_option exponentiation.threshold 1000
set_option autoImplicit false
set_option maxHeartbeats 0
namespace Gk19
open G7
def memB (bs : List Wd) (w : Wd) : Bool := !(decide (49 ∈ remL bs w))
def ansV (p : Wd × Bool) : PV := .tup [.str p.1, .bl p.2]
def agrB (as : List (Wd × Bool)) (bs : List Wd) : Bool := as.all fun p => memB bs p.1 == p.2
theorem memB_iff {n : Nat} {bs : List Wd} (h : RedW n bs) {w : Wd} (hw : Wn n w) : memB bs w = decide (w ∈ everyL n bs) := by
  have h1 := rem_mem h.u hw
  have h2 := (every_ok (RedW.all h.u)).m w
  unfold memB
  rw [Bool.eq_iff_iff]
  simp only [Bool.not_eq_true', decide_eq_false_iff_not, decide_eq_true_eq]
  rw [h1, h2]
  exact ⟨fun z => ⟨hw, Classical.not_not.mp z⟩, fun z => not_not_intro z.2⟩
theorem v_eqBB (a b : Bool) : eqV (.bl a) (.bl b) = some (.bl (a == b)) := (rfl)
theorem v_neBB (a b : Bool) : neV (.bl a) (.bl b) = some (.bl !(a == b)) := (rfl)
theorem v_chkshort {n : Nat} (h1 : 1 ≤ n) (h4 : n ≤ 4) : D_check_short [.int (n : Nat)] = .ok .non .non := by
  have : n = 1 ∨ n = 2 ∨ n = 3 ∨ n = 4 := by omega
  rcases this with rfl | rfl | rfl | rfl <;> rfl
theorem v_isans {n : Nat} (hn : n ≤ 10) {p : Wd × Bool} (hw : Wn n p.1) : D_is_answer [.int (n : Nat), ansV p] = .ok (.bl true) .non := by
  have hv := v_valid hw hn
  have hb : isiV .bool (.bl p.2) = some (.bl true) := rfl
  have h0 : getV (ansV p) (.int 0) = some (.str p.1) := rfl
  have h1 : getV (ansV p) (.int 1) = some (.bl p.2) := rfl
  have h2 : lenV (ansV p) = some (.int 2) := rfl
  have h3 : isiV .tuple (ansV p) = some (.bl true) := rfl
  generalize ansV p = A at *
  refine runP_of ?_
  unfold B_is_answer
  simp [hv, hb, h0, h1, h2, h3]
theorem v_chkans {n : Nat} (h1 : 1 ≤ n) (h4 : n ≤ 4) {as : List (Wd × Bool)} (ha : ∀ p ∈ as, Wn n p.1) (hl : as.length ≤ 1000) : D_check_answers [.int (n : Nat), .tup (as.map ansV)] = .ok .non .non := by
  have hs := v_chkshort h1 h4
  refine runP_non ?_
  unfold B_check_answers
  simp [hs]
  refine wp_lcm as ansV (fun _ => .bl true) (by omega) ?_
  simp
  refine Bx.of ⟨rfl, rfl, ?_, ?_⟩
  · intro p hp
    simp [v_isans (show n ≤ 10 by omega) (ha p hp)]
  · have := v_allF as fun _ => true
    have e : (as.all fun _ => true) = true := List.all_eq_true.mpr fun _ _ => rfl
    rw [e] at this
    simp [this]
theorem v_agreeing {n : Nat} (h1 : 1 ≤ n) (h4 : n ≤ 4) {as : List (Wd × Bool)} (ha : ∀ p ∈ as, Wn n p.1) (hl : as.length ≤ 1000) :
    D_agreeing [.int (n : Nat), .tup (as.map ansV)] = .ok (.lst (((codesL n).filter (agrB as)).map (codeV n))) .non := by
  have hL := v_codes_of h1 (show n ≤ 6 by omega)
  have hr := codes_red (n := n)
  have hll := codes_len (show n ≤ 6 by omega)
  generalize codesL n = L at *
  refine runP_of ?_
  unfold B_agreeing
  simp [hL]
  refine wp_loop L (codeV n) (fun i ρ => ∃ z3, ρ = [some (.val (.int (n : Nat))), some (.val (.tup (as.map ansV))), some (.own (.lst (((L.take i).filter (agrB as)).map (codeV n)))), z3, none, none]) rfl ⟨none, rfl⟩ ?_ ?_
  · rintro i bs hi ρ ⟨z3, rfl⟩
    have hb := List.mem_of_getElem? hi
    have hil : i < L.length := (List.getElem?_eq_some_iff.mp hi).1
    have htk : (L.take (i + 1)).filter (agrB as) = (L.take i).filter (agrB as) ++ if agrB as bs then [bs] else [] := by
      rw [List.take_succ, hi, List.filter_append]
      congr 1
      simp only [Option.toList_some, List.filter_cons, List.filter_nil]
    have hlen : (((L.take i).filter (agrB as)).map (codeV n)).length < 16777216 := by
      rw [List.length_map]
      have := List.length_filter_le (agrB as) (L.take i)
      rw [List.length_take] at this
      omega
    rw [htk]
    generalize hG : ((L.take i).filter (agrB as)) = G at *
    simp
    refine wp_lcm as ansV (fun p => .bl (memB bs p.1 == p.2)) (by omega) ?_
    simp
    refine Bx.of ⟨rfl, rfl, ?_, ?_⟩
    · intro p hp
      have hrm := v_rem (n := n) (by omega) (hr bs hb).u (v := .tup (bs.map .str)) rfl (ha p hp)
      have htt : tupT [nmT 4, nmT 5] (ansV p) = runT [nmT 4, nmT 5] [.str p.1, .bl p.2] := rfl
      have hq := v_eqBB (memB bs p.1) p.2
      unfold memB at hq ⊢
      simp [htt, hrm, hq]
    · have hal := v_allF as fun p => memB bs p.1 == p.2
      have hal' : allV (.lst (as.map fun p => .bl (memB bs p.1 == p.2))) = some (.bl (agrB as bs)) := hal
      simp [hal']
      refine IfK.of (fun h => ?_) (fun h => ?_)
      · simp [h]
        exact ⟨by simpa using hlen, Bx.of ⟨some (.val (codeV n bs)), by simp [h]⟩⟩
      · simp [h]
        exact Bx.of ⟨some (.val (codeV n bs)), by simp [h]⟩
  · rintro ρ ⟨z3, rfl⟩
    rw [List.take_length]
    simp
theorem v_agrc {n : Nat} (h1 : 1 ≤ n) (h4 : n ≤ 4) {as : List (Wd × Bool)} (ha : ∀ p ∈ as, Wn n p.1) (hl : as.length ≤ 1000) :
    D_agreeing_codes [.int (n : Nat), .tup (as.map ansV)] = .ok (.lst (((codesL n).filter (agrB as)).map (codeV n))) .non := by
  have e1 := v_chkans h1 h4 ha hl
  have e2 := v_agreeing h1 h4 ha hl
  refine runP_of ?_
  unfold B_agreeing_codes
  simp [e1, e2]
/-- what is told of a word: by all codes alike -/
def sureB (C : List (List Wd)) (w : Wd) : Bool := (C.all fun bs => memB bs w) || !(C.any fun bs => memB bs w)
def headB (C : List (List Wd)) (w : Wd) : Bool := match C with
  | [] => false
  | bs :: _ => memB bs w
def knowL (C : List (List Wd)) (W : List Wd) : List (Wd × Bool) := (W.filter (sureB C)).map fun w => (w, headB C w)
theorem v_known {n : Nat} (h1 : 1 ≤ n) (h4 : n ≤ 4) {as : List (Wd × Bool)} (ha : ∀ p ∈ as, Wn n p.1) (hl : as.length ≤ 1000) :
    D_known_words [.int (n : Nat), .tup (as.map ansV)] = if (codesL n).filter (agrB as) = [] then .exc 13 .non else .ok (.lst ((knowL ((codesL n).filter (agrB as)) (allB n)).map ansV)) .non := by
  have e1 := v_chkans h1 h4 ha hl
  have e2 := v_agreeing h1 h4 ha hl
  have hr : ∀ bs ∈ (codesL n).filter (agrB as), RedW n bs := fun bs h => codes_red bs (List.mem_filter.mp h).1
  have hll : ((codesL n).filter (agrB as)).length ≤ 3000 := Nat.le_trans (List.length_filter_le _ _) (codes_len (by omega))
  generalize (codesL n).filter (agrB as) = C at *
  cases C with
  | nil =>
    rw [if_pos rfl]
    have e3 : eqV (.lst []) (.lst []) = some (.bl true) := rfl
    unfold D_known_words
    rw [e_runP]
    unfold B_known_words
    simp [e1, e2, e3, seqM, dropM, callP, frM, parM, mV, mO, Md.sl]
  | cons c0 cs =>
    rw [if_neg (by simp)]
    have haw := v_allw2 (n := n) (by omega)
    have hq : eqV (.lst ((c0 :: cs).map (codeV n))) (.lst []) = some (.bl false) := by
      unfold eqV
      rw [show dp 60 (.lst ((c0 :: cs).map (codeV n))) = true from dp_lstm (codeV n) 59 (c0 :: cs) fun us => by
        show (dp 58 (.int n) && (dp 58 (.tup (us.map .str)) && true)) = true
        rw [show dp 58 (.tup (us.map PV.str)) = true from dp_strs 57 us]; rfl]
      rfl
    have hp : 2 ^ n ≤ 16 := Nat.pow_le_pow_right (j := 4) (by decide) h4
    have hg0 : ∀ w : Wd, getV (.lst ((c0 :: cs).map fun bs => .bl (memB bs w))) (.int 0) = some (.bl (headB (c0 :: cs) w)) := fun w => v_get0 _ _
    generalize hC : c0 :: cs = C at *
    refine runP_of ?_
    unfold B_known_words
    simp [e1, e2, hq, haw]
    refine wp_loop (allB n) PV.str (fun i ρ => ∃ z2 z5, ρ = [some (.val (.int (n : Nat))), some (.val (.tup (as.map ansV))), z2, some (.val (.lst (C.map (codeV n)))), some (.own (.lst ((knowL C ((allB n).take i)).map ansV))), z5, none]) rfl ⟨none, none, rfl⟩ ?_ ?_
    · rintro i w hi ρ ⟨z2, z5, rfl⟩
      have hw := allB_mem.mp (List.mem_of_getElem? hi)
      have htk : knowL C ((allB n).take (i + 1)) = knowL C ((allB n).take i) ++ if sureB C w then [(w, headB C w)] else [] := by
        unfold knowL
        rw [List.take_succ, hi, List.filter_append, List.map_append]
        congr 1
        simp only [Option.toList_some, List.filter_cons, List.filter_nil]
        split <;> rfl
      have hlen : (knowL C ((allB n).take i)).length ≤ 16 := by
        unfold knowL
        rw [List.length_map]
        refine Nat.le_trans (List.length_filter_le _ _) ?_
        rw [List.length_take, allB_len]
        omega
      rw [htk]
      generalize knowL C ((allB n).take i) = G at *
      simp
      refine wp_lcm C (codeV n) (fun bs => .bl (memB bs w)) (by omega) ?_
      simp
      refine Bx.of ⟨rfl, rfl, fun bs hb => ?_, ?_⟩
      · have hrm := v_rem (n := n) (by omega) (hr bs hb).u (v := .tup (bs.map .str)) rfl hw
        unfold memB
        simp [hrm]
      · have hal := v_allF C fun bs => memB bs w
        have han := v_anyF C fun bs => memB bs w
        have hg := hg0 w
        simp [hal]
        refine IfK.of (fun h => ?_) (fun h => ?_)
        · have hs : sureB C w = true := by unfold sureB; rw [h]; rfl
          simp [hg]
          exact ⟨by omega, Bx.of ⟨some (.val (.str w)), _, by simp [hs, ansV]; rfl⟩⟩
        · simp [han]
          refine IfK.of (fun h2 => ?_) (fun h2 => ?_)
          · have hs : sureB C w = true := by unfold sureB; rw [h, Bool.false_or]; exact h2
            simp [hg]
            exact ⟨by omega, Bx.of ⟨some (.val (.str w)), _, by simp [hs, ansV]; rfl⟩⟩
          · have hs : sureB C w = false := by unfold sureB; rw [h, Bool.false_or]; exact h2
            simp
            exact Bx.of ⟨some (.val (.str w)), _, by simp [hs]; rfl⟩
    · rintro ρ ⟨z2, z5, rfl⟩
      rw [List.take_length]
      simp
theorem v_ask {n : Nat} (h1 : 1 ≤ n) (h4 : n ≤ 4) {as : List (Wd × Bool)} (ha : ∀ p ∈ as, Wn n p.1) (hl : as.length ≤ 1000) :
    D__law_ask [.int (n : Nat), .tup (as.map ansV)] = .ok (if (codesL n).filter (agrB as) = [] then whichV 13 else .lst ((knowL ((codesL n).filter (agrB as)) (allB n)).map ansV)) .non := by
  have e := v_known h1 h4 ha hl
  unfold D__law_ask
  rw [e_runP]
  unfold B__law_ask
  by_cases h : (codesL n).filter (agrB as) = []
  · rw [if_pos h] at e ⊢
    simp [tryM, retM, callP, e, frM]
  · rw [if_neg h] at e ⊢
    simp [tryM, retM, callP, e, frM]
theorem agr_law {n : Nat} {bs : List Wd} (hr : RedW n bs) {as : List (Wd × Bool)} (ha : ∀ p ∈ as, Wn n p.1) : decide ((as.filter fun p => !(decide (p.1 ∈ everyL n bs) == p.2)) = []) = agrB as bs := by
  rw [Bool.eq_iff_iff, decide_eq_true_eq, List.filter_eq_nil_iff]
  unfold agrB
  rw [List.all_eq_true]
  refine forall_congr' fun p => forall_congr' fun hp => ?_
  rw [memB_iff hr (ha p hp)]
  simp
theorem red_uniqW {n : Nat} {as bs : List Wd} (ha : RedW n as) (hb : RedW n bs) (h : ∀ w, Wn n w → (w ∈ everyL n as ↔ w ∈ everyL n bs)) : as = bs := by
  have hE1 := every_ok (RedW.all ha.u)
  have hE2 := every_ok (RedW.all hb.u)
  have e := red_uniq ha hb fun w => by
    rw [bs_rows, bs_rows]
    constructor
    · intro hw
      exact (hE2.m w).mp ((h w hw.1).mp ((hE1.m w).mpr hw))
    · intro hw
      exact (hE1.m w).mp ((h w hw.1).mpr ((hE2.m w).mpr hw))
  rwa [bs_rows, bs_rows] at e
theorem filter_one {α : Type} [DecidableEq α] {l : List α} (hn : l.Nodup) {a : α} (ha : a ∈ l) {p : α → Bool} (hp : ∀ x ∈ l, p x = decide (x = a)) : l.filter p = [a] := by
  induction l with
  | nil => simp at ha
  | cons x l ih =>
    rw [List.nodup_cons] at hn
    have hx := hp x (List.mem_cons_self ..)
    rw [List.filter_cons]
    by_cases e : x = a
    · subst e
      rw [hx, if_pos (by simp)]
      congr 1
      rw [List.filter_eq_nil_iff]
      intro y hy
      rw [hp y (List.mem_cons_of_mem _ hy)]
      simp
      rintro rfl
      exact hn.1 hy
    · rw [hx, if_neg (by simpa using e)]
      rcases List.mem_cons.mp ha with h | h
      · exact absurd h.symm e
      · exact ih hn.2 h fun y hy => hp y (List.mem_cons_of_mem _ hy)
theorem know_mem {C : List (List Wd)} (hC : C ≠ []) {W : List Wd} : ((knowL C W).filter fun p => p.2).map (·.1) = W.filter fun w => C.all fun bs => memB bs w := by
  unfold knowL
  rw [List.filter_map, List.map_map]
  have e1 : ((·.1) ∘ fun w : Wd => (w, headB C w)) = id := rfl
  rw [e1, List.map_id, List.filter_filter]
  refine List.filter_congr fun w _ => ?_
  cases C with
  | nil => exact absurd rfl hC
  | cons c0 cs =>
    show (memB c0 w && ((memB c0 w && cs.all fun bs => memB bs w) || !(memB c0 w || cs.any fun bs => memB bs w))) = (memB c0 w && cs.all fun bs => memB bs w)
    cases memB c0 w <;> simp
theorem members_closed {n : Nat} {C : List (List Wd)} (hr : ∀ bs ∈ C, RedW n bs) : ∀ w ∈ everyL n ((allB n).filter fun w => C.all fun bs => memB bs w), w ∈ (allB n).filter fun w => C.all fun bs => memB bs w := by
  intro w hw
  have hall : AllW n ((allB n).filter fun w => C.all fun bs => memB bs w) := fun v hv => allB_mem.mp (List.mem_filter.mp hv).1
  have hsp := ((every_ok hall).m w).mp hw
  refine List.mem_filter.mpr ⟨allB_mem.mpr hsp.1, List.all_eq_true.mpr fun bs hb => ?_⟩
  have hR := hr bs hb
  have hE := every_ok (RedW.all hR.u)
  have h2 := sp_least (sp_lin (RedW.all hR.u)) (ws := (allB n).filter fun w => C.all fun bs => memB bs w) (fun x hx => by
    obtain ⟨h3, h4⟩ := List.mem_filter.mp hx
    have h5 := List.all_eq_true.mp h4 bs hb
    rw [memB_iff hR (allB_mem.mp h3), decide_eq_true_eq] at h5
    exact (hE.m x).mp h5) hsp.1 hsp.2
  rw [memB_iff hR hsp.1, decide_eq_true_eq]
  exact (hE.m w).mpr h2
theorem sure_law {n : Nat} {C : List (List Wd)} (hr : ∀ bs ∈ C, RedW n bs) {w : Wd} (hw : Wn n w) : (!(C.any fun bs => decide (w ∈ everyL n bs)) || !(C.any fun bs => !(decide (w ∈ everyL n bs)))) = sureB C w := by
  have e1 : (C.any fun bs => decide (w ∈ everyL n bs)) = C.any fun bs => memB bs w := by
    rw [Bool.eq_iff_iff, List.any_eq_true, List.any_eq_true]
    exact exists_congr fun bs => ⟨fun h => ⟨h.1, by rw [memB_iff (hr bs h.1) hw]; exact h.2⟩, fun h => ⟨h.1, by rw [← memB_iff (hr bs h.1) hw]; exact h.2⟩⟩
  have e2 : (!(C.any fun bs => !(decide (w ∈ everyL n bs)))) = C.all fun bs => memB bs w := by
    rw [Bool.eq_iff_iff, List.all_eq_true]
    simp only [Bool.not_eq_true', List.any_eq_false]
    refine forall_congr' fun bs => forall_congr' fun h => ?_
    rw [memB_iff (hr bs h) hw]
    simp
  rw [e1, e2]
  unfold sureB
  rw [Bool.or_comm]
theorem v_inBs (b : Bool) (bs : List Bool) : inV0 (.bl b) (.lst (bs.map .bl)) = some (.bl !(decide (b ∈ bs))) := by
  have h1 : (bs.map PV.bl).all (dp 59) = true := dp_map PV.bl 59 bs fun _ => rfl
  show Option.map (fun c => PV.bl !c) (if (dp 59 (.bl b) && (bs.map PV.bl).all (dp 59)) = true then some ((bs.map PV.bl).any fun y => eqv y (.bl b)) else none) = _
  rw [show dp 59 (.bl b) = true from rfl, h1]
  simp only [Bool.and_self, if_true, Option.map_some]
  congr 3
  rw [Bool.eq_iff_iff, List.any_map, List.any_eq_true, decide_eq_true_eq]
  constructor
  · rintro ⟨x, hx, h⟩
    have : (x == b) = true := h
    rw [← eq_of_beq this]; exact hx
  · intro h
    exact ⟨b, h, by show (b == b) = true; simp⟩
theorem pickG_ok {α : Type} (f : α → PV) {ns : List Int} {t : List PV} {L : List α} (hn : ns.length ≤ 63) (ht : t.length < 1000000) (hL : L ≠ []) : ∃ w, w ∈ L ∧ D__law_pick [.scr ns, .lst t, .lst (L.map f)] = .ok (f w) (.lst (t ++ [.int 0])) := by
  have hpos : 0 < L.length := List.length_pos_iff.mpr hL
  obtain ⟨d, h1, h2⟩ := draw_ok (ns := ns) (t := t) (b := L.length) hn ht hpos
  refine ⟨L[d]'h1, List.getElem_mem _, ?_⟩
  have e : getV (.lst (L.map f)) (.int d) = some (f (L[d]'h1)) := L2.atI_nat (by rw [List.getElem?_map, List.getElem?_eq_getElem h1]; rfl)
  have hl : lenV (.lst (L.map f)) = some (.int (L.length : Nat)) := by rw [v_lenL, List.length_map]
  refine runR_of ?_
  generalize f (L[d]'h1) = w at *
  generalize L.map f = LL at *
  unfold B__law_pick
  simp [-v_lenL, hl, h2, e]
theorem v_allc {n : Nat} (h1 : 1 ≤ n) (h4 : n ≤ 4) : D_all_codes [.int (n : Nat)] = .ok (.lst ((codesL n).map (codeV n))) .non := by
  have e1 := v_chkshort h1 h4
  have e2 := v_codes_of h1 (show n ≤ 6 by omega)
  refine runP_of ?_
  unfold B_all_codes
  simp [e1, e2]
theorem law_ok (ns : List Int) (h63 : ns.length ≤ 63) : D_law [.scr ns] = .ok (.bl true) .non := by
  obtain ⟨d0, hd0, e0⟩ := draw_ok (ns := ns) (t := []) (b := 5) h63 (by simp) (by decide)
  have e0' : D__law_draw [.scr ns, .lst [], .int 5] = .ok (.int (d0 : Nat)) (.lst [.int 0]) := e0
  refine runP_of ?_
  unfold B_law
  simp [-v_addI, e0']
  refine wp_joinV (fun v ρ => (v = .int 3 ∨ v = .int 4) ∧ ρ = [some (.val (.scr ns)), some (.own (.lst [.int 0])), none, none, none, none, none, none, none, none, none, none, none, none, none, none, none, none, none]) (fun _ => by simp) (fun _ => by simp) ?_
  rintro v ρ ⟨hv, rfl⟩
  obtain ⟨b, hb, rfl⟩ : ∃ b : Nat, (1 ≤ b ∧ b ≤ 4) ∧ v = .int (b : Nat) := by
    rcases hv with rfl | rfl
    · exact ⟨3, by decide, rfl⟩
    · exact ⟨4, by decide, rfl⟩
  obtain ⟨d1, hd1, e1⟩ := draw_ok (ns := ns) (t := [.int 0]) (b := b) h63 (by simp) (by omega)
  obtain ⟨n, hn'⟩ : ∃ n, n = d1 + 1 := ⟨_, rfl⟩
  have hadd : addV (.int 1) (.int (d1 : Nat)) = some (.int (n : Nat)) := by
    show some (PV.int (1 + (d1 : Int))) = _
    congr 2; omega
  have h1n : 1 ≤ n := by omega
  have h4n : n ≤ 4 := by omega
  have hn : n ≤ 10 := by omega
  have hac := v_allc h1n h4n
  obtain ⟨hid, hidm, e2⟩ := pickG_ok (codeV n) (ns := ns) (t := [.int 0, .int 0]) (L := codesL n) h63 (by simp) (codes_ne n)
  have hR := codes_red (n := n)
  have hCl := codes_len (k := n) (by omega)
  have hidR := hR hid hidm
  have hwi := v_words_in hn (RedW.all hidR.u)
  have e1' : D__law_draw [.scr ns, .lst [.int 0], .int (b : Nat)] = .ok (.int (d1 : Nat)) (.lst [.int 0, .int 0]) := e1
  have e2' : D__law_pick [.scr ns, .lst [.int 0, .int 0], .lst ((codesL n).map (codeV n))] = .ok (codeV n hid) (.lst [.int 0, .int 0, .int 0]) := e2
  simp [-v_addI, e1', hadd, hac, e2', hwi]
  obtain ⟨d3, hd3, e3⟩ := draw_ok (ns := ns) (t := [.int 0, .int 0, .int 0]) (b := 6) h63 (by simp) (by decide)
  have e3' : D__law_draw [.scr ns, .lst [.int 0, .int 0, .int 0], .int 6] = .ok (.int (d3 : Nat)) (.lst [.int 0, .int 0, .int 0, .int 0]) := e3
  refine wp_rng1 d3 (by omega) ?_
  simp [e3']
  have hdpA : ∀ p, dp 59 (ansV p) = true := fun _ => rfl
  refine wp_loop (List.range d3) (fun k => PV.int (k : Nat)) (fun i ρ => ∃ (as : List (Wd × Bool)) (t : List PV) (z5 z11 : Option Sl), as.length = i ∧ (∀ p ∈ as, Wn n p.1) ∧ t.length ≤ 10 + 100 * i ∧
    ρ = [some (.val (.scr ns)), some (.own (.lst t)), some (.val (.int (n : Nat))), some (.val (.lst ((codesL n).map (codeV n)))), some (.val (codeV n hid)), z5, none, none, none, none, none, z11, none, none, some (.val (.lst ((everyL n hid).map .str))), some (.own (.lst (as.map ansV))), none, none, none]) rfl ⟨[], _, none, none, rfl, by simp, by simp, rfl⟩ ?_ ?_
  · rintro i k hi ρ ⟨as, t, z5, z11, hal, haw, htl, rfl⟩
    have hil : i < d3 := by have := (List.getElem?_eq_some_iff.mp hi).1; simpa using this
    obtain ⟨w, t', hw, ht', ew⟩ := word_ok (ns := ns) (t := t) h63 n (by omega) (by omega)
    simp [ew]
    refine ⟨by omega, Bx.of ⟨as ++ [(w, decide (w ∈ everyL n hid))], t', some (.val (.int (k : Nat))), some (.val (.str w)), by simp [hal], ?_, by omega, by simp [ansV]⟩⟩
    intro p hp
    rcases List.mem_append.mp hp with h | h
    · exact haw p h
    · simp at h; rw [h]; exact hw
  · rintro ρ ⟨as, t, z5, z11, hal, haw, htl, rfl⟩
    rw [List.length_range] at hal htl
    have hneA : neV (.lst (as.map ansV)) (.lst []) = some (.bl !(decide (as = []))) := by
      unfold neV
      rw [show dp 60 (.lst (as.map ansV)) = true from dp_map ansV 59 as hdpA, show dp 60 (.lst []) = true from rfl]
      cases as with
      | nil => rfl
      | cons x l => rfl
    refine sk_cut (fun ρ => Bx (∃ (as : List (Wd × Bool)) (t : List PV), as.length ≤ 10 ∧ (∀ p ∈ as, Wn n p.1) ∧ t.length ≤ 10000 ∧
      ρ = [some (.val (.scr ns)), some (.own (.lst t)), some (.val (.int (n : Nat))), some (.val (.lst ((codesL n).map (codeV n)))), some (.val (codeV n hid)), z5, none, none, none, none, none, z11, none, none, some (.val (.lst ((everyL n hid).map .str))), some (.own (.lst (as.map ansV))), none, none, none])) ?_ ?_
    · simp [hneA]
      refine IfK.of (fun h => ?_) (fun h => ?_)
      · obtain ⟨d4, hd4, e4⟩ := draw_ok (ns := ns) (t := t) (b := 4) h63 (by omega) (by decide)
        have e4' : D__law_draw [.scr ns, .lst t, .int 4] = .ok (.int (d4 : Nat)) (.lst (t ++ [.int 0])) := e4
        simp [e4']
        refine IfK.of (fun h2 => ?_) (fun h2 => ?_)
        · cases as with
          | nil => simp at h
          | cons p as' =>
            have hg0 : getV (.lst ((p :: as').map ansV)) (.int 0) = some (ansV p) := v_get0 _ _
            have g1 : getV (ansV p) (.int 0) = some (.str p.1) := rfl
            have g2 : getV (ansV p) (.int 1) = some (.bl p.2) := rfl
            have hap : (p :: as').map ansV ++ [PV.tup [.str p.1, .bl !p.2]] = ((p :: as') ++ [(p.1, !p.2)]).map ansV := by simp [ansV]
            have hl5 : ((p :: as').map ansV).length < 16777216 := by rw [List.length_map]; omega
            generalize hQ : (p :: as').map ansV = AV at *
            simp [hg0, g1, g2]
            refine ⟨hl5, Bx.of ⟨(p :: as') ++ [(p.1, !p.2)], t ++ [.int 0], by rw [List.length_append]; simp at hal ⊢; omega, ?_, by simp; omega, by rw [hap]⟩⟩
            intro q hq
            rcases List.mem_append.mp hq with h | h
            · exact haw q h
            · simp at h; rw [h]; exact haw p (List.mem_cons_self ..)
        · simp
          exact Bx.of ⟨as, t ++ [.int 0], by omega, haw, by simp; omega, rfl⟩
      · simp
        exact Bx.of ⟨as, t, by omega, haw, by omega, rfl⟩
    · rintro ρ ⟨as, t, hal, haw, htl, rfl⟩
      clear hneA
      have hagc := v_agrc h1n h4n haw (by omega)
      have hask := v_ask h1n h4n haw (by omega)
      simp
      refine wp_loop (codesL n) (codeV n) (fun i ρ => ∃ (s15 : Sl) (z7 z16 : Option Sl), ((s15 = .own (.lst (as.map ansV)) ∧ i = 0) ∨ s15 = .val (.lst (as.map ansV))) ∧
        ρ = [some (.val (.scr ns)), some (.own (.lst t)), some (.val (.int (n : Nat))), some (.val (.lst ((codesL n).map (codeV n)))), some (.val (codeV n hid)), z5, some (.own (.lst ((((codesL n).take i).filter (agrB as)).map (codeV n)))), z7, none, none, none, z11, none, none, some (.val (.lst ((everyL n hid).map .str))), some s15, z16, none, none]) rfl ⟨_, none, none, .inl ⟨rfl, rfl⟩, rfl⟩ ?_ ?_
      · rintro i bs hi ρ ⟨s15, z7, z16, hs15, rfl⟩
        have hb := List.mem_of_getElem? hi
        have hbR := hR bs hb
        have hwb := v_words_in hn (RedW.all hbR.u)
        have htk : ((codesL n).take (i + 1)).filter (agrB as) = ((codesL n).take i).filter (agrB as) ++ if agrB as bs then [bs] else [] := by
          rw [List.take_succ, hi, List.filter_append]
          congr 1
          simp only [Option.toList_some, List.filter_cons, List.filter_nil]
        have hlen : (((codesL n).take i).filter (agrB as)).length ≤ 3000 := by
          refine Nat.le_trans (List.length_filter_le _ _) ?_
          rw [List.length_take]
          omega
        have hagr := agr_law hbR haw
        rw [htk]
        generalize ((codesL n).take i).filter (agrB as) = G at *
        have htt : ∀ p : Wd × Bool, tupT [nmT 11, nmT 18] (ansV p) = runT [nmT 11, nmT 18] [.str p.1, .bl p.2] := fun _ => rfl
        simp [hwb]
        refine wp_lc as ansV (fun p => !(decide (p.1 ∈ everyL n bs) == p.2)) (fun p => .str p.1) (by omega) ?_
        have hmm : (as.filter fun p => !(decide (p.1 ∈ everyL n bs) == p.2)).map (fun p => PV.str p.1) = ((as.filter fun p => !(decide (p.1 ∈ everyL n bs) == p.2)).map (·.1)).map .str := by rw [List.map_map]; rfl
        have hnil : decide ((as.filter fun p => !(decide (p.1 ∈ everyL n bs) == p.2)).map (·.1) = []) = agrB as bs := by
          rw [← hagr]
          congr 1
          rw [List.map_eq_nil_iff]
        rcases hs15 with ⟨rfl, -⟩ | rfl
        · simp
          refine Bx.of ⟨rfl, rfl, fun p hp => ?_, ?_⟩
          · have hq := v_neBB (decide (p.1 ∈ everyL n bs)) p.2
            simp [htt, hq]
          · rw [hmm]
            generalize (as.filter fun p => !(decide (p.1 ∈ everyL n bs) == p.2)).map (·.1) = FL at *
            have hq2 : eqV (.lst (FL.map .str)) (.lst []) = some (.bl (agrB as bs)) := by rw [v_eqLS0, hnil]
            simp [-v_eqLS0, hq2]
            refine IfK.of (fun h => ?_) (fun h => ?_)
            · simp [h]
              exact ⟨by omega, Bx.of ⟨_, some (.val (codeV n bs)), some (.val (.lst ((everyL n bs).map .str))), .inr rfl, by simp [h]⟩⟩
            · simp [h]
              exact Bx.of ⟨_, some (.val (codeV n bs)), some (.val (.lst ((everyL n bs).map .str))), .inr rfl, by simp [h]⟩
        · simp
          refine Bx.of ⟨rfl, rfl, fun p hp => ?_, ?_⟩
          · have hq := v_neBB (decide (p.1 ∈ everyL n bs)) p.2
            simp [htt, hq]
          · rw [hmm]
            generalize (as.filter fun p => !(decide (p.1 ∈ everyL n bs) == p.2)).map (·.1) = FL at *
            have hq2 : eqV (.lst (FL.map .str)) (.lst []) = some (.bl (agrB as bs)) := by rw [v_eqLS0, hnil]
            simp [-v_eqLS0, hq2]
            refine IfK.of (fun h => ?_) (fun h => ?_)
            · simp [h]
              exact ⟨by omega, Bx.of ⟨_, some (.val (codeV n bs)), some (.val (.lst ((everyL n bs).map .str))), .inr rfl, by simp [h]⟩⟩
            · simp [h]
              exact Bx.of ⟨_, some (.val (codeV n bs)), some (.val (.lst ((everyL n bs).map .str))), .inr rfl, by simp [h]⟩
      · rintro ρ ⟨s15, z7, z16, hs15, rfl⟩
        rw [List.take_length]
        obtain rfl : s15 = .val (.lst (as.map ansV)) := by
          rcases hs15 with ⟨-, h⟩ | h
          · exact absurd (List.length_eq_zero_iff.mp h) (codes_ne n)
          · exact h
        have hDR : ∀ bs ∈ (codesL n).filter (agrB as), RedW n bs := fun bs h => hR bs (List.mem_filter.mp h).1
        have hDl : ((codesL n).filter (agrB as)).length ≤ 3000 := Nat.le_trans (List.length_filter_le _ _) hCl
        have hdpC : ∀ us : List Wd, dp 59 (codeV n us) = true := fun us => by
          show (dp 58 (.int n) && (dp 58 (.tup (us.map .str)) && true)) = true
          rw [show dp 58 (.tup (us.map PV.str)) = true from dp_strs 57 us]; rfl
        generalize hD : (codesL n).filter (agrB as) = D at *
        have hnd : neV (.lst (D.map (codeV n))) (.lst (D.map (codeV n))) = some (.bl false) := neV_self (dp_map (codeV n) 59 D hdpC)
        have hqd : eqV (.lst (D.map (codeV n))) (.lst []) = some (.bl (decide (D = []))) := eq_nilL (codeV n) hdpC D
        by_cases hDe : D = []
        · rw [if_pos hDe] at hask
          have hw : eqV (whichV 13) (.tup [.str [114, 97, 105, 115, 101, 100], .int 13]) = some (.bl true) := rfl
          rw [decide_eq_true hDe] at hqd
          generalize whichV 13 = W13 at *
          generalize D.map (codeV n) = DV at *
          simp [hagc, hnd, hask, hqd, hw]
        · rw [if_neg hDe] at hask
          rw [decide_eq_false hDe] at hqd
          have haw2 := v_allw hn
          have hp : 2 ^ n ≤ 16 := Nat.pow_le_pow_right (j := 4) (by decide) h4n
          have hLAl : (allB n).length ≤ 16 := by rw [allB_len]; exact hp
          simp [hagc, hnd, hask, hqd]
          refine wp_lcm D (codeV n) (fun bs => .lst ((everyL n bs).map .str)) (by omega) ?_
          simp
          refine Bx.of ⟨rfl, rfl, fun bs hb => ?_, ?_⟩
          · simp [v_words_in hn (RedW.all (hDR bs hb).u)]
          · have hg0 : ∀ w : Wd, Wn n w → getV (.lst ((D.map fun bs => decide (w ∈ everyL n bs)).map PV.bl)) (.int 0) = some (.bl (headB D w)) := fun w hw => by
              cases D with
              | nil => exact absurd rfl hDe
              | cons c0 cs =>
                show getV (.lst (PV.bl (decide (w ∈ everyL n c0)) :: _)) (.int 0) = some (.bl (memB c0 w))
                rw [memB_iff (hDR c0 (List.mem_cons_self ..)) hw]
                exact v_get0 _ _
            simp [haw2]
            refine wp_loop (allB n) PV.str (fun i ρ => ∃ (z11 z16 z17 : Option Sl), ρ = [some (.val (.scr ns)), some (.own (.lst t)), some (.val (.int (n : Nat))), some (.val (.lst ((codesL n).map (codeV n)))), some (.val (codeV n hid)), z5, some (.val (.lst (D.map (codeV n)))), z7,
              some (.val (.lst ((knowL D (allB n)).map ansV))), some (.own (.lst ((knowL D ((allB n).take i)).map ansV))), some (.val (.lst (D.map fun bs => .lst ((everyL n bs).map .str)))), z11, none, none, some (.val (.lst ((everyL n hid).map .str))), some (.val (.lst (as.map ansV))), z16, z17, none]) rfl ⟨_, _, _, rfl⟩ ?_ ?_
            · rintro i w hi ρ ⟨z11, z16, z17, rfl⟩
              have hw := allB_mem.mp (List.mem_of_getElem? hi)
              have htk : knowL D ((allB n).take (i + 1)) = knowL D ((allB n).take i) ++ if sureB D w then [(w, headB D w)] else [] := by
                unfold knowL
                rw [List.take_succ, hi, List.filter_append, List.map_append]
                congr 1
                simp only [Option.toList_some, List.filter_cons, List.filter_nil]
                split <;> rfl
              have hlen : (knowL D ((allB n).take i)).length ≤ 16 := by
                unfold knowL
                rw [List.length_map]
                refine Nat.le_trans (List.length_filter_le _ _) ?_
                rw [List.length_take, allB_len]
                omega
              rw [htk]
              generalize knowL D ((allB n).take i) = G at *
              simp
              refine wp_lcm D (fun bs => .lst ((everyL n bs).map .str)) (fun bs => .bl (decide (w ∈ everyL n bs))) (by omega) ?_
              simp
              refine Bx.of ⟨rfl, rfl, fun bs hb => ?_, ?_⟩
              · simp
              · have hm2 : D.map (fun bs => PV.bl (decide (w ∈ everyL n bs))) = (D.map fun bs => decide (w ∈ everyL n bs)).map .bl := by rw [List.map_map]; rfl
                have hi1 := v_inBs true (D.map fun bs => decide (w ∈ everyL n bs))
                have hi2 := v_inBs false (D.map fun bs => decide (w ∈ everyL n bs))
                have hsu := sure_law hDR hw
                have e1 : decide (true ∈ D.map fun bs => decide (w ∈ everyL n bs)) = D.any fun bs => decide (w ∈ everyL n bs) := by
                  rw [Bool.eq_iff_iff, decide_eq_true_eq, List.mem_map, List.any_eq_true]
                have e2 : decide (false ∈ D.map fun bs => decide (w ∈ everyL n bs)) = D.any fun bs => !(decide (w ∈ everyL n bs)) := by
                  rw [Bool.eq_iff_iff, decide_eq_true_eq, List.mem_map, List.any_eq_true]
                  exact exists_congr fun bs => and_congr Iff.rfl (by cases decide (w ∈ everyL n bs) <;> simp)
                rw [e1] at hi1
                rw [e2] at hi2
                have hg := hg0 w hw
                rw [hm2]
                generalize (D.map fun bs => decide (w ∈ everyL n bs)).map PV.bl = SV at *
                generalize (D.any fun bs => decide (w ∈ everyL n bs)) = b1 at *
                generalize (D.any fun bs => !(decide (w ∈ everyL n bs))) = b2 at *
                simp [hi1]
                refine IfK.of (fun h => ?_) (fun h => ?_)
                · have hs : sureB D w = true := by rw [← hsu, h]; rfl
                  simp [hg]
                  exact ⟨by omega, Bx.of ⟨some (.val (.str w)), z16, some (.val (.lst SV)), by simp [hs, ansV]⟩⟩
                · simp [hi2]
                  refine IfK.of (fun h2 => ?_) (fun h2 => ?_)
                  · have hs : sureB D w = true := by rw [← hsu, h, h2]; rfl
                    simp [hg]
                    exact ⟨by omega, Bx.of ⟨some (.val (.str w)), z16, some (.val (.lst SV)), by simp [hs, ansV]⟩⟩
                  · have hs : sureB D w = false := by rw [← hsu, h, h2]; rfl
                    simp
                    exact Bx.of ⟨some (.val (.str w)), z16, some (.val (.lst SV)), by simp [hs]⟩
            · rintro ρ ⟨z11, z16, z17, rfl⟩
              rw [List.take_length]
              have hnk : neV (.lst ((knowL D (allB n)).map ansV)) (.lst ((knowL D (allB n)).map ansV)) = some (.bl false) := neV_self (dp_map ansV 59 _ hdpA)
              have hkl : (knowL D (allB n)).length ≤ 16 := by
                unfold knowL
                rw [List.length_map]
                exact Nat.le_trans (List.length_filter_le _ _) hLAl
              have hmem := know_mem hDe (W := allB n)
              have hmc := members_closed hDR
              simp [hnk]
              refine wp_lcm (allB n) PV.str (fun w => ansV (w, decide (w ∈ everyL n hid))) (by omega) ?_
              simp [haw2]
              refine Bx.of ⟨rfl, rfl, fun w hw => ?_, ?_⟩
              · simp [ansV]
              · have hfm : (allB n).map (fun w => ansV (w, decide (w ∈ everyL n hid))) = ((allB n).map fun w => (w, decide (w ∈ everyL n hid))).map ansV := by rw [List.map_map]; rfl
                have hagF := v_agrc h1n h4n (as := (allB n).map fun w => (w, decide (w ∈ everyL n hid))) (fun p hp => by
                  obtain ⟨w, hw, rfl⟩ := List.mem_map.mp hp
                  exact allB_mem.mp hw) (by rw [List.length_map]; omega)
                have hone : (codesL n).filter (agrB ((allB n).map fun w => (w, decide (w ∈ everyL n hid)))) = [hid] := filter_one (codes_nodup4 h4n) hidm fun bs hb => by
                  rw [Bool.eq_iff_iff, decide_eq_true_eq]
                  unfold agrB
                  rw [List.all_eq_true]
                  constructor
                  · intro h
                    refine red_uniqW (hR bs hb) hidR fun w hw => ?_
                    have := h (w, decide (w ∈ everyL n hid)) (List.mem_map.mpr ⟨w, allB_mem.mpr hw, rfl⟩)
                    have := eq_of_beq this
                    rw [memB_iff (hR bs hb) hw] at this
                    exact decide_eq_decide.mp this
                  · rintro rfl p hp
                    obtain ⟨w, hw, rfl⟩ := List.mem_map.mp hp
                    show (memB bs w == decide (w ∈ everyL n bs)) = true
                    rw [memB_iff (hR bs hb) (allB_mem.mp hw)]
                    simp
                rw [hone] at hagF
                have hne1 : neV (.lst ([hid].map (codeV n))) (.lst [codeV n hid]) = some (.bl false) := neV_self (x := .lst [codeV n hid]) (by
                  show (dp 59 (codeV n hid) && true) = true
                  rw [hdpC]; rfl)
                rw [hfm]
                generalize ((allB n).map fun w => (w, decide (w ∈ everyL n hid))).map ansV = FV at *
                generalize [hid].map (codeV n) = HV at *
                simp [hagF, hne1]
                have htt : ∀ p : Wd × Bool, tupT [nmT 11, nmT 18] (ansV p) = runT [nmT 11, nmT 18] [.str p.1, .bl p.2] := fun _ => rfl
                refine wp_lc (knowL D (allB n)) ansV (fun p => p.2) (fun p => .str p.1) (by omega) ?_
                simp
                refine Bx.of ⟨rfl, rfl, fun p hp => ?_, ?_⟩
                · simp [htt]
                · have hmm : ((knowL D (allB n)).filter fun p => p.2).map (fun p => PV.str p.1) = (((knowL D (allB n)).filter fun p => p.2).map (·.1)).map .str := by rw [List.map_map]; rfl
                  rw [hmm, hmem]
                  have hMW : AllW n ((allB n).filter fun w => D.all fun bs => memB bs w) := fun v hv => allB_mem.mp (List.mem_filter.mp hv).1
                  have hclo := v_closure hn hMW (v := .lst (((allB n).filter fun w => D.all fun bs => memB bs w).map .str)) rfl
                  have hEl := enum_len (every_ok hMW) hn
                  generalize (allB n).filter (fun w => D.all fun bs => memB bs w) = MM at *
                  simp
                  refine wp_lc (everyL n MM) PV.str (fun w => !(decide (w ∈ MM))) PV.str (by omega) ?_
                  simp [hclo]
                  refine Bx.of ⟨rfl, rfl, fun w hw => ?_, ?_⟩
                  · simp
                  · have hfe : (everyL n MM).filter (fun w => !(decide (w ∈ MM))) = [] := by
                      rw [List.filter_eq_nil_iff]
                      intro w hw
                      simp [hmc w hw]
                    rw [hfe]
                    have : eqV (.lst []) (.lst []) = some (.bl true) := rfl
                    simp [this]

end Gk19

set_option Elab.async false
set_option linter.all false
set_option maxRecDepth 100000
set_option maxHeartbeats 0
namespace Gk19
open PySem PySem.Spec PyProof.Rows L2 G7
def dd_is_any_integer : He.DefD := ⟨("is_any_integer", none), "is_any_integer", "is_any_integer", defArgs s_is_any_integer, defBody s_is_any_integer, defScope s_is_any_integer, [], []⟩
def dd_is_integer : He.DefD := ⟨("is_integer", none), "is_integer", "is_integer", defArgs s_is_integer, defBody s_is_integer, defScope s_is_integer, [], []⟩
def dd_valid_word : He.DefD := ⟨("valid_word", none), "valid_word", "valid_word", defArgs s_valid_word, defBody s_valid_word, defScope s_valid_word, [], []⟩
def dd_sum_of : He.DefD := ⟨("sum_of", none), "sum_of", "sum_of", defArgs s_sum_of, defBody s_sum_of, defScope s_sum_of, [], []⟩
def dd_all_words : He.DefD := ⟨("all_words", none), "all_words", "all_words", defArgs s_all_words, defBody s_all_words, defScope s_all_words, [], []⟩
def dd_remainder : He.DefD := ⟨("remainder", none), "remainder", "remainder", defArgs s_remainder, defBody s_remainder, defScope s_remainder, [], []⟩
def dd_codes_of : He.DefD := ⟨("codes_of", none), "codes_of", "codes_of", defArgs s_codes_of, defBody s_codes_of, defScope s_codes_of, [], []⟩
def dd_check_short : He.DefD := ⟨("check_short", none), "check_short", "check_short", defArgs s_check_short, defBody s_check_short, defScope s_check_short, [], []⟩
def dd_all_codes : He.DefD := ⟨("all_codes", none), "all_codes", "all_codes", defArgs s_all_codes, defBody s_all_codes, defScope s_all_codes, [], []⟩
def dd_is_answer : He.DefD := ⟨("is_answer", none), "is_answer", "is_answer", defArgs s_is_answer, defBody s_is_answer, defScope s_is_answer, [], []⟩
def dd_agreeing : He.DefD := ⟨("agreeing", none), "agreeing", "agreeing", defArgs s_agreeing, defBody s_agreeing, defScope s_agreeing, [], []⟩
def dd_check_answers : He.DefD := ⟨("check_answers", none), "check_answers", "check_answers", defArgs s_check_answers, defBody s_check_answers, defScope s_check_answers, [], []⟩
def dd_agreeing_codes : He.DefD := ⟨("agreeing_codes", none), "agreeing_codes", "agreeing_codes", defArgs s_agreeing_codes, defBody s_agreeing_codes, defScope s_agreeing_codes, [], []⟩
def dd_known_words : He.DefD := ⟨("known_words", none), "known_words", "known_words", defArgs s_known_words, defBody s_known_words, defScope s_known_words, [], []⟩
def dd__law_cell_at : He.DefD := ⟨("_law_cell_at", none), "_law_cell_at", "_law_cell_at", defArgs s__law_cell_at, defBody s__law_cell_at, defScope s__law_cell_at, [], []⟩
def dd__law_mixed : He.DefD := ⟨("_law_mixed", none), "_law_mixed", "_law_mixed", defArgs s__law_mixed, defBody s__law_mixed, defScope s__law_mixed, [], []⟩
def dd__law_draw : He.DefD := ⟨("_law_draw", none), "_law_draw", "_law_draw", defArgs s__law_draw, defBody s__law_draw, defScope s__law_draw, [], []⟩
def dd__law_pick : He.DefD := ⟨("_law_pick", none), "_law_pick", "_law_pick", defArgs s__law_pick, defBody s__law_pick, defScope s__law_pick, [], []⟩
def dd__law_word : He.DefD := ⟨("_law_word", none), "_law_word", "_law_word", defArgs s__law_word, defBody s__law_word, defScope s__law_word, [], []⟩
def dd__law_all_words : He.DefD := ⟨("_law_all_words", none), "_law_all_words", "_law_all_words", defArgs s__law_all_words, defBody s__law_all_words, defScope s__law_all_words, [], []⟩
def dd__law_plus : He.DefD := ⟨("_law_plus", none), "_law_plus", "_law_plus", defArgs s__law_plus, defBody s__law_plus, defScope s__law_plus, [], []⟩
def dd__law_closure : He.DefD := ⟨("_law_closure", none), "_law_closure", "_law_closure", defArgs s__law_closure, defBody s__law_closure, defScope s__law_closure, [], []⟩
def dd__law_words_in : He.DefD := ⟨("_law_words_in", none), "_law_words_in", "_law_words_in", defArgs s__law_words_in, defBody s__law_words_in, defScope s__law_words_in, [], []⟩
def dd__law_which : He.DefD := ⟨("_law_which", none), "_law_which", "_law_which", defArgs s__law_which, defBody s__law_which, defScope s__law_which, [], []⟩
def dd__law_ask : He.DefD := ⟨("_law_ask", none), "_law_ask", "_law_ask", defArgs s__law_ask, defBody s__law_ask, defScope s__law_ask, [], []⟩
def dd_law : He.DefD := ⟨("law", none), "law", "law", defArgs s_law, defBody s_law, defScope s_law, [], []⟩
def fn : List He.DefD := [dd_is_any_integer, dd_is_integer, dd_valid_word, dd_sum_of, dd_all_words, dd_remainder, dd_codes_of, dd_check_short, dd_all_codes, dd_is_answer, dd_agreeing, dd_check_answers, dd_agreeing_codes, dd_known_words, dd__law_cell_at, dd__law_mixed, dd__law_draw, dd__law_pick, dd__law_word, dd__law_all_words, dd__law_plus, dd__law_closure, dd__law_words_in, dd__law_which, dd__law_ask, dd_law]
def fa : List He.Fa := [.glo "is_any_integer", .glo "is_integer", .glo "valid_word", .glo "sum_of", .glo "all_words", .glo "remainder", .glo "codes_of", .glo "check_short", .glo "all_codes", .glo "is_answer", .glo "agreeing", .glo "check_answers", .glo "agreeing_codes", .glo "known_words", .glo "_law_cell_at", .glo "_law_mixed", .glo "_law_draw", .glo "_law_pick", .glo "_law_word", .glo "_law_all_words", .glo "_law_plus", .glo "_law_closure", .glo "_law_words_in", .glo "_law_which", .glo "_law_ask", .glo "law", .int "SHORT" 4, .glo "CodeError", .glo "InvalidAnswers", .exc "InvalidAnswers", .glo "InvalidBlock", .exc "InvalidBlock", .glo "InvalidCode", .exc "InvalidCode", .glo "InvalidCounts", .exc "InvalidCounts", .glo "InvalidDistance", .exc "InvalidDistance", .glo "InvalidIndex", .exc "InvalidIndex", .glo "InvalidLength", .exc "InvalidLength", .glo "InvalidOrder", .exc "InvalidOrder", .glo "InvalidPartial", .exc "InvalidPartial", .glo "InvalidPosition", .exc "InvalidPosition", .glo "InvalidWord", .exc "InvalidWord", .glo "NoWords", .exc "NoWords", .glo "NothingToUndo", .exc "NothingToUndo", .glo "ParseError", .exc "ParseError", .glo "TooLong", .exc "TooLong", .glo "Underdetermined", .exc "Underdetermined", .free "ValueError", .free "all", .free "any", .free "bool", .free "int", .free "isinstance", .free "len", .free "list", .free "min", .free "range", .free "sorted", .free "str", .free "tuple", .free "zip"]
def ex : List ExF := [fun K => excB K]
def loose0 : List Str := ["__name__", "CodeError", "InvalidLength", "InvalidWord", "InvalidCode", "InvalidBlock", "InvalidCounts", "InvalidIndex", "InvalidPosition", "InvalidOrder", "TooLong", "NoWords", "InvalidDistance", "InvalidPartial", "Underdetermined", "InvalidAnswers", "ParseError", "NothingToUndo", "is_any_integer", "is_integer", "valid_word", "sum_of", "all_words", "remainder", "SHORT", "codes_of", "check_short", "all_codes", "is_answer", "agreeing"]
def loose1 : List Str := ["check_answers", "agreeing_codes", "known_words", "_law_cell_at", "_law_mixed", "_law_draw", "_law_pick", "_law_word", "_law_all_words", "_law_plus", "_law_closure", "_law_words_in", "_law_which", "_law_ask"]
abbrev loose : List Str := loose0 ++ loose1
abbrev R : PySem.W.OpenRow := PySem.W.OpenLaw.row PySem.Challenge.rw_codebounds_k19_whole_hidden_codes
abbrev hk : PySem.W.Hook := hookX 4 ex fa fn
def ob (s : PySem.W.SharedT) : AlX := obsXG 4 ex fa fn (HandSHeadRun.getT s)
theorem ob_eq (s : PySem.W.SharedT) : ob s = hk.obs s.abs := obsXG_eq (HandSHeadRun.getT_eq s)
theorem run (w : World) : HandSHeadRun.RunEq R (PySem.W.view R.prog [49]) hk ob 8100 loose w := by
  intro os
  kernel_rfl
theorem facts {K : PySem.W.Frag} {h : Heap} {mg : Str → Option Value} (X : K.In h) (G : h.Ns mainGlobals mg) (c : SaysX ex fa fn K) : Nonempty (Tx K mg) :=
  ⟨{ d_is_any_integer := (c.d.def_ 0 (d := dd_is_any_integer) rfl).choose,
     F_is_any_integer := (c.d.def_ 0 (d := dd_is_any_integer) rfl).choose_spec,
     g_is_any_integer := He.glo_ok X G (c.d.fact 0 (f := .glo "is_any_integer") rfl),
     d_is_integer := (c.d.def_ 1 (d := dd_is_integer) rfl).choose,
     F_is_integer := (c.d.def_ 1 (d := dd_is_integer) rfl).choose_spec,
     g_is_integer := He.glo_ok X G (c.d.fact 1 (f := .glo "is_integer") rfl),
     d_valid_word := (c.d.def_ 2 (d := dd_valid_word) rfl).choose,
     F_valid_word := (c.d.def_ 2 (d := dd_valid_word) rfl).choose_spec,
     g_valid_word := He.glo_ok X G (c.d.fact 2 (f := .glo "valid_word") rfl),
     d_sum_of := (c.d.def_ 3 (d := dd_sum_of) rfl).choose,
     F_sum_of := (c.d.def_ 3 (d := dd_sum_of) rfl).choose_spec,
     g_sum_of := He.glo_ok X G (c.d.fact 3 (f := .glo "sum_of") rfl),
     d_all_words := (c.d.def_ 4 (d := dd_all_words) rfl).choose,
     F_all_words := (c.d.def_ 4 (d := dd_all_words) rfl).choose_spec,
     g_all_words := He.glo_ok X G (c.d.fact 4 (f := .glo "all_words") rfl),
     d_remainder := (c.d.def_ 5 (d := dd_remainder) rfl).choose,
     F_remainder := (c.d.def_ 5 (d := dd_remainder) rfl).choose_spec,
     g_remainder := He.glo_ok X G (c.d.fact 5 (f := .glo "remainder") rfl),
     d_codes_of := (c.d.def_ 6 (d := dd_codes_of) rfl).choose,
     F_codes_of := (c.d.def_ 6 (d := dd_codes_of) rfl).choose_spec,
     g_codes_of := He.glo_ok X G (c.d.fact 6 (f := .glo "codes_of") rfl),
     d_check_short := (c.d.def_ 7 (d := dd_check_short) rfl).choose,
     F_check_short := (c.d.def_ 7 (d := dd_check_short) rfl).choose_spec,
     g_check_short := He.glo_ok X G (c.d.fact 7 (f := .glo "check_short") rfl),
     d_all_codes := (c.d.def_ 8 (d := dd_all_codes) rfl).choose,
     F_all_codes := (c.d.def_ 8 (d := dd_all_codes) rfl).choose_spec,
     g_all_codes := He.glo_ok X G (c.d.fact 8 (f := .glo "all_codes") rfl),
     d_is_answer := (c.d.def_ 9 (d := dd_is_answer) rfl).choose,
     F_is_answer := (c.d.def_ 9 (d := dd_is_answer) rfl).choose_spec,
     g_is_answer := He.glo_ok X G (c.d.fact 9 (f := .glo "is_answer") rfl),
     d_agreeing := (c.d.def_ 10 (d := dd_agreeing) rfl).choose,
     F_agreeing := (c.d.def_ 10 (d := dd_agreeing) rfl).choose_spec,
     g_agreeing := He.glo_ok X G (c.d.fact 10 (f := .glo "agreeing") rfl),
     d_check_answers := (c.d.def_ 11 (d := dd_check_answers) rfl).choose,
     F_check_answers := (c.d.def_ 11 (d := dd_check_answers) rfl).choose_spec,
     g_check_answers := He.glo_ok X G (c.d.fact 11 (f := .glo "check_answers") rfl),
     d_agreeing_codes := (c.d.def_ 12 (d := dd_agreeing_codes) rfl).choose,
     F_agreeing_codes := (c.d.def_ 12 (d := dd_agreeing_codes) rfl).choose_spec,
     g_agreeing_codes := He.glo_ok X G (c.d.fact 12 (f := .glo "agreeing_codes") rfl),
     d_known_words := (c.d.def_ 13 (d := dd_known_words) rfl).choose,
     F_known_words := (c.d.def_ 13 (d := dd_known_words) rfl).choose_spec,
     g_known_words := He.glo_ok X G (c.d.fact 13 (f := .glo "known_words") rfl),
     d__law_cell_at := (c.d.def_ 14 (d := dd__law_cell_at) rfl).choose,
     F__law_cell_at := (c.d.def_ 14 (d := dd__law_cell_at) rfl).choose_spec,
     g__law_cell_at := He.glo_ok X G (c.d.fact 14 (f := .glo "_law_cell_at") rfl),
     d__law_mixed := (c.d.def_ 15 (d := dd__law_mixed) rfl).choose,
     F__law_mixed := (c.d.def_ 15 (d := dd__law_mixed) rfl).choose_spec,
     g__law_mixed := He.glo_ok X G (c.d.fact 15 (f := .glo "_law_mixed") rfl),
     d__law_draw := (c.d.def_ 16 (d := dd__law_draw) rfl).choose,
     F__law_draw := (c.d.def_ 16 (d := dd__law_draw) rfl).choose_spec,
     g__law_draw := He.glo_ok X G (c.d.fact 16 (f := .glo "_law_draw") rfl),
     d__law_pick := (c.d.def_ 17 (d := dd__law_pick) rfl).choose,
     F__law_pick := (c.d.def_ 17 (d := dd__law_pick) rfl).choose_spec,
     g__law_pick := He.glo_ok X G (c.d.fact 17 (f := .glo "_law_pick") rfl),
     d__law_word := (c.d.def_ 18 (d := dd__law_word) rfl).choose,
     F__law_word := (c.d.def_ 18 (d := dd__law_word) rfl).choose_spec,
     g__law_word := He.glo_ok X G (c.d.fact 18 (f := .glo "_law_word") rfl),
     d__law_all_words := (c.d.def_ 19 (d := dd__law_all_words) rfl).choose,
     F__law_all_words := (c.d.def_ 19 (d := dd__law_all_words) rfl).choose_spec,
     g__law_all_words := He.glo_ok X G (c.d.fact 19 (f := .glo "_law_all_words") rfl),
     d__law_plus := (c.d.def_ 20 (d := dd__law_plus) rfl).choose,
     F__law_plus := (c.d.def_ 20 (d := dd__law_plus) rfl).choose_spec,
     g__law_plus := He.glo_ok X G (c.d.fact 20 (f := .glo "_law_plus") rfl),
     d__law_closure := (c.d.def_ 21 (d := dd__law_closure) rfl).choose,
     F__law_closure := (c.d.def_ 21 (d := dd__law_closure) rfl).choose_spec,
     g__law_closure := He.glo_ok X G (c.d.fact 21 (f := .glo "_law_closure") rfl),
     d__law_words_in := (c.d.def_ 22 (d := dd__law_words_in) rfl).choose,
     F__law_words_in := (c.d.def_ 22 (d := dd__law_words_in) rfl).choose_spec,
     g__law_words_in := He.glo_ok X G (c.d.fact 22 (f := .glo "_law_words_in") rfl),
     d__law_which := (c.d.def_ 23 (d := dd__law_which) rfl).choose,
     F__law_which := (c.d.def_ 23 (d := dd__law_which) rfl).choose_spec,
     g__law_which := He.glo_ok X G (c.d.fact 23 (f := .glo "_law_which") rfl),
     d__law_ask := (c.d.def_ 24 (d := dd__law_ask) rfl).choose,
     F__law_ask := (c.d.def_ 24 (d := dd__law_ask) rfl).choose_spec,
     g__law_ask := He.glo_ok X G (c.d.fact 24 (f := .glo "_law_ask") rfl),
     d_law := (c.d.def_ 25 (d := dd_law) rfl).choose,
     F_law := (c.d.def_ 25 (d := dd_law) rfl).choose_spec,
     g_law := He.glo_ok X G (c.d.fact 25 (f := .glo "law") rfl),
     c_SHORT := He.int_ok X G (c.d.fact 26 (f := .int "SHORT" 4) rfl),
     g_CodeError := He.glo_ok X G (c.d.fact 27 (f := .glo "CodeError") rfl),
     m_exc := (excB_ok (c.more 0 (f := fun K => excB K) rfl)).1,
     e_exc := (excB_ok (c.more 0 (f := fun K => excB K) rfl)).2.1,
     i_exc := (excB_ok (c.more 0 (f := fun K => excB K) rfl)).2.2.1,
     v_exc := (excB_ok (c.more 0 (f := fun K => excB K) rfl)).2.2.2,
     g_InvalidAnswers := He.glo_ok X G (c.d.fact 28 (f := .glo "InvalidAnswers") rfl),
     x_InvalidAnswers := (He.exc_ok (c.d.fact 29 (f := .exc "InvalidAnswers") rfl)).1,
     k_InvalidAnswers := (He.exc_ok (c.d.fact 29 (f := .exc "InvalidAnswers") rfl)).2.1,
     b_InvalidAnswers := (He.exc_ok (c.d.fact 29 (f := .exc "InvalidAnswers") rfl)).2.2.1,
     t_InvalidAnswers := (He.exc_ok (c.d.fact 29 (f := .exc "InvalidAnswers") rfl)).2.2.2,
     g_InvalidBlock := He.glo_ok X G (c.d.fact 30 (f := .glo "InvalidBlock") rfl),
     x_InvalidBlock := (He.exc_ok (c.d.fact 31 (f := .exc "InvalidBlock") rfl)).1,
     k_InvalidBlock := (He.exc_ok (c.d.fact 31 (f := .exc "InvalidBlock") rfl)).2.1,
     b_InvalidBlock := (He.exc_ok (c.d.fact 31 (f := .exc "InvalidBlock") rfl)).2.2.1,
     t_InvalidBlock := (He.exc_ok (c.d.fact 31 (f := .exc "InvalidBlock") rfl)).2.2.2,
     g_InvalidCode := He.glo_ok X G (c.d.fact 32 (f := .glo "InvalidCode") rfl),
     x_InvalidCode := (He.exc_ok (c.d.fact 33 (f := .exc "InvalidCode") rfl)).1,
     k_InvalidCode := (He.exc_ok (c.d.fact 33 (f := .exc "InvalidCode") rfl)).2.1,
     b_InvalidCode := (He.exc_ok (c.d.fact 33 (f := .exc "InvalidCode") rfl)).2.2.1,
     t_InvalidCode := (He.exc_ok (c.d.fact 33 (f := .exc "InvalidCode") rfl)).2.2.2,
     g_InvalidCounts := He.glo_ok X G (c.d.fact 34 (f := .glo "InvalidCounts") rfl),
     x_InvalidCounts := (He.exc_ok (c.d.fact 35 (f := .exc "InvalidCounts") rfl)).1,
     k_InvalidCounts := (He.exc_ok (c.d.fact 35 (f := .exc "InvalidCounts") rfl)).2.1,
     b_InvalidCounts := (He.exc_ok (c.d.fact 35 (f := .exc "InvalidCounts") rfl)).2.2.1,
     t_InvalidCounts := (He.exc_ok (c.d.fact 35 (f := .exc "InvalidCounts") rfl)).2.2.2,
     g_InvalidDistance := He.glo_ok X G (c.d.fact 36 (f := .glo "InvalidDistance") rfl),
     x_InvalidDistance := (He.exc_ok (c.d.fact 37 (f := .exc "InvalidDistance") rfl)).1,
     k_InvalidDistance := (He.exc_ok (c.d.fact 37 (f := .exc "InvalidDistance") rfl)).2.1,
     b_InvalidDistance := (He.exc_ok (c.d.fact 37 (f := .exc "InvalidDistance") rfl)).2.2.1,
     t_InvalidDistance := (He.exc_ok (c.d.fact 37 (f := .exc "InvalidDistance") rfl)).2.2.2,
     g_InvalidIndex := He.glo_ok X G (c.d.fact 38 (f := .glo "InvalidIndex") rfl),
     x_InvalidIndex := (He.exc_ok (c.d.fact 39 (f := .exc "InvalidIndex") rfl)).1,
     k_InvalidIndex := (He.exc_ok (c.d.fact 39 (f := .exc "InvalidIndex") rfl)).2.1,
     b_InvalidIndex := (He.exc_ok (c.d.fact 39 (f := .exc "InvalidIndex") rfl)).2.2.1,
     t_InvalidIndex := (He.exc_ok (c.d.fact 39 (f := .exc "InvalidIndex") rfl)).2.2.2,
     g_InvalidLength := He.glo_ok X G (c.d.fact 40 (f := .glo "InvalidLength") rfl),
     x_InvalidLength := (He.exc_ok (c.d.fact 41 (f := .exc "InvalidLength") rfl)).1,
     k_InvalidLength := (He.exc_ok (c.d.fact 41 (f := .exc "InvalidLength") rfl)).2.1,
     b_InvalidLength := (He.exc_ok (c.d.fact 41 (f := .exc "InvalidLength") rfl)).2.2.1,
     t_InvalidLength := (He.exc_ok (c.d.fact 41 (f := .exc "InvalidLength") rfl)).2.2.2,
     g_InvalidOrder := He.glo_ok X G (c.d.fact 42 (f := .glo "InvalidOrder") rfl),
     x_InvalidOrder := (He.exc_ok (c.d.fact 43 (f := .exc "InvalidOrder") rfl)).1,
     k_InvalidOrder := (He.exc_ok (c.d.fact 43 (f := .exc "InvalidOrder") rfl)).2.1,
     b_InvalidOrder := (He.exc_ok (c.d.fact 43 (f := .exc "InvalidOrder") rfl)).2.2.1,
     t_InvalidOrder := (He.exc_ok (c.d.fact 43 (f := .exc "InvalidOrder") rfl)).2.2.2,
     g_InvalidPartial := He.glo_ok X G (c.d.fact 44 (f := .glo "InvalidPartial") rfl),
     x_InvalidPartial := (He.exc_ok (c.d.fact 45 (f := .exc "InvalidPartial") rfl)).1,
     k_InvalidPartial := (He.exc_ok (c.d.fact 45 (f := .exc "InvalidPartial") rfl)).2.1,
     b_InvalidPartial := (He.exc_ok (c.d.fact 45 (f := .exc "InvalidPartial") rfl)).2.2.1,
     t_InvalidPartial := (He.exc_ok (c.d.fact 45 (f := .exc "InvalidPartial") rfl)).2.2.2,
     g_InvalidPosition := He.glo_ok X G (c.d.fact 46 (f := .glo "InvalidPosition") rfl),
     x_InvalidPosition := (He.exc_ok (c.d.fact 47 (f := .exc "InvalidPosition") rfl)).1,
     k_InvalidPosition := (He.exc_ok (c.d.fact 47 (f := .exc "InvalidPosition") rfl)).2.1,
     b_InvalidPosition := (He.exc_ok (c.d.fact 47 (f := .exc "InvalidPosition") rfl)).2.2.1,
     t_InvalidPosition := (He.exc_ok (c.d.fact 47 (f := .exc "InvalidPosition") rfl)).2.2.2,
     g_InvalidWord := He.glo_ok X G (c.d.fact 48 (f := .glo "InvalidWord") rfl),
     x_InvalidWord := (He.exc_ok (c.d.fact 49 (f := .exc "InvalidWord") rfl)).1,
     k_InvalidWord := (He.exc_ok (c.d.fact 49 (f := .exc "InvalidWord") rfl)).2.1,
     b_InvalidWord := (He.exc_ok (c.d.fact 49 (f := .exc "InvalidWord") rfl)).2.2.1,
     t_InvalidWord := (He.exc_ok (c.d.fact 49 (f := .exc "InvalidWord") rfl)).2.2.2,
     g_NoWords := He.glo_ok X G (c.d.fact 50 (f := .glo "NoWords") rfl),
     x_NoWords := (He.exc_ok (c.d.fact 51 (f := .exc "NoWords") rfl)).1,
     k_NoWords := (He.exc_ok (c.d.fact 51 (f := .exc "NoWords") rfl)).2.1,
     b_NoWords := (He.exc_ok (c.d.fact 51 (f := .exc "NoWords") rfl)).2.2.1,
     t_NoWords := (He.exc_ok (c.d.fact 51 (f := .exc "NoWords") rfl)).2.2.2,
     g_NothingToUndo := He.glo_ok X G (c.d.fact 52 (f := .glo "NothingToUndo") rfl),
     x_NothingToUndo := (He.exc_ok (c.d.fact 53 (f := .exc "NothingToUndo") rfl)).1,
     k_NothingToUndo := (He.exc_ok (c.d.fact 53 (f := .exc "NothingToUndo") rfl)).2.1,
     b_NothingToUndo := (He.exc_ok (c.d.fact 53 (f := .exc "NothingToUndo") rfl)).2.2.1,
     t_NothingToUndo := (He.exc_ok (c.d.fact 53 (f := .exc "NothingToUndo") rfl)).2.2.2,
     g_ParseError := He.glo_ok X G (c.d.fact 54 (f := .glo "ParseError") rfl),
     x_ParseError := (He.exc_ok (c.d.fact 55 (f := .exc "ParseError") rfl)).1,
     k_ParseError := (He.exc_ok (c.d.fact 55 (f := .exc "ParseError") rfl)).2.1,
     b_ParseError := (He.exc_ok (c.d.fact 55 (f := .exc "ParseError") rfl)).2.2.1,
     t_ParseError := (He.exc_ok (c.d.fact 55 (f := .exc "ParseError") rfl)).2.2.2,
     g_TooLong := He.glo_ok X G (c.d.fact 56 (f := .glo "TooLong") rfl),
     x_TooLong := (He.exc_ok (c.d.fact 57 (f := .exc "TooLong") rfl)).1,
     k_TooLong := (He.exc_ok (c.d.fact 57 (f := .exc "TooLong") rfl)).2.1,
     b_TooLong := (He.exc_ok (c.d.fact 57 (f := .exc "TooLong") rfl)).2.2.1,
     t_TooLong := (He.exc_ok (c.d.fact 57 (f := .exc "TooLong") rfl)).2.2.2,
     g_Underdetermined := He.glo_ok X G (c.d.fact 58 (f := .glo "Underdetermined") rfl),
     x_Underdetermined := (He.exc_ok (c.d.fact 59 (f := .exc "Underdetermined") rfl)).1,
     k_Underdetermined := (He.exc_ok (c.d.fact 59 (f := .exc "Underdetermined") rfl)).2.1,
     b_Underdetermined := (He.exc_ok (c.d.fact 59 (f := .exc "Underdetermined") rfl)).2.2.1,
     t_Underdetermined := (He.exc_ok (c.d.fact 59 (f := .exc "Underdetermined") rfl)).2.2.2,
     z_ValueError := He.free_ok X G (c.d.fact 60 (f := .free "ValueError") rfl),
     z_all := He.free_ok X G (c.d.fact 61 (f := .free "all") rfl),
     z_any := He.free_ok X G (c.d.fact 62 (f := .free "any") rfl),
     z_bool := He.free_ok X G (c.d.fact 63 (f := .free "bool") rfl),
     z_int := He.free_ok X G (c.d.fact 64 (f := .free "int") rfl),
     z_isinstance := He.free_ok X G (c.d.fact 65 (f := .free "isinstance") rfl),
     z_len := He.free_ok X G (c.d.fact 66 (f := .free "len") rfl),
     z_list := He.free_ok X G (c.d.fact 67 (f := .free "list") rfl),
     z_min := He.free_ok X G (c.d.fact 68 (f := .free "min") rfl),
     z_range := He.free_ok X G (c.d.fact 69 (f := .free "range") rfl),
     z_sorted := He.free_ok X G (c.d.fact 70 (f := .free "sorted") rfl),
     z_str := He.free_ok X G (c.d.fact 71 (f := .free "str") rfl),
     z_tuple := He.free_ok X G (c.d.fact 72 (f := .free "tuple") rfl),
     z_zip := He.free_ok X G (c.d.fact 73 (f := .free "zip") rfl) }⟩
end Gk19
open PySem PySem.W PySem.Calls PyProof.Rows
theorem PySem.Challenge.cw_codebounds_k19_whole_hidden_codes_holds : PySem.Challenge.rw_codebounds_k19_whole_hidden_codes.Holds := by
  w_on; o_law
  refine HandSHeadRun.head_any (r := OpenLaw.row PySem.Challenge.rw_codebounds_k19_whole_hidden_codes) (q := view (OpenLaw.row PySem.Challenge.rw_codebounds_k19_whole_hidden_codes).prog [49]) (H := Gk19.hk) (ob := Gk19.ob) (M := 8100) (loose := Gk19.loose) (d := HandSHeadRun.topDef (OpenLaw.row PySem.Challenge.rw_codebounds_k19_whole_hidden_codes).prog 49) (kwd := []) Gk19.ob_eq
    (by kernel_rfl) (fun s => by kernel_rfl) Gk19.run (by kernel_rfl) (by kernel_rfl) (by kernel_rfl) (by rfl) (by first | assumption | decide +kernel) (by decide +kernel) ⟨rfl, rfl, rfl, rfl, rfl, by decide +kernel⟩ ?hw ?hc
  case hw => w_witness2
  case hc =>
    refine L2.walk_ofE (l := PySem.Challenge.rw_codebounds_k19_whole_hidden_codes) (n := 63) (k := 7) (x := "script") (CX := L2.CX0) rfl (by decide) (by kernel_rfl) ⟨rfl, by decide, by decide⟩ ?F (fun _ _ _ _ z => z)
    intro w mg fa h Y G hmg0
    obtain ⟨K, KX, c⟩ := Y
    have hmg : mg ("law" : PySem.Str) = some (.ref fa) := by
      have e : (HandSHeadRun.topDef (OpenLaw.row PySem.Challenge.rw_codebounds_k19_whole_hidden_codes).prog 49).name = ("law" : PySem.Str) := by kernel_rfl
      rw [← e]
      exact hmg0
    obtain ⟨T⟩ := Gk19.facts KX G c
    have ea : fa = He.ga K "law" := by
      have := hmg.symm.trans T.g_law
      cases this
      rfl
    subst ea
    have b := L2.FunD.bindsA (ps := ["script"]) T.F_law fun _ _ _ _ _ _ us hl => match us, hl with | [_], _ => rfl
    exact ⟨K, T.d_law, G7.spP K G7.EE0 1 Gk19.D_law, KX, fun s v => b s [v] rfl, fun H a ns hl _ hS => G7.sp_law Gk19.law_ok H a ns hl hS, fun base _ _ => G7.okq (Gk19.ok_law T)⟩

