import PyProof.Rows.All
import Wide.All
import OpenK.AllK
import Wide.FinOn
import HandS.ForMost
import HandS.ForExc
import HandS.TupAny
import HandS.TupMul
import HandS.Deep
import HandS.IsInst
import HandS.Text
import HandS.Defaults
import HandS.Flow
import HandS.Iter
import HandS.TryOnly
import HandS.Zip
import HandS.Comp
import HandS.List
import HandS.More
import HandS.Star
import HandS.Small
import HandS.Finally
import PyProof.RulesMatch
import HandS.ExcValue
import HandS.ExcIs
import HandS.HeadHook1
import KE.KExcIs
import HandS.Property
import HandS.HeadHook2
import KE.KExcSuper
import HandS.FStr
import HandS.HeadEnd
import HandS.Head0
import HandS.Head1
import HandS.Head2
import PySem.Challenge.RW_rulesmerged_k33_errors
/-! Mini: a small evaluator on trees for the fragment of Python that the program is written in. -/
namespace Mi
/-- trees: frozen values; `ref n` is the n-th cell (a thing that changes) -/
inductive D where
  | non | bl (b : Bool) | int (i : Int) | str (s : List Nat)
  | tup (l : List D) | lst (l : List D) | dct (ks vs : List D)
  | obj (c : Nat) (ns : List Nat) (vs : List D)
  | err (c : Nat) (o : Option Int)
  | scr (l : List Int)
  | ref (n : Nat)
  deriving Inhabited

abbrev Cells := List (Option D)
abbrev Slot := Option (Bool × D)
structure St where
  r : List Slot
  s : Cells
  deriving Inhabited
inductive Out (α : Type) where
  | ok (a : α)
  | exc (c : Nat) (s : Cells)
  | stuck
  deriving Inhabited
@[inline, reducible] def Out.bind {α β : Type} : Out α → (α → Out β) → Out β
  | .ok a, f => f a
  | .exc c s, _ => .exc c s
  | .stuck, _ => .stuck
@[inline, reducible] def Out.of {α : Type} : Option α → Out α
  | some a => .ok a
  | none => .stuck

/-! ### == of trees -/
mutual
def D.eq : D → D → Option Bool
  | .non, .non => some true
  | .bl a, .bl b => some (a == b)
  | .bl a, .int j => some ((if a then 1 else 0) == j)
  | .int i, .bl b => some (i == (if b then 1 else 0))
  | .int i, .int j => some (i == j)
  | .str a, .str b => some (a == b)
  | .tup a, .tup b => if a.length == b.length then D.eqL a b else some false
  | .lst a, .lst b => if a.length == b.length then D.eqL a b else some false
  | .dct _ _, .dct _ _ => none
  | .obj _ _ _, _ => none
  | _, .obj _ _ _ => none
  | .ref _, _ => none
  | _, .ref _ => none
  | .err _ _, _ => none
  | _, .err _ _ => none
  | .scr _, _ => none
  | _, .scr _ => none
  | _, _ => some false
def D.eqL : List D → List D → Option Bool
  | a :: as, b :: bs => match D.eq a b with
    | some true => D.eqL as bs
    | r => r
  | _, _ => some true
end
mutual
/-- flat data of bounded depth: what == is asked of -/
def D.okE : Nat → D → Bool
  | _, .non => true
  | _, .bl _ => true
  | _, .int _ => true
  | _, .str _ => true
  | n, .tup l => Nat.blt 0 n && D.okEL (n - 1) l
  | n, .lst l => Nat.blt 0 n && D.okEL (n - 1) l
  | _, .dct _ _ => false
  | _, .obj _ _ _ => false
  | _, .err _ _ => false
  | _, .scr _ => false
  | _, .ref _ => false
def D.okEL : Nat → List D → Bool
  | _, [] => true
  | n, a :: as => D.okE n a && D.okEL n as
end
/-- equal keys: the same tree up to numbers -/
def D.keq (a b : D) : Bool := D.eq a b == some true
mutual
/-- what may be a key: its depth -/
def D.keyDepth : D → Option Nat
  | .non => some 0
  | .bl _ => some 0
  | .int _ => some 0
  | .str _ => some 0
  | .tup l => (D.keyDepthL l).map (· + 1)
  | _ => none
def D.keyDepthL : List D → Option Nat
  | [] => some 0
  | a :: as => match D.keyDepth a, D.keyDepthL as with
    | some x, some y => some (max x y)
    | _, _ => none
end
def D.isKey : D → Bool
  | .int _ => true
  | .str _ => true
  | _ => false
def getK (k : D) : List D → List D → Option D
  | k' :: ks, v :: vs => if D.keq k' k then some v else getK k ks vs
  | _, _ => none
def putV (k v : D) : List D → List D → List D
  | k' :: ks, v' :: vs => (if D.keq k' k then v else v') :: putV k v ks vs
  | _, vs => vs
def hasK (k : D) (ks : List D) : Bool := ks.any fun k' => D.keq k' k
def putK (k v : D) (ks vs : List D) : List D × List D := if hasK k ks then (ks, putV k v ks vs) else (ks ++ [k], vs ++ [v])
def dropK (k : D) : List D → List D → List D × List D
  | k' :: ks, v' :: vs => if D.keq k' k then dropK k ks vs else match dropK k ks vs with | (a, b) => (k' :: a, v' :: b)
  | _, _ => ([], [])
def memL (x : D) : List D → Option Bool
  | [] => some false
  | y :: ys => match D.eq y x with
    | some true => some true
    | some false => memL x ys
    | none => none
def idxL (x : D) : Nat → List D → Option Nat
  | _, [] => none
  | n, y :: ys => match D.eq y x with
    | some true => some n
    | some false => idxL x (n + 1) ys
    | none => none
def cntL (x : D) : Nat → List D → Option Nat
  | n, [] => some n
  | n, y :: ys => match D.eq y x with
    | some true => cntL x (n + 1) ys
    | some false => cntL x n ys
    | none => none

/-! ### order -/
def cmpN : List Nat → List Nat → Ordering
  | [], [] => .eq
  | [], _ :: _ => .lt
  | _ :: _, [] => .gt
  | a :: as, b :: bs => if a < b then .lt else if b < a then .gt else cmpN as bs
def numOf : D → Option Int
  | .bl b => some (if b then 1 else 0)
  | .int i => some i
  | _ => none
mutual
/-- the order of texts, numbers, tuples and lists of such -/
def D.cmp : D → D → Option Ordering
  | .bl a, b => (numOf b).map fun j => compare (if a then (1 : Int) else 0) j
  | .int i, b => (numOf b).map fun j => compare i j
  | .str a, .str b => some (cmpN a b)
  | .tup a, .tup b => D.cmpL a b
  | .lst a, .lst b => D.cmpL a b
  | _, _ => none
def D.cmpL : List D → List D → Option Ordering
  | [], [] => some .eq
  | [], _ :: _ => some .lt
  | _ :: _, [] => some .gt
  | a :: as, b :: bs => match D.cmp a b with
    | some .eq => D.cmpL as bs
    | r => r
end
def insK (key d : D) : List (D × D) → Option (List (D × D))
  | [] => some [(key, d)]
  | (k, x) :: r => match D.cmp k key with
    | some .gt => some ((key, d) :: (k, x) :: r)
    | some _ => (insK key d r).map fun r' => (k, x) :: r'
    | none => none
/-- stable insertion -/
def sortK : List (D × D) → List (D × D) → Option (List (D × D))
  | acc, [] => some acc
  | acc, (k, d) :: r => match insK k d acc with
    | some acc' => sortK acc' r
    | none => none
def sortD (l : List D) : Option (List D) := (sortK [] (l.map fun d => (d, d))).map fun r => r.map (·.2)
def dedup : List D → List D → List D
  | acc, [] => acc.reverse
  | acc, x :: r => if acc.any (fun y => D.keq y x) then dedup acc r else dedup (x :: acc) r

/-! ### repr -/
def digitsN : Nat → Nat → List Nat → List Nat
  | 0, _, acc => acc
  | f + 1, n, acc => if n < 10 then (48 + n) :: acc else digitsN f (n / 10) ((48 + n % 10) :: acc)
def reprInt (i : Int) : List Nat := if i < 0 then 45 :: digitsN (i.natAbs.log2 + 2) i.natAbs [] else digitsN (i.natAbs.log2 + 2) i.natAbs []
def hasQ (q : Nat) (s : List Nat) : Bool := s.any (· == q)
def escCh (q : Nat) (c : Nat) : Option (List Nat) :=
  if c == q || c == 92 then some [92, c] else if c == 10 then some [92, 110] else if c == 9 then some [92, 116] else if c == 13 then some [92, 114]
  else if 32 ≤ c && c ≤ 126 then some [c] else none
def escAll (q : Nat) : List Nat → Option (List Nat)
  | [] => some []
  | c :: r => match escCh q c, escAll q r with
    | some a, some b => some (a ++ b)
    | _, _ => none
def reprStr (s : List Nat) : Option (List Nat) :=
  let q := if hasQ 39 s && !hasQ 34 s then 34 else 39
  (escAll q s).map fun b => q :: b ++ [q]
def joinL (sep : List Nat) : List (List Nat) → List Nat
  | [] => []
  | [a] => a
  | a :: r => a ++ sep ++ joinL sep r
mutual
def D.repr : D → Option (List Nat)
  | .non => some [78, 111, 110, 101]
  | .bl true => some [84, 114, 117, 101]
  | .bl false => some [70, 97, 108, 115, 101]
  | .int i => some (reprInt i)
  | .str s => reprStr s
  | .tup l => (D.reprL l).map fun b => match b with
    | [a] => 40 :: a ++ [44, 41]
    | _ => 40 :: joinL [44, 32] b ++ [41]
  | .lst l => (D.reprL l).map fun b => 91 :: joinL [44, 32] b ++ [93]
  | .dct ks vs => match D.reprL ks, D.reprL vs with
    | some a, some b => some (123 :: joinL [44, 32] (List.zipWith (fun x y => x ++ [58, 32] ++ y) a b) ++ [125])
    | _, _ => none
  | _ => none
def D.reprL : List D → Option (List (List Nat))
  | [] => some []
  | a :: as => match D.repr a, D.reprL as with
    | some x, some y => some (x :: y)
    | _, _ => none
end

/-! ### small things -/
def top (s : Cells) : D → Option D
  | .ref n => match s[n]? with
    | some (some d) => some d
    | _ => none
  | d => some d
def truth (s : Cells) (d : D) : Option Bool := match top s d with
  | some .non => some false
  | some (.bl b) => some b
  | some (.int i) => some (!(i == 0))
  | some (.tup l) => some (!l.isEmpty)
  | some (.lst l) => some (!l.isEmpty)
  | _ => none
def seqIx (i : Int) (n : Nat) : Option Nat :=
  if 0 ≤ i then (if i < n then some i.toNat else none) else (if 0 ≤ i + n then some (i + n).toNat else none)
def clampIx (i : Int) (n : Nat) : Nat := if i < 0 then (if i + n < 0 then 0 else (i + n).toNat) else (if i < n then i.toNat else n)
def sIx (n d : Nat) : Option Int → Nat
  | none => d
  | some v => if v < 0 then (v + (n : Int)).toNat else min v.toNat n
def cut {α : Type} (l : List α) (lo hi : Option Int) : List α := (l.drop (sIx l.length 0 lo)).take (sIx l.length l.length hi - sIx l.length 0 lo)
def isPrefixN : List Nat → List Nat → Bool
  | [], _ => true
  | _ :: _, [] => false
  | a :: as, b :: bs => a == b && isPrefixN as bs
def inStr (a : List Nat) : List Nat → Bool
  | [] => a.isEmpty
  | b :: bs => isPrefixN a (b :: bs) || inStr a bs
def splitC (c : Nat) : List Nat → List Nat → List (List Nat)
  | acc, [] => [acc.reverse]
  | acc, x :: r => if x == c then acc.reverse :: splitC c [] r else splitC c (x :: acc) r
def replC (c : Nat) (b : List Nat) : List Nat → List Nat
  | [] => []
  | x :: r => if x == c then b ++ replC c b r else x :: replC c b r
def boolsOf : List D → Option (List Bool)
  | [] => some []
  | .bl b :: r => (boolsOf r).map (b :: ·)
  | _ => none
def intsOf : List D → Option (List Int)
  | [] => some []
  | .int b :: r => (intsOf r).map (b :: ·)
  | _ => none
def strsOf : List D → Option (List (List Nat))
  | [] => some []
  | .str s :: r => (strsOf r).map (s :: ·)
  | _ => none
def maxI : Int → List Int → Int
  | a, [] => a
  | a, i :: r => maxI (if i > a then i else a) r
def minI : Int → List Int → Int
  | a, [] => a
  | a, i :: r => minI (if i < a then i else a) r
def enumD : Nat → List D → List D
  | _, [] => []
  | n, x :: r => .tup [.int n, x] :: enumD (n + 1) r
def zip2 : List D → List D → Option (List D)
  | [], [] => some []
  | a :: as, b :: bs => (zip2 as bs).map fun r => .tup [a, b] :: r
  | _, _ => none
def zip3 : List D → List D → List D → Option (List D)
  | [], [], [] => some []
  | a :: as, b :: bs, c :: cs => (zip3 as bs cs).map fun r => .tup [a, b, c] :: r
  | _, _, _ => none
def pairsD : List D → List D → List D
  | k :: ks, v :: vs => .tup [k, v] :: pairsD ks vs
  | _, _ => []
def rangeD (lo : Int) : Nat → List D
  | 0 => []
  | n + 1 => .int lo :: rangeD (lo + 1) n
/-- what iteration of a thing yields -/
def items (d : D) : Option (List D) := match d with
  | .tup l => some l
  | .lst l => some l
  | .dct ks _ => some ks
  | .str s => some (s.map fun c => .str [c])
  | _ => none
def dictOf : List D → List D → List D → Option (List D × List D)
  | ks, vs, [] => some (ks, vs)
  | ks, vs, .tup [k, v] :: r => if k.isKey then (match putK k v ks vs with | (a, b) => dictOf a b r) else none
  | _, _, _ => none
def fieldAt (f : Nat) : List Nat → List D → Option D
  | n :: ns, v :: vs => if n == f then some v else fieldAt f ns vs
  | _, _ => none
def fieldPut (f : Nat) (d : D) : List Nat → List D → List Nat × List D
  | n :: ns, v :: vs => if n == f then (n :: ns, d :: vs) else match fieldPut f d ns vs with
    | (a, b) => (n :: a, v :: b)
  | _, _ => ([f], [d])
def setNth {α : Type} : Nat → α → List α → List α
  | _, _, [] => []
  | 0, x, _ :: r => x :: r
  | n + 1, x, y :: r => y :: setNth n x r
def insNth {α : Type} : Nat → α → List α → List α
  | 0, x, l => x :: l
  | _ + 1, x, [] => [x]
  | n + 1, x, y :: r => y :: insNth n x r
def eraseNth {α : Type} : Nat → List α → List α
  | _, [] => []
  | 0, _ :: r => r
  | n + 1, y :: r => y :: eraseNth n r
mutual
/-- cells read in and shut -/
def freeze : Nat → D → Cells → Option (D × Cells)
  | 0, _, _ => none
  | f + 1, d, s => match d with
    | .ref n => match s[n]? with
      | some (some x) => freeze f x (setNth n none s)
      | _ => none
    | .tup l => (freezeL f l s).map fun (l', s') => (.tup l', s')
    | .lst l => (freezeL f l s).map fun (l', s') => (.lst l', s')
    | .dct ks vs => (freezeL f vs s).map fun (l', s') => (.dct ks l', s')
    | .obj c ns vs => (freezeL f vs s).map fun (l', s') => (.obj c ns l', s')
    | d => some (d, s)
def freezeL : Nat → List D → Cells → Option (List D × Cells)
  | 0, _, _ => none
  | _, [], s => some ([], s)
  | f + 1, d :: r, s => match freeze f d s with
    | some (d', s') => (freezeL f r s').map fun (r', s'') => (d' :: r', s'')
    | none => none
end
end Mi

namespace Mi
inductive BOp where | add | sub | mul | fdiv | mod | pow
  deriving DecidableEq
inductive COp where | eq | ne | lt | le | gt | ge | isin | notin
  deriving DecidableEq
/-- built-ins of one thing -/
inductive F1 where | len | all | any | list | tuple | dict | sorted | repr | int | max | min | sum | str | lenset | sortset | bool
  deriving DecidableEq
inductive Ty where | int | bool | str | tuple | list | dict
  deriving DecidableEq
/-- methods that change nothing -/
inductive M1 where | get | index | count | split | join | replace | items
  deriving DecidableEq
/-- methods that change the thing -/
inductive Mu where | append | extend | insert | pop | clear | update
  deriving DecidableEq
/-- targets -/
inductive Tg where
  | nm (i : Nat)
  | tp (l : List Tg)
  | st (l : List Tg) (i : Nat)
mutual
inductive Ex where
  | var (i : Nat) | pk (i : Nat) | mv (i : Nat)
  | never | non | tt (b : Bool) | n (i : Int) | s (l : List Nat) | gl (g : Nat)
  | bin (o : BOp) (a b : Ex) | cmp (o : COp) (a b : Ex) | chain (o p : COp) (a b c : Ex) | isN (a : Ex) | notN (a : Ex)
  | not (a : Ex) | neg (a : Ex) | band (l : List Ex) | bor (l : List Ex) | bandv (l : List Ex) | borv (l : List Ex) | ite (c a b : Ex)
  | call (f : Nat) (l : List Ex) | mk (c : Nat) (l : List Ex) | meth (o : Ex) (m : Nat) (l : List Ex) | attr (o : Ex) (f : Nat)
  | f1 (f : F1) (a : Ex) | f2 (gt : Bool) (a b : Ex) | isi (a : Ex) (t : Ty)
  | sortBy (a : Ex) (lm : Nat) (b : Ex)
  | ix (a b : Ex) | sl (a : Ex) (lo hi : Option Ex) | rev (a : Ex)
  | m1 (m : M1) (o : Ex) (l : List Ex) | get1 (o k : Ex) | get2 (o k x : Ex)
  | mu (m : Mu) (o : Ex) (l : List Ex)
  | tup (l : List El) | lst (l : List El) | dct (l : List It)
  | lc (own : List Nat) (g : List Gen) (e : Ex) | dc (own : List Nat) (g : List Gen) (k v : Ex)
  | frz (e : Ex) | cell (e : Ex)
  | prop (o : Ex) (m : Nat)
  | isx (a : Ex) (c : Nat) | isv (a : Ex) | mkx (c : Nat) (a : Ex) | mkp (c : Nat) (a : Ex) | xline (a : Ex)
inductive El where
  | one (e : Ex) | star (e : Ex)
inductive It where
  | kv (k v : Ex) | star (e : Ex)
inductive Src where
  | over (e : Ex) | rg1 (a : Ex) | rg2 (a b : Ex) | enum (s : Src) | zip2 (a b : Ex) | zip3 (a b c : Ex) | its (e : Ex)
inductive Gen where
  | mk (t : Tg) (s : Src) (ifs : List Ex)
end
inductive Sm where
  | asg (t : Tg) (e : Ex) | par (l : List Nat) (es : List Ex) | seti (o : Ex) (k : Ex) (v : Ex) | seta (o : Ex) (f : Nat) (v : Ex)
  | ex (e : Ex) | ifs (c : Ex) (a b : List Sm) | for_ (t : Tg) (s : Src) (b : List Sm) | whl (c : Ex) (b : List Sm)
  | never | ret (e : Ex) | ret0 | raise (c : Nat) | skip | brk | cont
  | mtch (e : Ex) (ps : List (List (List Nat))) (bs : List (List Sm))
  | frzS (i : Nat)

structure Info where
  fn : Nat → List D → Cells → Out ((D × Bool) × Cells)
  gl : Nat → Option D
  mt : Nat → Nat → Option Nat
  ini : Nat → Option Nat
  sub : Nat → Nat → Bool
  nx : Nat
  wf : Nat

inductive Fl where
  | nx | bk | ct | rt (d : D) (fr : Bool)
inductive Ov where
  | slot (i : Nat) | val (d : D)

def slotAt (i : Nat) (r : List Slot) : Option (Bool × D) := match r[i]? with
  | some x => x
  | none => none
def rdo (st : St) : Ov → Option D
  | .slot i => match slotAt i st.r with
    | some (_, d) => top st.s d
    | none => none
  | .val d => top st.s d
def binD : BOp → D → D → Option (D × Bool)
  | .add, .int a, .int b => some (.int (a + b), false)
  | .add, .str a, .str b => if Nat.ble (a.length + b.length) 16777216 then some (.str (a ++ b), false) else none
  | .add, .lst a, .lst b => if Nat.ble (a.length + b.length) 16777216 then some (.lst (a ++ b), true) else none
  | .add, .tup a, .tup b => if Nat.ble (a.length + b.length) 16777216 then some (.tup (a ++ b), false) else none
  | .sub, .int a, .int b => some (.int (a - b), false)
  | .mul, .int a, .int b => if Nat.blt a.natAbs 18446744073709551616 || Nat.blt b.natAbs 18446744073709551616 then some (.int (a * b), false) else none
  | .mul, .lst a, .int b => if Nat.ble (a.length * b.toNat) 16777216 && Nat.blt b.natAbs 9223372036854775808 then some (.lst (List.replicate b.toNat a).flatten, true) else none
  | .mul, .tup a, .int b => if Nat.blt 0 a.length && Nat.ble a.length 1000 && Nat.blt b.natAbs 1001 && Nat.blt 1 b.toNat then some (.tup (List.replicate b.toNat a).flatten, false) else none
  | .fdiv, .int a, .int b => if 0 < b && b < 1073741824 then some (.int (a / b), false) else none
  | .mod, .int a, .int b => if 0 < b then some (.int (a % b), false) else none
  | .pow, .int a, .int b => if 0 ≤ b && b ≤ 1000 && Nat.blt a.natAbs 18446744073709551616 then some (.int (a ^ b.toNat), false) else none
  | _, _, _ => none
def ordB : COp → Ordering → Bool
  | .lt, .lt => true
  | .le, .lt => true
  | .le, .eq => true
  | .gt, .gt => true
  | .ge, .gt => true
  | .ge, .eq => true
  | _, _ => false
def eqTop (a b : D) : Option Bool := if D.okE 64 a && D.okE 64 b then D.eq a b else none
def inD (x : D) : D → Option Bool
  | .tup l => if D.okE 64 x && D.okEL 63 l then memL x l else none
  | .lst l => if D.okE 64 x && D.okEL 63 l then memL x l else none
  | .dct ks vs => if x.isKey then some ((getK x ks vs).isSome) else none
  | .str t => match x with
    | .str [c] => some (t.any (· == c))
    | _ => none
  | _ => none
def cmpD : COp → D → D → Option Bool
  | .eq, a, b => eqTop a b
  | .ne, a, b => (eqTop a b).map (!·)
  | .isin, a, b => inD a b
  | .notin, a, b => (inD a b).map (!·)
  | o, .int i, .int j => some (ordB o (compare i j))
  | _, _, _ => none
def isiD : Ty → D → Bool
  | .int, .int _ => true
  | .int, .bl _ => true
  | .bool, .bl _ => true
  | .str, .str _ => true
  | .tuple, .tup _ => true
  | .list, .lst _ => true
  | .dict, .dct _ _ => true
  | _, _ => false
def lenD : D → Option Nat
  | .str s => if Nat.ble s.length 16777216 then some s.length else none
  | .tup l => some l.length
  | .lst l => some l.length
  | .dct ks _ => some ks.length
  | _ => none
def f1D : F1 → D → Option (D × Bool)
  | .len, d => (lenD d).map fun n => (.int n, false)
  | .all, .lst l => (boolsOf l).map fun bs => (.bl (bs.all id), false)
  | .any, .lst l => (boolsOf l).map fun bs => (.bl (bs.any id), false)
  | .list, .lst l => some (.lst l, true)
  | .list, .tup l => some (.lst l, true)
  | .list, .dct ks _ => some (.lst ks, true)
  | .tuple, .lst l => some (.tup l, false)
  | .tuple, .tup l => some (.tup l, false)
  | .dict, .lst l => (dictOf [] [] l).map fun p => (.dct p.1 p.2, true)

  | .dict, .dct ks vs => some (.dct ks vs, true)
  | .sorted, d => match items d with
    | some l => (sortD l).map fun l => (.lst l, true)
    | none => none
  | .repr, d => (D.repr d).map fun s => (.str s, false)
  | .int, .int i => some (.int i, false)
  | .int, .bl b => some (.int (if b then 1 else 0), false)
  | .max, .lst (.int a :: l) => (intsOf l).map fun ns => (.int (maxI a ns), false)
  | .min, .lst (.int a :: l) => (intsOf l).map fun ns => (.int (minI a ns), false)
  | .sum, .lst l => (intsOf l).map fun ns => (.int ns.sum, false)
  | .str, .int i => some (.str (reprInt i), false)
  | .lenset, d => match items d with
    | some l => if l.all D.isKey then some (.int (dedup [] l).length, false) else none
    | none => none
  | .sortset, d => match items d with
    | some l => if l.all D.isKey then (sortD (dedup [] l)).map fun l => (.lst l, true) else none
    | none => none
  | _, _ => none
def ixD : D → D → Option D
  | .tup l, .int i => (seqIx i l.length).bind fun k => l[k]?
  | .lst l, .int i => (seqIx i l.length).bind fun k => l[k]?
  | .str l, .int i => if Nat.ble l.length 16777216 then (seqIx i l.length).bind fun k => (l[k]?).map fun c => .str [c] else none
  | .dct ks vs, k => if k.isKey then getK k ks vs else none
  | _, _ => none
def slD : D → Option Int → Option Int → Option (D × Bool)
  | .tup l, a, b => some (.tup (cut l a b), false)
  | .lst l, a, b => some (.lst (cut l a b), true)
  | .scr l, a, b => some (.lst (cut (l.map .int) a b), true)
  | .str l, a, b => if Nat.ble l.length 16777216 then some (.str (cut l a b), false) else none
  | _, _, _ => none
def revD : D → Option (D × Bool)
  | .tup l => some (.tup l.reverse, false)
  | .lst l => some (.lst l.reverse, true)
  | .str l => some (.str l.reverse, false)
  | _ => none
def m1D : M1 → D → List D → Option (D × Bool)
  | .get, .dct ks vs, [k, x] => if k.isKey then some ((getK k ks vs).getD x, false) else none
  | .get, .dct ks vs, [k] => if k.isKey then some ((getK k ks vs).getD .non, false) else none
  | .index, .lst l, [x] => (idxL x 0 l).map fun i => (.int i, false)
  | .index, .tup l, [x] => (idxL x 0 l).map fun i => (.int i, false)
  | .count, .lst l, [x] => (cntL x 0 l).map fun i => (.int i, false)
  | .split, .str s, [.str [c]] => some (.lst ((splitC c [] s).map .str), true)
  | .join, .str s, [.lst l] => (strsOf l).map fun ls => (.str (joinL s ls), false)
  | .replace, .str s, [.str [c], .str b] => some (.str (replC c b s), false)
  | .items, .dct ks vs, [] => some (.lst (pairsD ks vs), true)
  | _, _, _ => none
/-- a change: the thing behind it, the answer -/
def muD : Mu → D → List D → Option (D × D)
  | .append, .lst l, [x] => if Nat.blt l.length 16777216 then some (.lst (l ++ [x]), .non) else none
  | .extend, .lst l, [.lst m] => if Nat.ble (l.length + m.length) 16777216 then some (.lst (l ++ m), .non) else none
  | .insert, .lst l, [.int i, x] => if Nat.blt l.length 16777216 && 0 ≤ i && i < 1000000000 then some (.lst (l.take i.toNat ++ [x] ++ l.drop i.toNat), .non) else none
  | .pop, .lst l, [] => (l[l.length - 1]?).map fun x => (.lst l.dropLast, x)
  | .pop, .lst l, [.int i] => if Nat.ble l.length 16777216 then (match seqIx i l.length with
    | some k => (l[k]?).map fun x => (.lst (l.eraseIdx k), x)
    | none => none) else none
  | .pop, .dct ks vs, [k] => if k.isKey then (getK k ks vs).map fun v => (match dropK k ks vs with | (a, b) => (.dct a b, v)) else none
  | .clear, .lst _, [] => some (.lst [], .non)
  | .clear, .dct _ _, [] => some (.dct [] [], .non)
  | .update, .dct ks vs, [.dct ks' vs'] => (dictOf ks vs (pairsD ks' vs')).map fun p => (.dct p.1 p.2, .non)
  | _, _, _ => none
def setD : D → D → D → Option D
  | .lst l, .int i, v => (seqIx i l.length).map fun k => .lst (setNth k v l)
  | .dct ks vs, k, v => if k.isKey && Nat.blt ks.length 16777216 then (match putK k v ks vs with | (a, b) => some (.dct a b)) else none
  | _, _, _ => none
def isMutD : D → Bool
  | .lst _ => true
  | .dct _ _ => true
  | .obj _ _ _ => true
  | _ => false
def setSlot (i : Nat) (x : Slot) (st : St) : St := { st with r := setNth i x st.r }
def setCell (n : Nat) (d : D) (st : St) : St := { st with s := setNth n (some d) st.s }
/-- what stands at a place that changes, and how it is put back -/
def lvGet (st : St) : Ov → Option (D × (D → St → St))
  | .slot i => match slotAt i st.r with
    | some (true, d) => some (d, fun d' st' => setSlot i (some (true, d')) st')
    | some (false, .ref n) => (top st.s (.ref n)).map fun d => (d, fun d' st' => setCell n d' st')
    | _ => none
  | .val (.ref n) => (top st.s (.ref n)).map fun d => (d, fun d' st' => setCell n d' st')
  | _ => none

def isLstD : D → Bool
  | .lst _ => true
  | _ => false
def isDctD : D → Bool
  | .dct _ _ => true
  | _ => false
/-- a list's method, a dict's -/
def muKind (m : Mu) : Option (D × (D → St → St)) → Option Bool
  | some (.lst _, _) => if m == .update then none else some true
  | some (.dct _ _, _) => if m == .update || m == .pop || m == .clear then some false else none
  | _ => none
mutual
def asgT : Tg → D → St → Option St
  | .nm i, d, st => some (setSlot i (some (false, d)) st)
  | .tp ts, d, st => match d with
    | .tup l => asgTs ts l st
    | .lst l => asgTs ts l st
    | _ => none
  | .st ts i, d, st => match d with
    | .tup l => if Nat.ble ts.length l.length then (asgTs ts (l.take ts.length) st).map (setSlot i (some (true, .lst (l.drop ts.length)))) else none
    | .lst l => if Nat.ble ts.length l.length then (asgTs ts (l.take ts.length) st).map (setSlot i (some (true, .lst (l.drop ts.length)))) else none
    | _ => none
def asgTs : List Tg → List D → St → Option St
  | [], [], st => some st
  | t :: ts, d :: ds, st => match asgT t d st with
    | some st' => asgTs ts ds st'
    | none => none
  | _, _, _ => none
end
def wipe (own : List Nat) (r : List Slot) : List Slot := own.foldl (fun r i => setNth i none r) r
/-- behind a comprehension: its own names as they were, if they are frozen -/
def unwipe (own : List Nat) (r0 r : List Slot) : List Slot := own.foldl (fun r i => setNth i (match slotAt i r0 with
  | some (false, d) => some (false, d)
  | _ => none) r) r
mutual
/-- the slots of a target -/
def Tg.own : Tg → List Nat
  | .nm i => [i]
  | .tp l => Tg.owns l
  | .st l i => Tg.owns l ++ [i]
def Tg.owns : List Tg → List Nat
  | [] => []
  | t :: ts => Tg.own t ++ Tg.owns ts
end
def seqD : D → Option (List D)
  | .tup l => some l
  | .lst l => some l
  | _ => none
/-- what is walked: a text only if it is short -/
def overD : D → Option (List D)
  | .str s => if Nat.ble s.length 16777216 then items (.str s) else none
  | d => items d
/-- a thing that changes is lent to the walk; it comes back behind it -/
inductive Loan where
  | slot (i : Nat) (d : D) | cell (n : Nat) (d : D)
def give1 : Loan → St → St
  | .slot i d, st => setSlot i (some (true, d)) st
  | .cell n d, st => setCell n d st
def give : List Loan → St → St
  | [], st => st
  | l :: ls, st => give1 l (give ls st)
def giveC : List Loan → Cells → Cells
  | [], s => s
  | .slot _ _ :: ls, s => giveC ls s
  | .cell n d :: ls, s => setNth n (some d) (giveC ls s)
def isSlotL : Loan → Bool
  | .slot _ _ => true
  | .cell _ _ => false
def giveO {α : Type} (ls : List Loan) (o : Out (α × St)) : Out (α × St) := match o with
  | .ok (a, st) => .ok (a, give ls st)
  | .exc c s => .exc c (giveC ls s)
  | .stuck => .stuck
/-- a thing to be walked is taken -/
def lend (d : D) (st : St) : Option ((List D × List Loan) × St) := match d with
  | .ref n => (match st.s[n]? with
    | some (some (.lst l)) => some ((l, [.cell n (.lst l)]), ⟨st.r, setNth n none st.s⟩)
    | _ => none)
  | d => (overD d).map fun l => ((l, []), st)
def lendS (i : Nat) (st : St) : Option ((List D × List Loan) × St) := match slotAt i st.r with
  | some (true, .lst l) => some ((l, [.slot i (.lst l)]), setSlot i none st)
  | some (true, .dct ks vs) => some ((ks, []), setSlot i (some (false, .dct ks vs)) st)
  | some (false, d) => lend d st
  | _ => none
def rgD : D → D → Option (List D)
  | .int i, .int j => if Nat.ble i.natAbs 1000000000000 && Nat.ble j.natAbs 1000000000000 && Nat.ble (j - i).toNat 16777216 then some (rangeD i (j - i).toNat) else none
  | _, _ => none
def zipD (l : List (Option (List D))) : Option (List D) := match l with
  | [some a, some b] => zip2 a b
  | [some a, some b, some c] => zip3 a b c
  | _ => none
def forGo (f : D → St → Out (Fl × St)) : List D → St → Out (Fl × St)
  | [], st => .ok (.nx, st)
  | d :: r, st => match f d st with
    | .ok (.nx, st') => forGo f r st'
    | .ok (.ct, st') => forGo f r st'
    | .ok (.bk, st') => .ok (.nx, st')
    | x => x
def whlGo (c : St → Out (Bool × St)) (f : St → Out (Fl × St)) : Nat → St → Out (Fl × St)
  | 0, _ => .stuck
  | n + 1, st => match c st with
    | .ok (false, st') => .ok (.nx, st')
    | .ok (true, st') => (match f st' with
      | .ok (.nx, st') => whlGo c f n st'
      | .ok (.ct, st') => whlGo c f n st'
      | .ok (.bk, st') => .ok (.nx, st')
      | x => x)
    | .exc c s => .exc c s
    | .stuck => .stuck
/-- a comprehension's walk: f makes the new state and list -/
def compGo (f : D → (List D × St) → Out (List D × St)) : List D → List D × St → Out (List D × St)
  | [], x => .ok x
  | d :: r, x => match f d x with
    | .ok y => compGo f r y
    | .exc _ _ => .stuck
    | .stuck => .stuck

/-- an operand: a name's thing is looked at when the operation is done -/
def opd (e : Ex) (f : St → Out ((D × Bool) × St)) (st : St) : Out (Ov × St) := match e with
  | .pk i => (match slotAt i st.r with
    | some _ => .ok (.slot i, st)
    | none => .stuck)
  | _ => (f st).bind fun ((d, _), st1) => .ok (.val d, st1)
/-- a test -/
def tst (e : Ex) (f : St → Out ((D × Bool) × St)) (st : St) : Out (Bool × St) := (opd e f st).bind fun (x, st1) => match rdo st1 x with
  | some d => (Out.of (truth st1.s d)).bind fun b => .ok (b, st1)
  | none => .stuck
/-- two operands, then the operation -/
def two (k : D → D → St → Out ((D × Bool) × St)) (fa fb : St → Out (Ov × St)) (st : St) : Out ((D × Bool) × St) :=
  (fa st).bind fun (x, st1) => (fb st1).bind fun (y, st2) => match rdo st2 x, rdo st2 y with
    | some dx, some dy => k dx dy st2
    | _, _ => .stuck
def one (k : D → St → Out ((D × Bool) × St)) (fa : St → Out (Ov × St)) (st : St) : Out ((D × Bool) × St) :=
  (fa st).bind fun (x, st1) => match rdo st1 x with
    | some dx => k dx st1
    | none => .stuck
def ans (o : Option (D × Bool)) (st : St) : Out ((D × Bool) × St) := match o with
  | some z => .ok (z, st)
  | none => .stuck
def kBin (o : BOp) (dx dy : D) (st : St) : Out ((D × Bool) × St) := ans (binD o dx dy) st
def kCmp (o : COp) (dx dy : D) (st : St) : Out ((D × Bool) × St) := ans ((cmpD o dx dy).map fun b => (.bl b, false)) st
def isNonD : D → Bool
  | .non => true
  | _ => false
def kIsN (b : Bool) (d : D) (st : St) : Out ((D × Bool) × St) := .ok ((.bl (isNonD d == b), false), st)
def callSt (o : Out ((D × Bool) × Cells)) (st : St) : Out ((D × Bool) × St) := match o with
  | .ok (x, s) => .ok (x, { st with s := s })
  | .exc c s => .exc c s
  | .stuck => .stuck
/-- nothing is raised -/
def noX {α : Type} : Out α → Out α
  | .exc _ _ => .stuck
  | o => o
/-- the class of a thing that has no attribute of that name -/
def clsOf (m : Nat) : Option D → Option Nat
  | some (.obj c ns _) => if ns.any (fun n => n == m) then none else some c
  | _ => none
def isDctO : Option D → Bool
  | some (.dct _ _) => true
  | _ => false
def plainD : D → Bool
  | .obj _ _ _ => false
  | .ref _ => false
  | .err _ _ => false
  | .scr _ => false
  | _ => true
def kIsi (t : Ty) (d : D) (st : St) : Out ((D × Bool) × St) := if plainD d then .ok ((.bl (isiD t d), false), st) else .stuck
def kIsx (sub : Nat → Nat → Bool) (n c : Nat) (d : D) (st : St) : Out ((D × Bool) × St) := match d with
  | .err k _ => if Nat.blt k n && Nat.blt c n then .ok ((.bl (sub k c), false), st) else .stuck
  | _ => .stuck
def kIsv (n : Nat) (d : D) (st : St) : Out ((D × Bool) × St) := match d with
  | .err k _ => if Nat.blt k n then .ok ((.bl true, false), st) else .stuck
  | _ => .stuck
def kLine (d : D) (st : St) : Out ((D × Bool) × St) := match d with
  | .err _ (some i) => .ok ((.int i, false), st)
  | _ => .stuck
def negD : D → Option (D × Bool)
  | .int i => some (.int (-i), false)
  | _ => none
def attrD (f : Nat) : D → Option (D × Bool)
  | .obj _ ns vs => (fieldAt f ns vs).map fun d => (d, false)
  | _ => none
def f2D (gt : Bool) : D → D → Option (D × Bool)
  | .int i, .int j => some (.int (if gt then (if j > i then j else i) else (if j < i then j else i)), false)
  | _, _ => none
section
variable (I : Info)
mutual
def ev : Ex → St → Out ((D × Bool) × St)
  | .var i, st => match slotAt i st.r with
    | some (true, d) => .ok ((d, false), setSlot i (some (false, d)) st)
    | some (false, d) => .ok ((d, false), st)
    | none => .stuck
  | .pk _, _ => .stuck
  | .never, _ => .stuck
  | .mv i, st => match slotAt i st.r with
    | some (true, d) => .ok ((d, true), setSlot i none st)
    | some (false, d) => .ok ((d, false), st)
    | none => .stuck
  | .non, st => .ok ((.non, false), st)
  | .tt b, st => .ok ((.bl b, false), st)
  | .n i, st => .ok ((.int i, false), st)
  | .s l, st => .ok ((.str l, false), st)
  | .gl g, st => match I.gl g with
    | some d => .ok ((d, false), st)
    | none => .stuck
  | .bin o a b, st => two (kBin o) (opd a (ev a)) (opd b (ev b)) st
  | .cmp o a b, st => two (kCmp o) (opd a (ev a)) (opd b (ev b)) st
  | .chain o p a b c, st => (opd a (ev a) st).bind fun (x, st1) => (opd b (ev b) st1).bind fun (y, st2) => match rdo st2 x, rdo st2 y with
    | some dx, some dy => (Out.of (cmpD o dx dy)).bind fun z => match z with
      | false => .ok ((.bl false, false), st2)
      | true => (opd c (ev c) st2).bind fun (u, st3) => match rdo st3 y, rdo st3 u with
        | some dy, some du => (Out.of (cmpD p dy du)).bind fun z => .ok ((.bl z, false), st3)
        | _, _ => .stuck
    | _, _ => .stuck
  | .isN a, st => one (kIsN true) (opd a (ev a)) st
  | .notN a, st => one (kIsN false) (opd a (ev a)) st
  | .not a, st => (tst a (ev a) st).bind fun (b, st1) => .ok ((.bl (!b), false), st1)
  | .neg a, st => one (fun d st => ans (negD d) st) (opd a (ev a)) st
  | .band l, st => (evAnd l st).bind fun (b, st1) => .ok ((.bl b, false), st1)
  | .bor l, st => (evOr l st).bind fun (b, st1) => .ok ((.bl b, false), st1)
  | .bandv l, st => (evAndV l st).bind fun (b, st1) => .ok ((.bl b, false), st1)
  | .borv l, st => (evOrV l st).bind fun (b, st1) => .ok ((.bl b, false), st1)
  | .ite c a b, st => (tst c (ev c) st).bind fun (t, st1) => match t with
    | true => ev a st1
    | false => ev b st1
  | .call f l, st => (evs l st).bind fun (ds, st1) => callSt (I.fn f ds st1.s) st1
  | .mk c l, st => (evs l st).bind fun (ds, st1) => match I.ini c with
    | some f => (match I.fn f (.ref st1.s.length :: ds) (st1.s ++ [some (.obj c [] [])]) with
      | .ok ((.non, _), s) => .ok ((.ref st1.s.length, false), { st1 with s := s })
      | .ok _ => .stuck
      | .exc c s => .exc c s
      | .stuck => .stuck)
    | none => .stuck
  | .meth o m l, st => (ev o st).bind fun ((d, _), st1) => match clsOf m (top st1.s d) with
    | some c => (match I.mt c m with
      | some f => (evs l st1).bind fun (ds, st2) => callSt (I.fn f (d :: ds) st2.s) st2
      | none => .stuck)
    | none => .stuck
  | .attr o f, st => one (fun d st => ans (attrD f d) st) (opd o (ev o)) st
  | .f1 f a, st => one (fun d st => ans (f1D f d) st) (opd a (ev a)) st
  | .f2 gt a b, st => two (fun x y st => ans (f2D gt x y) st) (opd a (ev a)) (opd b (ev b)) st
  | .isi a t, st => one (kIsi t) (opd a (ev a)) st
  | .sortBy a lm b, st => (opd a (ev a) st).bind fun (x, st1) => match rdo st1 x with
    | some d => (match items d with
      | some l => (compGo (fun d (acc, st) => (ev b (setSlot lm (some (false, d)) st)).bind fun ((k, _), st') => .ok (acc ++ [.tup [k, d]], st')) l ([], st1)).bind fun (ps, _) =>
          (Out.of (sortK [] (ps.map fun p => match p with
            | .tup [k, d] => (k, d)
            | p => (p, p)))).bind fun r => .ok ((.lst (r.map (·.2)), true), st1)
      | none => .stuck)
    | none => .stuck
  | .ix a b, st => two (fun x y st => ans ((ixD x y).map fun d => (d, false)) st) (opd a (ev a)) (opd b (ev b)) st
  | .sl a lo hi, st => (opd a (ev a) st).bind fun (x, st1) => (evp lo st1).bind fun (i, st2) => (evp hi st2).bind fun (j, st3) => match rdo st3 x with
    | some d => ans (slD d i j) st3
    | none => .stuck
  | .rev a, st => one (fun d st => ans (revD d) st) (opd a (ev a)) st
  | .get1 o k, st => (opd o (ev o) st).bind fun (a, st1) => match isDctO (rdo st1 a) with
    | true => (opd k (ev k) st1).bind fun (b, st2) => (match rdo st2 a, rdo st2 b with
      | some (.dct ks vs), some dk => if dk.isKey then .ok (((getK dk ks vs).getD .non, false), st2) else .stuck
      | _, _ => .stuck)
    | false => .stuck
  | .get2 o k x, st => (opd o (ev o) st).bind fun (a, st1) => match isDctO (rdo st1 a) with
    | true => (opd k (ev k) st1).bind fun (b, st2) => (ev x st2).bind fun ((dx, _), st3) => (match rdo st3 a, rdo st3 b with
      | some (.dct ks vs), some dk => if dk.isKey then .ok (((getK dk ks vs).getD dx, false), st3) else .stuck
      | _, _ => .stuck)
    | false => .stuck
  | .m1 m o l, st => (opd o (ev o) st).bind fun (x, st1) => (evos l st1).bind fun (ys, st2) => match rdo st2 x, ys.mapM (rdo st2) with
    | some d, some ds => (Out.of (m1D m d ds)).bind fun z => .ok (z, st2)
    | _, _ => .stuck
  | .mu m o l, st => (opd o (ev o) st).bind fun (x, st1) => match muKind m (lvGet st1 x) with
    | some b => (evs l st1).bind fun (ds, st2) => (match lvGet st2 x with
      | some (d, put) => if isLstD d == b then (match muD m d ds with
        | some (d', y) => .ok ((y, false), put d' st2)
        | none => .stuck) else .stuck
      | none => .stuck)
    | none => .stuck
  | .tup l, st => (evels l st).bind fun (ds, st1) => if Nat.ble ds.length 16777216 then .ok ((.tup ds, false), st1) else .stuck
  | .lst l, st => (evels l st).bind fun (ds, st1) => if Nat.ble ds.length 16777216 then .ok ((.lst ds, true), st1) else .stuck
  | .dct l, st => (evits l st).bind fun (ps, st1) => (Out.of (dictOf [] [] ps)).bind fun p => .ok ((.dct p.1 p.2, true), st1)
  | .lc own g e, st => match g with
    | .mk t s ifs :: g' => (evsrc s st).bind fun ((ds, br), st1) =>
      (compGo (fun d (acc, st) => match asgT t d ⟨wipe own st.r, st.s⟩ with
        | some st' => (evAnd ifs st').bind fun (b, st2) => match b with
          | true => evgens g' (fun (acc, st) => (ev e st).bind fun ((y, _), st') => .ok (acc ++ [y], st')) (acc, st2)
          | false => .ok (acc, st2)
        | none => .stuck) ds ([], st1)).bind fun (acc, st2) => .ok ((.lst acc, true), give br ⟨unwipe own st1.r st2.r, st2.s⟩)
    | [] => .stuck
  | .dc own g k v, st => match g with
    | .mk t s ifs :: g' => (evsrc s st).bind fun ((ds, br), st1) =>
      (compGo (fun d (acc, st) => match asgT t d ⟨wipe own st.r, st.s⟩ with
        | some st' => (evAnd ifs st').bind fun (b, st2) => match b with
          | true => evgens g' (fun (acc, st) => (ev k st).bind fun ((x, _), st') => (ev v st').bind fun ((y, _), st'') => .ok (acc ++ [.tup [x, y]], st'')) (acc, st2)
          | false => .ok (acc, st2)
        | none => .stuck) ds ([], st1)).bind fun (acc, st2) =>
          (Out.of (dictOf [] [] acc)).bind fun p => .ok ((.dct p.1 p.2, true), give br ⟨unwipe own st1.r st2.r, st2.s⟩)
    | [] => .stuck
  | .frz e, st => (ev e st).bind fun ((d, fr), st1) => match freeze 100 d st1.s with
    | some (d', s) => .ok ((d', false), ⟨st1.r, s⟩)
    | none => .stuck
  | .cell e, st => (ev e st).bind fun ((d, fr), st1) => match fr && isMutD d with
    | true => .ok ((.ref st1.s.length, false), { st1 with s := st1.s ++ [some d] })
    | false => .stuck
  | .prop o m, st => (ev o st).bind fun ((d, _), st1) => match clsOf m (top st1.s d) with
    | some c => (match I.mt c m with
      | some f => noX (callSt (I.fn f [d] st1.s) st1)
      | none => .stuck)
    | none => .stuck
  | .isx a c, st => one (kIsx I.sub I.nx c) (opd a (ev a)) st
  | .isv a, st => one (kIsv I.nx) (opd a (ev a)) st
  | .mkx c a, st => (ev a st).bind fun (_, st1) => .ok ((.err c none, false), st1)
  | .mkp c a, st => (ev a st).bind fun ((d, _), st1) => match d with
    | .int i => if Nat.blt i.natAbs (2 ^ 1000) && Nat.ble (toString i).length 1000 then .ok ((.err c (some i), false), st1) else .stuck
    | _ => .stuck
  | .xline a, st => one kLine (opd a (ev a)) st
def evos : List Ex → St → Out (List Ov × St)
  | [], st => .ok ([], st)
  | e :: r, st => (opd e (ev e) st).bind fun (x, st1) => (evos r st1).bind fun (xs, st2) => .ok (x :: xs, st2)
def evs : List Ex → St → Out (List D × St)
  | [], st => .ok ([], st)
  | e :: r, st => (ev e st).bind fun ((d, _), st1) => (evs r st1).bind fun (ds, st2) => .ok (d :: ds, st2)
def evp : Option Ex → St → Out (Option Int × St)
  | none, st => .ok (none, st)
  | some e, st => (opd e (ev e) st).bind fun (x, st1) => match rdo st1 x with
    | some (.int i) => .ok (some i, st1)
    | _ => .stuck
def evels : List El → St → Out (List D × St)
  | [], st => .ok ([], st)
  | .one e :: r, st => (ev e st).bind fun ((d, _), st1) => (evels r st1).bind fun (ds, st2) => .ok (d :: ds, st2)
  | .star e :: r, st => (opd e (ev e) st).bind fun (x, st1) => match rdo st1 x with
    | some d => (Out.of (seqD d)).bind fun l => (evels r st1).bind fun (ds, st2) => .ok (l ++ ds, st2)
    | none => .stuck
def evits : List It → St → Out (List D × St)
  | [], st => .ok ([], st)
  | .kv k v :: r, st => (ev k st).bind fun ((x, _), st1) => (ev v st1).bind fun ((y, _), st2) => (evits r st2).bind fun (ds, st3) => .ok (.tup [x, y] :: ds, st3)
  | .star e :: r, st => (opd e (ev e) st).bind fun (x, st1) => match rdo st1 x with
    | some (.dct ks vs) => (evits r st1).bind fun (ds, st2) => .ok (pairsD ks vs ++ ds, st2)
    | _ => .stuck
def evAnd : List Ex → St → Out (Bool × St)
  | [], st => .ok (true, st)
  | e :: r, st => (tst e (ev e) st).bind fun (b, st1) => match b with
    | true => evAnd r st1
    | false => .ok (false, st1)
def evOr : List Ex → St → Out (Bool × St)
  | [], st => .ok (false, st)
  | e :: r, st => (tst e (ev e) st).bind fun (b, st1) => match b with
    | true => .ok (true, st1)
    | false => evOr r st1
def evAndV : List Ex → St → Out (Bool × St)
  | [], st => .ok (true, st)
  | e :: r, st => (ev e st).bind fun ((d, _), st1) => match d with
    | .bl true => evAndV r st1
    | .bl false => .ok (false, st1)
    | _ => .stuck
def evOrV : List Ex → St → Out (Bool × St)
  | [], st => .ok (false, st)
  | e :: r, st => (ev e st).bind fun ((d, _), st1) => match d with
    | .bl false => evOrV r st1
    | .bl true => .ok (true, st1)
    | _ => .stuck
def evsrc : Src → St → Out ((List D × List Loan) × St)
  | .over (.pk i), st => Out.of (lendS i st)
  | .over e, st => (ev e st).bind fun ((d, _), st1) => Out.of (lend d st1)
  | .its e, st => (ev e st).bind fun ((d, _), st1) => match d with
    | .dct ks vs => .ok ((pairsD ks vs, []), st1)
    | _ => .stuck
  | .rg1 a, st => (ev a st).bind fun ((x, _), st1) => (Out.of (rgD (.int 0) x)).bind fun l => .ok ((l, []), st1)
  | .rg2 a b, st => (ev a st).bind fun ((x, _), st1) => (ev b st1).bind fun ((y, _), st2) => (Out.of (rgD x y)).bind fun l => .ok ((l, []), st2)
  | .enum s, st => (evsrc s st).bind fun ((l, ls), st1) => .ok ((enumD 0 l, ls), st1)
  | .zip2 a b, st => (ev a st).bind fun ((x, _), st1) => (ev b st1).bind fun ((y, _), st2) => (Out.of (lend x st2)).bind fun ((l, ls), st3) => (Out.of (lend y st3)).bind fun ((m, ms), st4) =>
    (Out.of (zipD [some l, some m])).bind fun r => .ok ((r, ms ++ ls), st4)
  | .zip3 a b c, st => (ev a st).bind fun ((x, _), st1) => (ev b st1).bind fun ((y, _), st2) => (ev c st2).bind fun ((z, _), st3) => (Out.of (lend x st3)).bind fun ((l, ls), st4) => (Out.of (lend y st4)).bind fun ((m, ms), st5) =>
    (Out.of (lend z st5)).bind fun ((n, ns), st6) => (Out.of (zipD [some l, some m, some n])).bind fun r => .ok ((r, ns ++ ms ++ ls), st6)
def evgens : List Gen → (List D × St → Out (List D × St)) → List D × St → Out (List D × St)
  | [], k, x => k x
  | .mk t s ifs :: g, k, (acc, st) => (evsrc s st).bind fun ((ds, ls), st1) =>
    giveO ls (compGo (fun d (acc, st) => match asgT t d ⟨wipe (Tg.own t) st.r, st.s⟩ with
      | some st' => (evAnd ifs st').bind fun (b, st2) => match b with
        | true => (evgens g k (acc, st2)).bind fun (acc, st3) => if Nat.ble acc.length 16777216 then .ok (acc, st3) else .stuck
        | false => .ok (acc, st2)
      | none => .stuck) ds (acc, st1))
end
def asgO : Tg → D → Bool → St → Option St
  | .nm i, d, fr, st => some (setSlot i (some (fr && isMutD d, d)) st)
  | t, d, _, st => asgT t d st
def evpar : List Ex → St → Out (List (D × Bool) × St)
  | [], st => .ok ([], st)
  | e :: r, st => (ev I e st).bind fun (x, st1) => (evpar r st1).bind fun (xs, st2) => .ok (x :: xs, st2)
def parSet : List Nat → List (D × Bool) → St → Option St
  | [], [], st => some st
  | i :: is, (d, fr) :: r, st => parSet is r (setSlot i (some (fr && isMutD d, d)) st)
  | _, _, _ => none
def matches_ (x : List Nat) (ps : List (List Nat)) : Bool := ps.any (· == x)
mutual
def exS : Sm → St → Out (Fl × St)
  | .asg t e, st => (ev I e st).bind fun ((d, fr), st1) => (Out.of (asgO t d fr st1)).bind fun st2 => .ok (.nx, st2)
  | .par l es, st => (evpar I es st).bind fun (xs, st1) => (Out.of (parSet l xs st1)).bind fun st2 => .ok (.nx, st2)
  | .seti o k v, st => (ev I v st).bind fun ((dv, _), st1) => (opd o (ev I o) st1).bind fun (x, st2) => (opd k (ev I k) st2).bind fun (y, st3) => match lvGet st3 x, rdo st3 y with
    | some (d, put), some dk => (match setD d dk dv with
      | some d' => .ok (.nx, put d' st3)
      | none => .stuck)
    | _, _ => .stuck
  | .seta o f v, st => (ev I v st).bind fun ((dv, _), st1) => (ev I o st1).bind fun ((x, _), st2) => match x with
    | .ref n => (match top st2.s (.ref n) with
      | some (.obj c ns vs) => if Nat.blt ns.length 1000 then .ok (.nx, setCell n (.obj c (fieldPut f dv ns vs).1 (fieldPut f dv ns vs).2) st2) else .stuck
      | _ => .stuck)
    | _ => .stuck
  | .ex e, st => (ev I e st).bind fun (_, st1) => .ok (.nx, st1)
  | .ifs c a b, st => (tst c (ev I c) st).bind fun (t, st1) => match t with
    | true => exB a st1
    | false => exB b st1
  | .for_ t s b, st => (evsrc I s st).bind fun ((ds, ls), st1) => match ls.any isSlotL with
    | true => .stuck
    | false => giveO ls (forGo (fun d st => match asgT t d st with
      | some st' => exB b st'
      | none => .stuck) ds st1)
  | .whl c b, st => whlGo (fun st => tst c (ev I c) st) (fun st => exB b st) I.wf st
  | .ret e, st => (ev I e st).bind fun ((d, fr), st1) => .ok (.rt d fr, st1)
  | .never, _ => .stuck
  | .ret0, st => .ok (.rt .non false, st)
  | .raise c, st => .exc c st.s
  | .skip, st => .ok (.nx, st)
  | .brk, st => .ok (.bk, st)
  | .cont, st => .ok (.ct, st)
  | .mtch e ps bs, st => (opd e (ev I e) st).bind fun (x, st1) => match rdo st1 x with
    | some (.str w) => exM w ps bs st1
    | _ => .stuck
  | .frzS i, st => match slotAt i st.r with
    | some (_, .ref n) => (match freeze 100 (.ref n) st.s with
      | some (d, s) => .ok (.nx, setSlot i (some (false, d)) { st with s := s })
      | none => .stuck)
    | some (_, d) => .ok (.nx, setSlot i (some (false, d)) st)
    | none => .stuck
def exB : List Sm → St → Out (Fl × St)
  | [], st => .ok (.nx, st)
  | m :: r, st => match exS m st with
    | .ok (.nx, st1) => exB r st1
    | x => x
def exM (w : List Nat) : List (List (List Nat)) → List (List Sm) → St → Out (Fl × St)
  | p :: ps, b :: bs, st => if matches_ w p then exB b st else exM w ps bs st
  | _, _, st => .ok (.nx, st)
end
end
/-- a def: how many slots, its body; the parameters first -/
structure Fn where
  np : Nat
  ns : Nat
  body : List Sm
structure Pg where
  fns : List Fn
  gls : List D
  mts : List (List (Nat × Nat))
  ini : List (Option Nat)
  sub : List (List Nat)
  wf : Nat
def callN (P : Pg) : Nat → Nat → List D → Cells → Out ((D × Bool) × Cells)
  | 0, _, _, _ => .stuck
  | n + 1, f, ds, s => match P.fns[f]? with
    | some F => if ds.length == F.np then
        (match exB ⟨callN P n, fun g => P.gls[g]?, fun c m => match P.mts[c]? with
          | some l => l.lookup m
          | none => none, fun c => match P.ini[c]? with
          | some x => x
          | none => none, fun k c => match P.sub[k]? with
          | some l => l.contains c
          | none => false, P.sub.length, P.wf⟩ F.body ⟨ds.map (fun d => some (false, d)) ++ List.replicate (F.ns - F.np) none, s⟩ with
        | .ok (.rt d fr, st) => .ok ((d, fr), st.s)
        | .ok (.nx, st) => .ok ((.non, false), st.s)
        | .ok _ => .stuck
        | .exc c s => .exc c s
        | .stuck => .stuck)
      else .stuck
    | none => .stuck
end Mi

set_option Elab.async false
set_option linter.all false
set_option maxRecDepth 100000
namespace Mi
open PySem PySem.Spec PyProof.Rows L2
/-! ### how trees stand in the heap -/
/-- what the text's names stand for -/
structure Wd where
  K : PySem.W.Frag
  cA : Nat → Addr
  eA : Nat → Addr
  fld : Nat → Str
/-- what is frozen; where the cells stand -/
structure Gh where
  F : Hp
  al : Nat → Option Addr
def stOf (l : List Nat) : Str := ⟨l.toArray⟩
def TupK (K : PySem.W.Frag) (a : Addr) (xs : List V) : Prop :=
  ∃ (o : Obj) (its : Array Value) (n : Nat), K.lookup a = some o ∧ o.cls = .type "tuple" ∧ o.data = .seq its n ∧ its.size ≤ sizeLine ∧ Vals xs its.toList
def LstK (K : PySem.W.Frag) (a : Addr) (xs : List V) : Prop :=
  ∃ (o : Obj) (its : Array Value) (n : Nat), K.lookup a = some o ∧ o.cls = .type "list" ∧ o.dict = none ∧ o.data = .seq its n ∧ its.size ≤ sizeLine ∧ Vals xs its.toList
/-- a tuple whose object is known to have no dict -/
def TupG (F : Hp) (a : Addr) (xs : List V) : Prop := ∃ od : Obj, od.dict = none ∧ F a = some (.frz od (.tup xs))
def TupAt (K : PySem.W.Frag) (F : Hp) (a : Addr) (xs : List V) : Prop := F a = some (.tup xs) ∨ TupG F a xs ∨ TupK K a xs
theorem TupAt.mono {K : PySem.W.Frag} {F F' : Hp} (h : ∀ a o, F a = some o → F' a = some o) {a : Addr} {xs : List V} (t : TupAt K F a xs) : TupAt K F' a xs := by
  rcases t with t | ⟨od, hd, t⟩ | t
  · exact .inl (h _ _ t)
  · exact .inr (.inl ⟨od, hd, h _ _ t⟩)
  · exact .inr (.inr t)
def LstAt (_K : PySem.W.Frag) (F : Hp) (a : Addr) (xs : List V) : Prop := F a = some (.lst xs)
/-- a dict that is read: its keys and values in order -/
inductive DcAt (Y : Wd) (F : Addr → HO → Prop) (a : Addr) : List V → List V → Prop where
  | dK (kvs : List (Key × V)) : F a (.dK kvs) → DcAt Y F a (kvs.map fun p => kV p.1) (kvs.map (·.2))
abbrev isAt (F : Hp) : Addr → HO → Prop := fun a o => F a = some o
/-- an exception object that is held: its class; the line that it carries -/
def ErrAt (Y : Wd) (F : Hp) (a : Addr) (c : Nat) (o : Option Int) : Prop :=
  ∃ (od : Obj) (vs : Array Value), F a = some (.frz od (.ext fun _ => True)) ∧ od.cls = .ref (Y.eA c) ∧ od.data = .fields vs ∧ match o with
    | none => od.dict = none
    | some i => ∃ d, od.dict = some d ∧ F d = some (.xd [(("line" : Str), .int i)])
theorem ErrAt.mono {Y : Wd} {F F' : Hp} (h : ∀ a o, F a = some o → F' a = some o) {a : Addr} {c : Nat} {o : Option Int} (e : ErrAt Y F a c o) : ErrAt Y F' a c o := by
  obtain ⟨od, vs, h1, h2, h3, h4⟩ := e
  refine ⟨od, vs, h _ _ h1, h2, h3, ?_⟩
  cases o with
  | none => exact h4
  | some i => obtain ⟨d, e1, e2⟩ := h4; exact ⟨d, e1, h _ _ e2⟩
/-- the script -/
def ScrAt (K : PySem.W.Frag) (F : Hp) (a : Addr) (xs : List V) : Prop := (∃ od, F a = some (.frz od (.lst xs))) ∨ LstK K a xs
theorem ScrAt.mono {K : PySem.W.Frag} {F F' : Hp} (h : ∀ a o, F a = some o → F' a = some o) {a : Addr} {xs : List V} (e : ScrAt K F a xs) : ScrAt K F' a xs := e.imp (fun ⟨od, z⟩ => ⟨od, h _ _ z⟩) id
mutual
def RV (Y : Wd) (F : Hp) (al : Nat → Option Addr) : D → V → Prop
  | .non, v => v = .non
  | .bl b, v => v = .bl b
  | .int i, v => v = .int i
  | .str s, v => v = .str (stOf s) ∧ (s.all fun c => Nat.blt c 1114112) = true
  | .tup l, v => ∃ a xs, v = .ref a ∧ TupAt Y.K F a xs ∧ RVs Y F al l xs
  | .lst l, v => ∃ a xs, v = .ref a ∧ LstAt Y.K F a xs ∧ RVs Y F al l xs
  | .dct ks vs, v => ∃ a xs ys, v = .ref a ∧ DcAt Y (isAt F) a xs ys ∧ RVs Y F al ks xs ∧ RVs Y F al vs ys
  | .obj c ns vs, v => ∃ a dx fs, v = .ref a ∧ F a = some (.ins (Y.cA c) dx fs) ∧ fs.map (·.1) = ns.map Y.fld ∧ RVs Y F al vs (fs.map (·.2))
  | .err c o, v => ∃ a, v = .ref a ∧ ErrAt Y F a c o
  | .scr l, v => ∃ a, v = .ref a ∧ ScrAt Y.K F a (l.map V.int)
  | .ref n, v => ∃ a, v = .ref a ∧ al n = some a
def RVs (Y : Wd) (F : Hp) (al : Nat → Option Addr) : List D → List V → Prop
  | [], xs => xs = []
  | d :: ds, xs => ∃ x r, xs = x :: r ∧ RV Y F al d x ∧ RVs Y F al ds r
end
/-- what stands at a place that changes -/
def CW (Y : Wd) (G : Gh) (H : Hp) (a : Addr) : D → Prop
  | .lst l => ∃ xs, H a = some (.lst xs) ∧ RVs Y G.F G.al l xs
  | .dct ks vs => ∃ kvs : List (Key × V), H a = some (.dK kvs) ∧ RVs Y G.F G.al ks (kvs.map fun p => kV p.1) ∧ RVs Y G.F G.al vs (kvs.map (·.2))
  | .obj c ns vs => ∃ dx fs, H a = some (.ins (Y.cA c) dx fs) ∧ fs.map (·.1) = ns.map Y.fld ∧ RVs Y G.F G.al vs (fs.map (·.2))
  | _ => False
/-- who owns a place -/
inductive OT where | slot (i : Nat) | cell (n : Nat)
def owns (G : Gh) (st : St) (σ : L2.St) : OT → Addr → Prop
  | .slot i, a => ∃ d, slotAt i st.r = some (true, d) ∧ σ[i]? = some (some (.ref a))
  | .cell n, a => (∃ d, st.s[n]? = some (some d)) ∧ G.al n = some a
def Owned (G : Gh) (st : St) (σ : L2.St) (a : Addr) : Prop := ∃ t, owns G st σ t a
def isDkO : HO → Bool
  | .dK _ => true
  | .dT _ => true
  | .ext _ => true
  | _ => false
structure Rel (Y : Wd) (G : Gh) (st : St) (σ : L2.St) (H : Hp) : Prop where
  fzi : ∀ a o, G.F a = some o → isDkO o = false → H a = some o
  fz : ∀ a o, G.F a = some o → Rd H a o
  dom : ∀ n a, G.al n = some a → n < st.s.length
  cells : ∀ n d, st.s[n]? = some (some d) → ∃ a, G.al n = some a ∧ G.F a = none ∧ CW Y G H a d
  slots : ∀ i b d, slotAt i st.r = some (b, d) → ∃ v, σ[i]? = some (some v) ∧ (b = false → RV Y G.F G.al d v) ∧ (b = true → ∃ a, v = .ref a ∧ G.F a = none ∧ CW Y G H a d)
  inj : ∀ t t' a, owns G st σ t a → owns G st σ t' a → t = t'
  len : st.r.length ≤ σ.length
structure Ext (G : Gh) (st : St) (σ : L2.St) (H : Hp) (G' : Gh) (st' : St) (H' : Hp) : Prop where
  lk : ∀ a od u, H a = some (.frz od u) → H' a = some (.frz od u)
  F : ∀ a o, G.F a = some o → G'.F a = some o
  al : ∀ n a, G.al n = some a → G'.al n = some a
  keep : ∀ a o, H a = some o → ¬ Owned G st σ a → G.F a = none → H' a = some o
  there : ∀ a, H a ≠ none → H' a ≠ none
  own : ∀ a, Owned G' st' σ a → Owned G st σ a ∨ H a = none
  frz : ∀ a, G'.F a ≠ none → G.F a ≠ none ∨ H a = none ∨ Owned G st σ a
/-- the answer of an expression: fresh, or frozen -/
def RR (Y : Wd) (G : Gh) (st : St) (σ : L2.St) (H : Hp) (G' : Gh) (st' : St) (H' : Hp) (d : D) (fr : Bool) (v : V) : Prop :=
  if (fr && isMutD d) = true then ∃ a, v = .ref a ∧ G'.F a = none ∧ ¬ Owned G' st' σ a ∧ CW Y G' H' a d ∧ (H a = none ∨ Owned G st σ a) else RV Y G'.F G'.al d v

/-! ### laws of these -/
theorem Rd.sub {F F' : Hp} (h : ∀ a o, F a = some o → F' a = some o) {a : Addr} {u : HO} (r : Rd F a u) : Rd F' a u := by
  rcases r with r | ⟨o, r⟩
  · exact .inl (h _ _ r)
  · exact .inr ⟨o, h _ _ r⟩
section
variable {Y : Wd} {F F' : Hp} {al al' : Nat → Option Addr}
theorem DcAt.mono {F F' : Addr → HO → Prop} (h : ∀ a o, F a o → F' a o) {a : Addr} {xs ys : List V} (x : DcAt Y F a xs ys) : DcAt Y F' a xs ys := by
  cases x with
  | dK kvs r => exact .dK kvs (h _ _ r)
mutual
theorem RV.mono (h : ∀ a o, F a = some o → F' a = some o) (h2 : ∀ n a, al n = some a → al' n = some a) : ∀ (d : D) (v : V), RV Y F al d v → RV Y F' al' d v
  | .non, v, x => by simpa only [RV] using x
  | .bl b, v, x => by simpa only [RV] using x
  | .int b, v, x => by simpa only [RV] using x
  | .str b, v, x => by simpa only [RV] using x
  | .tup l, v, x => by
    simp only [RV] at x ⊢
    obtain ⟨a, xs, e, s, r⟩ := x
    exact ⟨a, xs, e, s.mono h, RVs.mono h h2 l xs r⟩
  | .lst l, v, x => by
    simp only [RV] at x ⊢
    obtain ⟨a, xs, e, s, r⟩ := x
    exact ⟨a, xs, e, h _ _ s, RVs.mono h h2 l xs r⟩
  | .dct ks vs, v, x => by
    simp only [RV] at x ⊢
    obtain ⟨a, xs, ys, e, s, r, r2⟩ := x
    exact ⟨a, xs, ys, e, s.mono h, RVs.mono h h2 ks xs r, RVs.mono h h2 vs ys r2⟩
  | .obj c ns vs, v, x => by
    simp only [RV] at x ⊢
    obtain ⟨a, dx, fs, e, s, n, r⟩ := x
    exact ⟨a, dx, fs, e, h _ _ s, n, RVs.mono h h2 vs _ r⟩
  | .err c o, v, x => by
    simp only [RV] at x ⊢
    obtain ⟨a, e, r⟩ := x
    exact ⟨a, e, r.mono h⟩
  | .scr l, v, x => by
    simp only [RV] at x ⊢
    obtain ⟨a, e, r⟩ := x
    exact ⟨a, e, r.mono h⟩
  | .ref n, v, x => by
    simp only [RV] at x ⊢
    obtain ⟨a, e, r⟩ := x
    exact ⟨a, e, h2 _ _ r⟩
theorem RVs.mono (h : ∀ a o, F a = some o → F' a = some o) (h2 : ∀ n a, al n = some a → al' n = some a) : ∀ (l : List D) (xs : List V), RVs Y F al l xs → RVs Y F' al' l xs
  | [], xs, x => by simpa only [RVs] using x
  | d :: ds, xs, x => by
    simp only [RVs] at x ⊢
    obtain ⟨y, r, e, s, t⟩ := x
    exact ⟨y, r, e, RV.mono h h2 d y s, RVs.mono h h2 ds r t⟩
end
theorem RVs.cons {d : D} {v : V} {ds : List D} {vs : List V} (a : RV Y F al d v) (b : RVs Y F al ds vs) : RVs Y F al (d :: ds) (v :: vs) := by
  simp only [RVs]
  exact ⟨v, vs, rfl, a, b⟩
theorem RVs.nil : RVs Y F al [] [] := by simp only [RVs]
theorem RVs.app : ∀ {ds es : List D} {vs us : List V}, RVs Y F al ds vs → RVs Y F al es us → RVs Y F al (ds ++ es) (vs ++ us)
  | [], es, vs, us, a, b => by simp only [RVs] at a; subst a; exact b
  | d :: ds, es, vs, us, a, b => by
    simp only [RVs] at a
    obtain ⟨x, r, e, s, t⟩ := a
    subst e
    exact RVs.cons s (RVs.app t b)
theorem RVs.length : ∀ {ds : List D} {vs : List V}, RVs Y F al ds vs → ds.length = vs.length
  | [], vs, a => by simp only [RVs] at a; subst a; rfl
  | d :: ds, vs, a => by
    simp only [RVs] at a
    obtain ⟨x, r, e, s, t⟩ := a
    subst e
    simp [RVs.length t]
theorem RVs.get : ∀ {ds : List D} {vs : List V} {i : Nat} {d : D}, RVs Y F al ds vs → ds[i]? = some d → ∃ v, vs[i]? = some v ∧ RV Y F al d v
  | [], vs, i, d, a, h => by simp at h
  | e :: ds, vs, i, d, a, h => by
    simp only [RVs] at a
    obtain ⟨x, r, q, s, t⟩ := a
    subst q
    cases i with
    | zero => simp at h; subst h; exact ⟨x, rfl, s⟩
    | succ i => simpa using RVs.get t (by simpa using h)
end
theorem CW.mono {Y : Wd} {G G' : Gh} {H H' : Hp} {a : Addr} {d : D} (h : ∀ a o, G.F a = some o → G'.F a = some o) (h2 : ∀ n a, G.al n = some a → G'.al n = some a) (ha : ∀ o, H a = some o → H' a = some o) (c : CW Y G H a d) : CW Y G' H' a d := by
  cases d with
  | lst l => obtain ⟨xs, e, r⟩ := c; exact ⟨xs, ha _ e, r.mono h h2⟩
  | dct ks vs => obtain ⟨kvs, e, r, r2⟩ := c; exact ⟨kvs, ha _ e, r.mono h h2, r2.mono h h2⟩
  | obj k ns vs => obtain ⟨dx, fs, e, n, r⟩ := c; exact ⟨dx, fs, ha _ e, n, r.mono h h2⟩
  | _ => exact c.elim
theorem CW.there {Y : Wd} {G : Gh} {H : Hp} {a : Addr} {d : D} (c : CW Y G H a d) : H a ≠ none := by
  cases d with
  | lst l => obtain ⟨xs, e, r⟩ := c; rw [e]; exact fun z => nomatch z
  | dct ks vs => obtain ⟨kvs, e, r⟩ := c; rw [e]; exact fun z => nomatch z
  | obj k ns vs => obtain ⟨dx, fs, e, r⟩ := c; rw [e]; exact fun z => nomatch z
  | _ => exact c.elim
section
variable {Y : Wd} {G G1 G2 : Gh} {st st1 st2 : St} {σ : L2.St} {H H1 H2 : Hp}
theorem Rel.owned (R : Rel Y G st σ H) {a : Addr} (h : Owned G st σ a) : G.F a = none ∧ H a ≠ none := by
  obtain ⟨t, h⟩ := h
  cases t with
  | slot i =>
    obtain ⟨d, h1, h2⟩ := h
    obtain ⟨v, e, _, r⟩ := R.slots i true d h1
    obtain ⟨b, e2, f, c⟩ := r rfl
    rw [h2] at e
    cases e
    cases e2
    exact ⟨f, c.there⟩
  | cell n =>
    obtain ⟨⟨d, h1⟩, h2⟩ := h
    obtain ⟨b, e, f, c⟩ := R.cells n d h1
    rw [h2] at e
    cases e
    exact ⟨f, c.there⟩
theorem Ext.refl : Ext G st σ H G st H :=
  ⟨fun _ _ _ h => h, fun _ _ h => h, fun _ _ h => h, fun _ _ h _ _ => h, fun _ h => h, fun _ h => .inl h, fun _ h => .inl h⟩
theorem Ext.trans (a : Ext G st σ H G1 st1 H1) (b : Ext G1 st1 σ H1 G2 st2 H2) : Ext G st σ H G2 st2 H2 where
  lk := fun x od u h => b.lk x od u (a.lk x od u h)
  F := fun x o h => b.F x o (a.F x o h)
  al := fun n x h => b.al n x (a.al n x h)
  keep := fun x o h n g => b.keep x o (a.keep x o h n g) (fun z => (a.own x z).elim n fun e => by rw [h] at e; cases e) (by
    cases q : G1.F x with
    | none => rfl
    | some u =>
      rcases a.frz x (by rw [q]; exact fun z => nomatch z) with z | z | z
      · exact absurd g z
      · rw [h] at z; cases z
      · exact absurd z n)
  there := fun x h => b.there x (a.there x h)
  own := fun x h => by
    rcases b.own x h with z | z
    · exact a.own x z
    · refine .inr ?_
      cases e : H x with
      | none => rfl
      | some o => exact absurd z (a.there x (by rw [e]; exact fun z => nomatch z))
  frz := fun x h => by
    rcases b.frz x h with z | z | z
    · exact a.frz x z
    · refine .inr (.inl ?_)
      cases e : H x with
      | none => rfl
      | some o => exact absurd z (a.there x (by rw [e]; exact fun z => nomatch z))
    · rcases a.own x z with q | q
      · exact .inr (.inr q)
      · exact .inr (.inl q)
theorem Rel.fresh (R : Rel Y G st σ H) {a : Addr} (h : H a = none) : G.F a = none := by
  cases e : G.F a with
  | none => rfl
  | some o =>
    rcases R.fz a o e with z | ⟨_, z⟩ <;> (rw [h] at z; cases z)
end
end Mi

set_option Elab.async false
set_option linter.all false
set_option maxRecDepth 100000
namespace Mi
open PySem PySem.Spec PyProof.Rows L2
/-! ### readings -/
def PostE (Y : Wd) (W : WX) (G : Gh) (st : St) (σ : L2.St) (H : Hp) (o : Out ((D × Bool) × St)) (Q : VK) : Prop := match o with
  | .ok ((d, fr), st') => ∀ G' H' v, Rel Y G' st' σ H' → Ext G st σ H G' st' H' → RR Y G st σ H G' st' H' d fr v → Q v H'
  | .exc c s => ∀ G' H', Rel Y G' ⟨[], s⟩ [] H' → Ext G st σ H G' ⟨[], s⟩ H' → W (.ref (Y.eA c)) none σ H'
  | .stuck => False
/-- an operand: a name's value is the slot's -/
def OV (Y : Wd) (G : Gh) (st : St) (σ : L2.St) : Ov → V → Prop
  | .slot i, v => σ[i]? = some (some v)
  | .val d, v => RV Y G.F G.al d v
def PostO (Y : Wd) (W : WX) (G : Gh) (st : St) (σ : L2.St) (H : Hp) (o : Out (Ov × St)) (Q : VK) : Prop := match o with
  | .ok (x, st') => ∀ G' H' v, Rel Y G' st' σ H' → Ext G st σ H G' st' H' → OV Y G' st' σ x v → Q v H'
  | .exc c s => ∀ G' H', Rel Y G' ⟨[], s⟩ [] H' → Ext G st σ H G' ⟨[], s⟩ H' → W (.ref (Y.eA c)) none σ H'
  | .stuck => False
def PostT (Y : Wd) (W : WX) (G : Gh) (st : St) (σ : L2.St) (H : Hp) (o : Out (Bool × St)) (Q : Bool → Hp → Prop) : Prop := match o with
  | .ok (b, st') => ∀ G' H', Rel Y G' st' σ H' → Ext G st σ H G' st' H' → Q b H'
  | .exc c s => ∀ G' H', Rel Y G' ⟨[], s⟩ [] H' → Ext G st σ H G' ⟨[], s⟩ H' → W (.ref (Y.eA c)) none σ H'
  | .stuck => False
def PostL (Y : Wd) (W : WX) (G : Gh) (st : St) (σ : L2.St) (H : Hp) (o : Out (List D × St)) (Q : List V → Hp → Prop) : Prop := match o with
  | .ok (ds, st') => ∀ G' H' vs, Rel Y G' st' σ H' → Ext G st σ H G' st' H' → RVs Y G'.F G'.al ds vs → Q vs H'
  | .exc c s => ∀ G' H', Rel Y G' ⟨[], s⟩ [] H' → Ext G st σ H G' ⟨[], s⟩ H' → W (.ref (Y.eA c)) none σ H'
  | .stuck => False
section
variable {Y : Wd} {W : WX} {G G1 : Gh} {st st1 : St} {σ : L2.St} {H H1 : Hp}
def rE (Y : Wd) (W : WX) (f : St → Out ((D × Bool) × St)) : TE := fun σ H Q => ∃ G st, Rel Y G st σ H ∧ PostE Y W G st σ H (f st) Q
def rO (Y : Wd) (W : WX) (f : St → Out (Ov × St)) : TE := fun σ H Q => ∃ G st, Rel Y G st σ H ∧ PostO Y W G st σ H (f st) Q
def rT (Y : Wd) (W : WX) (f : St → Out (Bool × St)) : TT := fun σ H Q => ∃ G st, Rel Y G st σ H ∧ PostT Y W G st σ H (f st) Q
def rL (Y : Wd) (W : WX) (f : St → Out (List D × St)) : TA := fun σ H Q => ∃ G st, Rel Y G st σ H ∧ PostL Y W G st σ H (f st) Q
/-! ### passing on -/
theorem PostE.ext (x : Ext G st σ H G1 st1 H1) {o : Out ((D × Bool) × St)} {Q : VK} (fr0 : ∀ d fr v G' st' H', Rel Y G' st' σ H' → Ext G1 st1 σ H1 G' st' H' → RR Y G1 st1 σ H1 G' st' H' d fr v → RR Y G st σ H G' st' H' d fr v)
    (h : PostE Y W G st σ H o Q) : PostE Y W G1 st1 σ H1 o Q := by
  cases o with
  | ok a =>
    obtain ⟨⟨d, fr⟩, st'⟩ := a
    exact fun G' H' v R E r => h G' H' v R (x.trans E) (fr0 d fr v G' st' H' R E r)
  | exc c s => exact fun G' H' R E => h G' H' R (x.trans E)
  | stuck => exact h
theorem RR.ext (x : Ext G st σ H G1 st1 H1) {d : D} {fr : Bool} {v : V} {G' : Gh} {st' : St} {H' : Hp} (r : RR Y G1 st1 σ H1 G' st' H' d fr v) : RR Y G st σ H G' st' H' d fr v := by
  unfold RR at r ⊢
  split
  · rename_i h
    rw [if_pos h] at r
    obtain ⟨a, e, f, n, c, z⟩ := r
    refine ⟨a, e, f, n, c, ?_⟩
    rcases z with z | z
    · left
      cases q : H a with
      | none => rfl
      | some o => exact absurd z (x.there a (by rw [q]; exact fun z => nomatch z))
    · rcases x.own a z with z | z
      · exact .inr z
      · exact .inl z
  · rename_i h
    rw [if_neg h] at r
    exact r
theorem PostE.on (x : Ext G st σ H G1 st1 H1) {o : Out ((D × Bool) × St)} {Q : VK} (h : PostE Y W G st σ H o Q) : PostE Y W G1 st1 σ H1 o Q :=
  PostE.ext x (fun _ _ _ _ _ _ _ _ r => RR.ext x r) h
theorem PostO.on (x : Ext G st σ H G1 st1 H1) {o : Out (Ov × St)} {Q : VK} (h : PostO Y W G st σ H o Q) : PostO Y W G1 st1 σ H1 o Q := by
  cases o with
  | ok a => obtain ⟨d, st'⟩ := a; exact fun G' H' v R E r => h G' H' v R (x.trans E) r
  | exc c s => exact fun G' H' R E => h G' H' R (x.trans E)
  | stuck => exact h
theorem PostT.on (x : Ext G st σ H G1 st1 H1) {o : Out (Bool × St)} {Q : Bool → Hp → Prop} (h : PostT Y W G st σ H o Q) : PostT Y W G1 st1 σ H1 o Q := by
  cases o with
  | ok a => obtain ⟨d, st'⟩ := a; exact fun G' H' R E => h G' H' R (x.trans E)
  | exc c s => exact fun G' H' R E => h G' H' R (x.trans E)
  | stuck => exact h
theorem PostL.on (x : Ext G st σ H G1 st1 H1) {o : Out (List D × St)} {Q : List V → Hp → Prop} (h : PostL Y W G st σ H o Q) : PostL Y W G1 st1 σ H1 o Q := by
  cases o with
  | ok a => obtain ⟨d, st'⟩ := a; exact fun G' H' v R E r => h G' H' v R (x.trans E) r
  | exc c s => exact fun G' H' R E => h G' H' R (x.trans E)
  | stuck => exact h
/-- one after another -/
theorem PostO.bind {o : Out (Ov × St)} {k : Ov × St → Out ((D × Bool) × St)} {Q : VK} (h : PostE Y W G st σ H (o.bind k) Q) :
    PostO Y W G st σ H o fun v H1 => ∃ x st1 G1, o = .ok (x, st1) ∧ Rel Y G1 st1 σ H1 ∧ Ext G st σ H G1 st1 H1 ∧ OV Y G1 st1 σ x v ∧ PostE Y W G1 st1 σ H1 (k (x, st1)) Q := by
  cases o with
  | ok a => obtain ⟨x, st'⟩ := a; exact fun G' H' v R E r => ⟨x, st', G', rfl, R, E, r, PostE.on E h⟩
  | exc c s => exact h
  | stuck => exact h
theorem PostE.bind {o : Out ((D × Bool) × St)} {k : (D × Bool) × St → Out ((D × Bool) × St)} {Q : VK} (h : PostE Y W G st σ H (o.bind k) Q) :
    PostE Y W G st σ H o fun v H1 => ∃ d fr st1 G1, o = .ok ((d, fr), st1) ∧ Rel Y G1 st1 σ H1 ∧ Ext G st σ H G1 st1 H1 ∧ RR Y G st σ H G1 st1 H1 d fr v ∧ PostE Y W G1 st1 σ H1 (k ((d, fr), st1)) Q := by
  cases o with
  | ok a => obtain ⟨⟨d, fr⟩, st'⟩ := a; exact fun G' H' v R E r => ⟨d, fr, st', G', rfl, R, E, r, PostE.on E h⟩
  | exc c s => exact h
  | stuck => exact h
theorem PostT.bind {o : Out (Bool × St)} {k : Bool × St → Out ((D × Bool) × St)} {Q : VK} (h : PostE Y W G st σ H (o.bind k) Q) :
    PostT Y W G st σ H o fun b H1 => ∃ st1 G1, o = .ok (b, st1) ∧ Rel Y G1 st1 σ H1 ∧ Ext G st σ H G1 st1 H1 ∧ PostE Y W G1 st1 σ H1 (k (b, st1)) Q := by
  cases o with
  | ok a => obtain ⟨x, st'⟩ := a; exact fun G' H' R E => ⟨st', G', rfl, R, E, PostE.on E h⟩
  | exc c s => exact h
  | stuck => exact h
theorem PostL.bind {o : Out (List D × St)} {k : List D × St → Out ((D × Bool) × St)} {Q : VK} (h : PostE Y W G st σ H (o.bind k) Q) :
    PostL Y W G st σ H o fun vs H1 => ∃ ds st1 G1, o = .ok (ds, st1) ∧ Rel Y G1 st1 σ H1 ∧ Ext G st σ H G1 st1 H1 ∧ RVs Y G1.F G1.al ds vs ∧ PostE Y W G1 st1 σ H1 (k (ds, st1)) Q := by
  cases o with
  | ok a => obtain ⟨x, st'⟩ := a; exact fun G' H' v R E r => ⟨x, st', G', rfl, R, E, r, PostE.on E h⟩
  | exc c s => exact h
  | stuck => exact h
/-! ### freezing a new thing -/
def Gh.put (G : Gh) (a : Addr) (o : HO) : Gh := ⟨fun b => if b = a then some o else G.F b, G.al⟩
theorem Gh.put_sub {G : Gh} {a : Addr} {o : HO} (h : G.F a = none) : ∀ b u, G.F b = some u → (G.put a o).F b = some u := fun b u e => by
  unfold Gh.put
  have : b ≠ a := fun z => by rw [z, h] at e; cases e
  simp [this, e]
theorem owns_put {a : Addr} {o : HO} {t : OT} {b : Addr} : owns (G.put a o) st σ t b ↔ owns G st σ t b := by
  cases t <;> exact Iff.rfl
theorem owned_put {a : Addr} {o : HO} {b : Addr} : Owned (G.put a o) st σ b ↔ Owned G st σ b := ⟨fun ⟨t, h⟩ => ⟨t, owns_put.mp h⟩, fun ⟨t, h⟩ => ⟨t, owns_put.mpr h⟩⟩
theorem CW.put {a b : Addr} {o : HO} {d : D} (hF : G.F a = none) (c : CW Y G H b d) : CW Y (G.put a o) H b d := c.mono (Gh.put_sub hF) (fun _ _ h => h) fun _ h => h
theorem Rel.put (R : Rel Y G st σ H) {a : Addr} {o : HO} (ha : H a = some o) (hF : G.F a = none) (hO : ¬ Owned G st σ a) : Rel Y (G.put a o) st σ H where
  fzi := fun b u e i => by
    unfold Gh.put at e
    by_cases z : b = a
    · subst z; simp at e; subst e; exact ha
    · simp [z] at e; exact R.fzi b u e i
  fz := fun b u e => by
    unfold Gh.put at e
    by_cases z : b = a
    · subst z; simp at e; subst e; exact .inl ha
    · simp [z] at e; exact R.fz b u e
  dom := R.dom
  cells := fun n d h => by
    obtain ⟨b, e, f, c⟩ := R.cells n d h
    refine ⟨b, e, ?_, c.put hF⟩
    have : b ≠ a := fun z => hO ⟨.cell n, ⟨d, h⟩, by rw [← z]; exact e⟩
    simp [Gh.put, this, f]
  slots := fun i b d h => by
    obtain ⟨v, e, h1, h2⟩ := R.slots i b d h
    refine ⟨v, e, fun z => (h1 z).mono (Gh.put_sub hF) fun _ _ h => h, fun z => ?_⟩
    obtain ⟨x, e2, f, c⟩ := h2 z
    refine ⟨x, e2, ?_, c.put hF⟩
    have : x ≠ a := fun q => hO ⟨.slot i, d, by rw [h, z], by rw [e, e2, q]⟩
    simp [Gh.put, this, f]
  inj := fun t t' b h h' => R.inj t t' b (owns_put.mp h) (owns_put.mp h')
  len := R.len
theorem Ext.put {a : Addr} {o : HO} (hF : G1.F a = none) (x : Ext G st σ H G1 st1 H1) (hn : H a = none ∨ Owned G st σ a) : Ext G st σ H (G1.put a o) st1 H1 where
  lk := x.lk
  F := fun b u h => Gh.put_sub hF b u (x.F b u h)
  al := x.al
  keep := x.keep
  there := x.there
  own := fun b h => x.own b (owned_put.mp h)
  frz := fun b h => by
    by_cases z : b = a
    · subst z
      rcases hn with q | q
      · exact .inr (.inl q)
      · exact .inr (.inr q)
    · refine x.frz b fun q => h ?_
      simp [Gh.put, z, q]
/-- a result, frozen -/
theorem RR.shut (R : Rel Y G1 st1 σ H1) (x : Ext G st σ H G1 st1 H1) {d : D} {fr : Bool} {v : V} (r : RR Y G st σ H G1 st1 H1 d fr v) :
    ∃ G2, Rel Y G2 st1 σ H1 ∧ Ext G st σ H G2 st1 H1 ∧ RV Y G2.F G2.al d v := by
  unfold RR at r
  split at r
  · obtain ⟨a, e, f, n, c, z⟩ := r
    subst e
    cases d with
    | lst l =>
      obtain ⟨xs, h, rs⟩ := c
      refine ⟨G1.put a (.lst xs), R.put h f n, x.put f z, ?_⟩
      simp only [RV]
      exact ⟨a, xs, rfl, by simp [LstAt, Gh.put], rs.mono (Gh.put_sub f) fun _ _ h => h⟩
    | dct ks vs =>
      obtain ⟨kvs, h, r1, r2⟩ := c
      refine ⟨G1.put a (.dK kvs), R.put h f n, x.put f z, ?_⟩
      simp only [RV]
      exact ⟨a, _, _, rfl, .dK kvs (by simp [isAt, Gh.put]), r1.mono (Gh.put_sub f) (fun _ _ h => h), r2.mono (Gh.put_sub f) fun _ _ h => h⟩
    | obj k ns vs =>
      obtain ⟨dx, fs, h, hn, rs⟩ := c
      refine ⟨G1.put a (.ins (Y.cA k) dx fs), R.put h f n, x.put f z, ?_⟩
      simp only [RV]
      exact ⟨a, dx, fs, rfl, by simp [Gh.put], hn, rs.mono (Gh.put_sub f) fun _ _ h => h⟩
    | _ => exact c.elim
  · exact ⟨G1, R, x, r⟩
end
/-! ### the judgements -/
def SE (Y : Wd) (W : WX) (X : Cx) (e : Expr) (f : St → Out ((D × Bool) × St)) : Prop := PE X e (rE Y W f)
def SO (Y : Wd) (W : WX) (X : Cx) (e : Expr) (f : St → Out (Ov × St)) : Prop := PE X e (rO Y W f)
def SB (Y : Wd) (W : WX) (X : Cx) (e : Expr) (f : St → Out (Bool × St)) : Prop := PT X e (rT Y W f)
def SL (Y : Wd) (W : WX) (X : Cx) (es : List Expr) (f : St → Out (List D × St)) : Prop := PA X es (rL Y W f)
theorem PE.imp {X : Cx} {e : Expr} {t t' : TE} (h : PE X e t) (i : ∀ σ H Q, t' σ H Q → t σ H Q) : PE X e t' := ⟨fun pins s σ H Q I q => h.run pins s σ H Q I (i σ H Q q)⟩
theorem PT.imp {X : Cx} {e : Expr} {t t' : TT} (h : PT X e t) (i : ∀ σ H Q, t' σ H Q → t σ H Q) : PT X e t' := ⟨fun pins s σ H Q I q => h.run pins s σ H Q I (i σ H Q q)⟩
theorem PA.imp {X : Cx} {es : List Expr} {t t' : TA} (h : PA X es t) (i : ∀ σ H Q, t' σ H Q → t σ H Q) : PA X es t' := ⟨fun pos pins s σ H Q I q => h.run pos pins s σ H Q I (i σ H Q q)⟩
section
variable {Y : Wd} {W : WX} {X : Cx} {e : Expr} {f : St → Out ((D × Bool) × St)}
/-- an operand that is no name -/
theorem SO.of (h : SE Y W X e f) {m : Ex} (hm : ∀ i, m ≠ .pk i) : SO Y W X e (opd m f) := by
  refine PE.imp h fun σ H Q ⟨G, st, R, p⟩ => ⟨G, st, R, ?_⟩
  have eo : opd m f st = (f st).bind fun ((d, _), st1) => .ok (.val d, st1) := by
    unfold opd
    cases m with
    | pk i => exact absurd rfl (hm i)
    | _ => rfl
  rw [eo] at p
  cases q : f st with
  | ok a =>
    obtain ⟨⟨d, fr⟩, st'⟩ := a
    rw [q] at p
    intro G' H' v R' E r
    obtain ⟨G2, R2, E2, r2⟩ := RR.shut R' E r
    exact p G2 H' v R2 E2 r2
  | exc c s => rw [q] at p; exact p
  | stuck => rw [q] at p; exact p
end
end Mi

set_option Elab.async false
set_option linter.all false
set_option maxRecDepth 100000
namespace Mi
open PySem PySem.Spec PyProof.Rows L2
/-- a value as it reads now -/
def VV (Y : Wd) (G : Gh) (H : Hp) : D → V → Prop
  | .lst l, v => ∃ a xs, v = .ref a ∧ H a = some (.lst xs) ∧ RVs Y G.F G.al l xs
  | .tup l, v => ∃ a xs, v = .ref a ∧ TupAt Y.K G.F a xs ∧ RVs Y G.F G.al l xs
  | .dct ks vs, v => ∃ a xs ys, v = .ref a ∧ DcAt Y (Rd H) a xs ys ∧ RVs Y G.F G.al ks xs ∧ RVs Y G.F G.al vs ys
  | .obj c ns vs, v => ∃ a dx fs, v = .ref a ∧ H a = some (.ins (Y.cA c) dx fs) ∧ fs.map (·.1) = ns.map Y.fld ∧ RVs Y G.F G.al vs (fs.map (·.2))
  | .ref _, _ => False
  | .err c o, v => ∃ a, v = .ref a ∧ ErrAt Y G.F a c o
  | .scr l, v => ∃ a, v = .ref a ∧ ScrAt Y.K G.F a (l.map V.int)
  | .non, v => v = .non
  | .bl b, v => v = .bl b
  | .int i, v => v = .int i
  | .str s, v => v = .str (stOf s) ∧ (s.all fun c => Nat.blt c 1114112) = true
section
variable {Y : Wd} {G : Gh} {st : St} {σ : L2.St} {H : Hp}
theorem TupAt.sq (R : Rel Y G st σ H) {a : Addr} {xs : List V} (h : TupAt Y.K G.F a xs) : SqT Y.K H a xs := by
  rcases h with h | ⟨od, _, h⟩ | h
  · exact .inl (R.fz _ _ h)
  · exact .inl (.inr ⟨od, R.fzi _ _ h rfl⟩)
  · exact .inr h
theorem LstAt.sq (R : Rel Y G st σ H) {a : Addr} {xs : List V} (h : LstAt Y.K G.F a xs) : Rd H a (.lst xs) := R.fz _ _ h
theorem ScrAt.sq (R : Rel Y G st σ H) {a : Addr} {xs : List V} (h : ScrAt Y.K G.F a xs) : SqL Y.K H a xs := by
  rcases h with ⟨od, h⟩ | h
  · exact .inl (.inr ⟨od, R.fzi _ _ h rfl⟩)
  · exact .inr h
theorem RVs.ints {F : Hp} {al : Nat → Option Addr} : ∀ {l : List Int}, RVs Y F al (l.map .int) (l.map V.int)
  | [] => RVs.nil
  | i :: l => RVs.cons (by simp only [RV]) RVs.ints
theorem VV.of (R : Rel Y G st σ H) {d : D} {v : V} (h : RV Y G.F G.al d v) (hr : ∀ n, d ≠ .ref n) : VV Y G H d v := by
  cases d with
  | lst l => simp only [RV] at h; obtain ⟨a, xs, e, q, r⟩ := h; exact ⟨a, xs, e, R.fzi _ _ q rfl, r⟩
  | tup l => simp only [RV] at h; exact h
  | dct ks vs => simp only [RV] at h; obtain ⟨a, xs, ys, e, q, r⟩ := h; exact ⟨a, xs, ys, e, q.mono R.fz, r⟩
  | obj c ns vs => simp only [RV] at h; obtain ⟨a, dx, fs, e, q, r⟩ := h; exact ⟨a, dx, fs, e, R.fzi _ _ q rfl, r⟩
  | ref n => exact absurd rfl (hr n)
  | err c o => simpa only [RV, VV] using h
  | scr l => simpa only [RV, VV] using h
  | non => simpa only [RV, VV] using h
  | bl b => simpa only [RV, VV] using h
  | int b => simpa only [RV, VV] using h
  | str b => simpa only [RV, VV] using h
theorem VV.ofCW {a : Addr} {d : D} (c : CW Y G H a d) : VV Y G H d (.ref a) := by
  cases d with
  | lst l => obtain ⟨xs, e, r⟩ := c; exact ⟨a, xs, rfl, e, r⟩
  | dct ks vs => obtain ⟨kvs, e, r1, r2⟩ := c; exact ⟨a, _, _, rfl, .dK kvs (.inl e), r1, r2⟩
  | obj k ns vs => obtain ⟨dx, fs, e, n, r⟩ := c; exact ⟨a, dx, fs, rfl, e, n, r⟩
  | _ => exact c.elim
/-- an operand as it reads now -/
theorem VV.ov (R : Rel Y G st σ H) {x : Ov} {v : V} (h : OV Y G st σ x v) {d : D} (hd : rdo st x = some d) : VV Y G H d v := by
  have tp : ∀ {d0 : D} {v : V}, top st.s d0 = some d → RV Y G.F G.al d0 v → VV Y G H d v := fun {d0 v} e r => by
    cases d0 with
    | ref n =>
      simp only [top] at e
      split at e
      · rename_i x q
        cases e
        obtain ⟨a, e2, f, c⟩ := R.cells n d q
        simp only [RV] at r
        obtain ⟨b, e3, e4⟩ := r
        rw [e2] at e4
        cases e4
        rw [e3]
        exact VV.ofCW c
      · cases e
    | _ => simp only [top] at e; cases e; exact VV.of R r fun n z => by cases z
  cases x with
  | val d0 => exact tp hd h
  | slot i =>
    simp only [rdo] at hd
    split at hd
    · rename_i b d0 q
      obtain ⟨v', e, h1, h2⟩ := R.slots i b d0 q
      have hv : v' = v := by
        have h : σ[i]? = some (some v) := h
        rw [h] at e
        cases e
        rfl
      subst hv
      cases b with
      | false => exact tp hd (h1 rfl)
      | true =>
        obtain ⟨a, e2, f, c⟩ := h2 rfl
        have : d0 = d := by
          cases d0 with
          | ref n => exact c.elim
          | _ => simp only [top] at hd; cases hd; rfl
        subst this
        rw [e2]
        exact VV.ofCW c
    · cases hd
end
/-! ### results -/
section
variable {Y : Wd} {W : WX} {G : Gh} {st : St} {σ : L2.St} {H : Hp}
/-- a flat thing is handed on -/
theorem PostE.flat {d : D} {fr : Bool} {Q : VK} (R : Rel Y G st σ H) (h : PostE Y W G st σ H (.ok ((d, fr), st)) Q) {v : V} (hm : (fr && isMutD d) = false) (r : RV Y G.F G.al d v) : Q v H := by
  refine h G H v R .refl ?_
  unfold RR
  rw [hm]
  exact r
/-- a new thing is laid -/
theorem Rel.new (R : Rel Y G st σ H) {p : Addr} {o : HO} (hp : H p = none) : Rel Y G st σ (upd H p o) where
  fzi := fun a u e i => by
    have q := R.fzi a u e i
    rw [upd_ne (ne_of_none q hp)]; exact q
  fz := fun a u e => by
    rcases R.fz a u e with z | ⟨b, z⟩
    · exact .inl (by rw [upd_ne (ne_of_none z hp)]; exact z)
    · exact .inr ⟨b, by rw [upd_ne (ne_of_none z hp)]; exact z⟩
  dom := R.dom
  cells := fun n d h => by
    obtain ⟨b, e, f, c⟩ := R.cells n d h
    exact ⟨b, e, f, c.mono (fun _ _ h => h) (fun _ _ h => h) fun u q => by rw [upd_ne (ne_of_none q hp)]; exact q⟩
  slots := fun i b d h => by
    obtain ⟨v, e, h1, h2⟩ := R.slots i b d h
    refine ⟨v, e, h1, fun z => ?_⟩
    obtain ⟨x, e2, f, c⟩ := h2 z
    exact ⟨x, e2, f, c.mono (fun _ _ h => h) (fun _ _ h => h) fun u q => by rw [upd_ne (ne_of_none q hp)]; exact q⟩
  inj := R.inj
  len := R.len
theorem Ext.new {p : Addr} {o : HO} (hp : H p = none) : Ext G st σ H G st (upd H p o) where
  lk := fun a od u e => by rw [upd_ne (ne_of_none e hp)]; exact e
  F := fun _ _ h => h
  al := fun _ _ h => h
  keep := fun a u e _ _ => by rw [upd_ne (ne_of_none e hp)]; exact e
  there := fun a e => by
    by_cases z : a = p
    · subst z; rw [upd_same]; exact fun z => nomatch z
    · rw [upd_ne z]; exact e
  own := fun _ h => .inl h
  frz := fun _ h => .inl h
theorem Rel.notOwned (R : Rel Y G st σ H) {p : Addr} (hp : H p = none) : ¬ Owned G st σ p := fun h => (R.owned h).2 hp
/-- a new list -/
theorem PostE.newL {l : List D} {Q : VK} (R : Rel Y G st σ H) (h : PostE Y W G st σ H (.ok ((.lst l, true), st)) Q) {xs : List V} (r : RVs Y G.F G.al l xs) : ∀ p, H p = none → Q (.ref p) (upd H p (.lst xs)) := fun p hp => by
  refine h G _ _ (R.new hp) (Ext.new hp) ?_
  unfold RR
  rw [if_pos (by rfl)]
  exact ⟨p, rfl, R.fresh hp, R.notOwned hp, ⟨xs, upd_same, r⟩, .inl hp⟩
/-- a new tuple, its object known -/
theorem PostE.newTG {l : List D} {fr : Bool} {Q : VK} (R : Rel Y G st σ H) (h : PostE Y W G st σ H (.ok ((.tup l, fr), st)) Q) {xs : List V} (r : RVs Y G.F G.al l xs) : ∀ p od, H p = none → od.dict = none → Q (.ref p) (upd H p (.frz od (.tup xs))) := fun p od hp hd => by
  have n : G.F p = none := R.fresh hp
  have R2 : Rel Y (G.put p (.frz od (.tup xs))) st σ (upd H p (.frz od (.tup xs))) := (R.new hp).put upd_same n (R.notOwned hp)
  refine h _ _ _ R2 (Ext.put n (Ext.new hp) (.inl hp)) ?_
  unfold RR
  rw [if_neg (by simp [isMutD])]
  simp only [RV]
  exact ⟨p, xs, rfl, .inr (.inl ⟨od, hd, by simp [Gh.put]⟩), r.mono (Gh.put_sub n) fun _ _ h => h⟩
/-- a new tuple -/
theorem PostE.newT {l : List D} {fr : Bool} {Q : VK} (R : Rel Y G st σ H) (h : PostE Y W G st σ H (.ok ((.tup l, fr), st)) Q) {xs : List V} (r : RVs Y G.F G.al l xs) : ∀ p, H p = none → Q (.ref p) (upd H p (.tup xs)) := fun p hp => by
  have n : G.F p = none := R.fresh hp
  have R2 : Rel Y (G.put p (.tup xs)) st σ (upd H p (.tup xs)) := (R.new hp).put upd_same n (R.notOwned hp)
  refine h _ _ _ R2 (Ext.put n (Ext.new hp) (.inl hp)) ?_
  unfold RR
  rw [if_neg (by simp [isMutD])]
  simp only [RV]
  exact ⟨p, xs, rfl, .inl (by simp [Gh.put]), r.mono (Gh.put_sub n) fun _ _ h => h⟩
end
end Mi

set_option Elab.async false
set_option linter.all false
set_option maxRecDepth 100000
namespace Mi
open PySem PySem.Spec PyProof.Rows L2
/-! ### slots -/
theorem setNth_len {α : Type} : ∀ (i : Nat) (x : α) (l : List α), (setNth i x l).length = l.length
  | _, _, [] => by unfold setNth; rfl
  | 0, _, _ :: _ => by unfold setNth; rfl
  | n + 1, x, y :: r => by unfold setNth; simp [setNth_len n x r]
theorem setNth_get {α : Type} : ∀ (i j : Nat) (x : α) (l : List α), (setNth i x l)[j]? = if j = i then (if i < l.length then some x else none) else l[j]?
  | i, j, x, [] => by unfold setNth; simp
  | 0, 0, x, y :: r => by simp [setNth]
  | 0, j + 1, x, y :: r => by simp [setNth]
  | n + 1, 0, x, y :: r => by simp [setNth]
  | n + 1, j + 1, x, y :: r => by simp [setNth, setNth_get n j x r]
theorem slotAt_set {i j : Nat} {x : Slot} {r : List Slot} : slotAt j (setNth i x r) = if j = i then (if i < r.length then x else none) else slotAt j r := by
  unfold slotAt
  rw [setNth_get]
  by_cases h : j = i
  · subst h
    by_cases h2 : j < r.length
    · simp [h2]
    · simp [h2]
  · simp [h]
theorem slotAt_lt {i : Nat} {r : List Slot} {x : Bool × D} (h : slotAt i r = some x) : i < r.length := by
  unfold slotAt at h
  by_cases q : i < r.length
  · exact q
  · rw [List.getElem?_eq_none (by omega)] at h; cases h
section
variable {Y : Wd} {W : WX} {G G1 : Gh} {st st1 : St} {σ : L2.St} {H H1 : Hp}
/-- fewer owners -/
theorem Rel.sub (R : Rel Y G st σ H) {r : List Slot} (hl : r.length = st.r.length) (h : ∀ i b d, slotAt i r = some (b, d) → slotAt i st.r = some (b, d)) : Rel Y G ⟨r, st.s⟩ σ H where
  fzi := R.fzi
  fz := R.fz
  dom := R.dom
  cells := R.cells
  slots := fun i b d q => R.slots i b d (h i b d q)
  inj := fun t t' a o o' => by
    refine R.inj t t' a ?_ ?_
    · cases t with
      | slot i => obtain ⟨d, q, z⟩ := o; exact ⟨d, h _ _ _ q, z⟩
      | cell n => exact o
    · cases t' with
      | slot i => obtain ⟨d, q, z⟩ := o'; exact ⟨d, h _ _ _ q, z⟩
      | cell n => exact o'
  len := by rw [hl]; exact R.len
theorem owned_sub {r : List Slot} (h : ∀ i b d, slotAt i r = some (b, d) → slotAt i st.r = some (b, d)) {a : Addr} (o : Owned G ⟨r, st.s⟩ σ a) : Owned G st σ a := by
  obtain ⟨t, o⟩ := o
  refine ⟨t, ?_⟩
  cases t with
  | slot i => obtain ⟨d, q, z⟩ := o; exact ⟨d, h _ _ _ q, z⟩
  | cell n => exact o
theorem Ext.sub {r : List Slot} (h : ∀ i b d, slotAt i r = some (b, d) → slotAt i st.r = some (b, d)) : Ext G st σ H G ⟨r, st.s⟩ H where
  lk := fun _ _ _ h => h
  F := fun _ _ h => h
  al := fun _ _ h => h
  keep := fun _ _ h _ _ => h
  there := fun _ h => h
  own := fun _ o => .inl (owned_sub h o)
  frz := fun _ h => .inl h
/-- a frozen thing in a slot -/
theorem Rel.slotF (R : Rel Y G st σ H) {i : Nat} {d : D} {v : V} (hv : σ[i]? = some (some v)) (r : RV Y G.F G.al d v) : Rel Y G (setSlot i (some (false, d)) st) σ H where
  fzi := R.fzi
  fz := R.fz
  dom := R.dom
  cells := R.cells
  slots := fun j b e q => by
    simp only [setSlot, slotAt_set] at q
    split at q
    · rename_i z
      subst z
      split at q
      · cases q
        exact ⟨v, hv, fun _ => r, fun z => by cases z⟩
      · cases q
    · exact R.slots j b e q
  inj := fun t t' a o o' => by
    have key : ∀ {t : OT}, owns G (setSlot i (some (false, d)) st) σ t a → owns G st σ t a := fun {t} o => by
      cases t with
      | slot j =>
        obtain ⟨e, q, z⟩ := o
        simp only [setSlot, slotAt_set] at q
        split at q
        · split at q <;> cases q
        · exact ⟨e, q, z⟩
      | cell n => exact o
    exact R.inj t t' a (key o) (key o')
  len := by simp only [setSlot, setNth_len]; exact R.len
theorem owned_slotF {i : Nat} {d : D} {a : Addr} (o : Owned G (setSlot i (some (false, d)) st) σ a) : Owned G st σ a := by
  obtain ⟨t, o⟩ := o
  refine ⟨t, ?_⟩
  cases t with
  | slot j =>
    obtain ⟨e, q, z⟩ := o
    simp only [setSlot, slotAt_set] at q
    split at q
    · split at q <;> cases q
    · exact ⟨e, q, z⟩
  | cell n => exact o
theorem Ext.slotF {i : Nat} {d : D} : Ext G st σ H G (setSlot i (some (false, d)) st) H where
  lk := fun _ _ _ h => h
  F := fun _ _ h => h
  al := fun _ _ h => h
  keep := fun _ _ h _ _ => h
  there := fun _ h => h
  own := fun _ o => .inl (owned_slotF o)
  frz := fun _ h => .inl h
theorem not_owned_slotF (R : Rel Y G st σ H) {i : Nat} {d e : D} {a : Addr} (hs : slotAt i st.r = some (true, e)) (hv : σ[i]? = some (some (.ref a))) {x : Slot} (hx : ∀ z, x ≠ some (true, z)) : ¬ Owned G (setSlot i x st) σ a := by
  rintro ⟨t, o⟩
  have o1 : owns G st σ (.slot i) a := ⟨e, hs, hv⟩
  cases t with
  | slot j =>
    obtain ⟨d2, q, z⟩ := o
    simp only [setSlot, slotAt_set] at q
    split at q
    · split at q
      · exact hx _ q
      · cases q
    · rename_i hj
      have := R.inj _ _ _ o1 (show owns G st σ (.slot j) a from ⟨d2, q, z⟩)
      cases this
      exact hj rfl
  | cell n =>
    have := R.inj _ _ _ o1 (show owns G st σ (.cell n) a from o)
    cases this
/-- what stands at a place that changes, frozen: its object -/
theorem CW.ho {a : Addr} {d : D} (c : CW Y G H a d) : ∃ o, H a = some o ∧ (G.F a = none → ∀ {d' : D}, d' = d → RV Y (G.put a o).F (G.put a o).al d' (.ref a)) := by
  cases d with
  | lst l =>
    obtain ⟨xs, h, rs⟩ := c
    refine ⟨_, h, fun f d' e => ?_⟩
    subst e
    simp only [RV]
    exact ⟨a, xs, rfl, by simp [LstAt, Gh.put], rs.mono (Gh.put_sub f) fun _ _ h => h⟩
  | dct ks vs =>
    obtain ⟨kvs, h, r1, r2⟩ := c
    refine ⟨_, h, fun f d' e => ?_⟩
    subst e
    simp only [RV]
    exact ⟨a, _, _, rfl, .dK kvs (by simp [isAt, Gh.put]), r1.mono (Gh.put_sub f) (fun _ _ h => h), r2.mono (Gh.put_sub f) fun _ _ h => h⟩
  | obj k ns vs =>
    obtain ⟨dx, fs, h, hn, rs⟩ := c
    refine ⟨_, h, fun f d' e => ?_⟩
    subst e
    simp only [RV]
    exact ⟨a, dx, fs, rfl, by simp [Gh.put], hn, rs.mono (Gh.put_sub f) fun _ _ h => h⟩
  | _ => exact c.elim
end
section
variable {Y : Wd} {W : WX} {X : Cx} {i : Nat} {x : Str} {pos : Pos} {I : Info}
/-- a name as an operand -/
theorem so_pk {f : St → Out ((D × Bool) × St)} (hN : X.N[i]? = some x) (hv : Vis X.env.scope x) (hd : (x == ("__debug__" : Str)) = false) (hcd : (x == ("__classdict__" : Str)) = false) : SO Y W X (.Name x pos) (opd (.pk i) f) := by
  refine PE.imp (pe_var (i := i) hN hv hd hcd) fun σ H Q ⟨G, st, R, p⟩ => ?_
  simp only [opd] at p
  cases q : slotAt i st.r with
  | none => rw [q] at p; exact p.elim
  | some bd =>
    obtain ⟨b, d⟩ := bd
    rw [q] at p
    obtain ⟨v, e, _⟩ := R.slots i b d q
    exact ⟨v, e, p G H v R .refl e⟩
/-- a name -/
theorem se_var (hN : X.N[i]? = some x) (hv : Vis X.env.scope x) (hd : (x == ("__debug__" : Str)) = false) (hcd : (x == ("__classdict__" : Str)) = false) : SE Y W X (.Name x pos) (ev I (.var i)) := by
  refine PE.imp (pe_var (i := i) hN hv hd hcd) fun σ H Q ⟨G, st, R, p⟩ => ?_
  simp only [ev] at p
  cases q : slotAt i st.r with
  | none => rw [q] at p; exact p.elim
  | some bd =>
    obtain ⟨b, d⟩ := bd
    rw [q] at p
    obtain ⟨v, e, h1, h2⟩ := R.slots i b d q
    refine ⟨v, e, ?_⟩
    cases b with
    | false =>
      refine p G H v R .refl ?_
      unfold RR
      rw [if_neg (by simp)]
      exact h1 rfl
    | true =>
      obtain ⟨a, e2, f, c⟩ := h2 rfl
      subst e2
      obtain ⟨o, ho, hr⟩ := c.ho
      have r := hr f rfl
      have R1 : Rel Y G (setSlot i none st) σ H := R.sub (st := st) (setNth_len _ _ _) fun j b e z => by
        simp only [slotAt_set] at z
        split at z
        · split at z <;> cases z
        · exact z
      have nO : ¬ Owned G (setSlot i none st) σ a := not_owned_slotF (d := d) R q e (fun z => nofun)
      have R2 := (R1.put ho f nO).slotF e r
      have es : setSlot i (some (false, d)) (setSlot i none st) = setSlot i (some (false, d)) st := by
        simp only [setSlot, St.mk.injEq, and_true]
        apply List.ext_getElem?
        intro j
        simp only [setNth_get, setNth_len]
        split <;> simp
      rw [es] at R2
      refine p _ H _ R2 ?_ ?_
      · refine ⟨fun _ _ _ h => h, Gh.put_sub f, fun _ _ h => h, fun _ _ h _ _ => h, fun _ h => h, fun b h => .inl (owned_slotF (owned_put.mp h)), fun b h => ?_⟩
        by_cases z : b = a
        · subst z; exact .inr (.inr ⟨.slot i, d, q, e⟩)
        · exact .inl (by simpa [Gh.put, z] using h)
      · unfold RR
        rw [if_neg (by simp)]
        exact r
/-- a name for the last time -/
theorem se_mv (hN : X.N[i]? = some x) (hv : Vis X.env.scope x) (hd : (x == ("__debug__" : Str)) = false) (hcd : (x == ("__classdict__" : Str)) = false) : SE Y W X (.Name x pos) (ev I (.mv i)) := by
  refine PE.imp (pe_var (i := i) hN hv hd hcd) fun σ H Q ⟨G, st, R, p⟩ => ?_
  simp only [ev] at p
  cases q : slotAt i st.r with
  | none => rw [q] at p; exact p.elim
  | some bd =>
    obtain ⟨b, d⟩ := bd
    rw [q] at p
    obtain ⟨v, e, h1, h2⟩ := R.slots i b d q
    refine ⟨v, e, ?_⟩
    cases b with
    | false =>
      refine p G H v R .refl ?_
      unfold RR
      rw [if_neg (by simp)]
      exact h1 rfl
    | true =>
      obtain ⟨a, e2, f, c⟩ := h2 rfl
      subst e2
      have hsub : ∀ j b e, slotAt j (setNth i none st.r) = some (b, e) → slotAt j st.r = some (b, e) := fun j b e z => by
        simp only [slotAt_set] at z
        split at z
        · split at z <;> cases z
        · exact z
      have R1 : Rel Y G (setSlot i none st) σ H := R.sub (st := st) (setNth_len _ _ _) hsub
      refine p G H _ R1 (Ext.sub hsub) ?_
      unfold RR
      split
      · exact ⟨a, rfl, f, not_owned_slotF (d := d) R q e (fun z => nofun), c, .inr ⟨.slot i, d, q, e⟩⟩
      · rename_i hm
        cases d with
        | lst l => simp [isMutD] at hm
        | dct l m => simp [isMutD] at hm
        | obj k ns vs => simp [isMutD] at hm
        | _ => exact c.elim
/-! ### constants -/
theorem se_c {e : Expr} {v : V} {d : D} {m : Ex} (h : PE X e (tC v)) (hm : ∀ st, ev I m st = .ok ((d, false), st)) (r : ∀ F al, RV Y F al d v) : SE Y W X e (ev I m) := by
  refine PE.imp h fun σ H Q ⟨G, st, R, p⟩ => ?_
  rw [hm] at p
  exact p.flat R (by simp) (r _ _)
theorem se_non {j} : SE Y W X (.Constant .none j pos) (ev I .non) := se_c (d := .non) pe_non (fun st => by simp only [ev]) fun F al => by simp only [RV]
theorem se_tt {b j} : SE Y W X (.Constant (.bool b) j pos) (ev I (.tt b)) := se_c (d := .bl b) pe_bl (fun st => by simp only [ev]) fun F al => by simp only [RV]
theorem se_n {i : Int} {j} : SE Y W X (.Constant (.int i) j pos) (ev I (.n i)) := se_c (d := .int i) pe_int (fun st => by simp only [ev]) fun F al => by simp only [RV]
theorem se_s {l : List Nat} {j} {s : Str} (h : s = stOf l) (h2 : (l.all fun c => Nat.blt c 1114112) = true) : SE Y W X (.Constant (.str s) j pos) (ev I (.s l)) := se_c (d := .str l) pe_str (fun st => by simp only [ev]) fun F al => by simp only [RV, h]; exact ⟨trivial, h2⟩
end
end Mi

set_option Elab.async false
set_option linter.all false
set_option maxRecDepth 100000
namespace Mi
open PySem PySem.Spec PyProof.Rows L2
section
variable {Y : Wd} {W : WX} {G G1 : Gh} {st st1 : St} {σ : L2.St} {H H1 : Hp}
theorem PostO.mono {o : Out (Ov × St)} {Q Q' : VK} (h : PostO Y W G st σ H o Q) (i : ∀ v H, Q v H → Q' v H) : PostO Y W G st σ H o Q' := by
  cases o with
  | ok a => obtain ⟨d, st'⟩ := a; exact fun G' H' v R E r => i _ _ (h G' H' v R E r)
  | exc c s => exact h
  | stuck => exact h
theorem PostE.mono {o : Out ((D × Bool) × St)} {Q Q' : VK} (h : PostE Y W G st σ H o Q) (i : ∀ v H, Q v H → Q' v H) : PostE Y W G st σ H o Q' := by
  cases o with
  | ok a => obtain ⟨⟨d, fr⟩, st'⟩ := a; exact fun G' H' v R E r => i _ _ (h G' H' v R E r)
  | exc c s => exact h
  | stuck => exact h
theorem PostT.mono {o : Out (Bool × St)} {Q Q' : Bool → Hp → Prop} (h : PostT Y W G st σ H o Q) (i : ∀ v H, Q v H → Q' v H) : PostT Y W G st σ H o Q' := by
  cases o with
  | ok a => obtain ⟨d, st'⟩ := a; exact fun G' H' R E => i _ _ (h G' H' R E)
  | exc c s => exact h
  | stuck => exact h
theorem PostL.mono {o : Out (List D × St)} {Q Q' : List V → Hp → Prop} (h : PostL Y W G st σ H o Q) (i : ∀ v H, Q v H → Q' v H) : PostL Y W G st σ H o Q' := by
  cases o with
  | ok a => obtain ⟨d, st'⟩ := a; exact fun G' H' v R E r => i _ _ (h G' H' v R E r)
  | exc c s => exact h
  | stuck => exact h
theorem OV.mono {H' : Hp} {st' : St} (x : Ext G st σ H G1 st1 H1) {o : Ov} {v : V} (h : OV Y G st σ o v) : OV Y G1 st' σ o v := by
  cases o with
  | slot i => exact h
  | val d => exact RV.mono x.F x.al d v h
end
def rTwo (Y : Wd) (W : WX) (k : D → D → St → Out ((D × Bool) × St)) : R2 := fun x y H Q =>
  ∃ G st σ dx dy, Rel Y G st σ H ∧ VV Y G H dx x ∧ VV Y G H dy y ∧ PostE Y W G st σ H (k dx dy st) Q
def rOne (Y : Wd) (W : WX) (k : D → St → Out ((D × Bool) × St)) : V → Hp → VK → Prop := fun x H Q =>
  ∃ G st σ dx, Rel Y G st σ H ∧ VV Y G H dx x ∧ PostE Y W G st σ H (k dx st) Q
theorem two_read {Y : Wd} {W : WX} {fa fb : St → Out (Ov × St)} {k : D → D → St → Out ((D × Bool) × St)} : ∀ σ H Q, rE Y W (two k fa fb) σ H Q → tOp (rTwo Y W k) (rO Y W fa) (rO Y W fb) σ H Q := by
  intro σ H Q ⟨G, st, R, p⟩
  refine ⟨G, st, R, (PostO.bind p).mono fun v H1 ⟨x, st1, G1, _, R1, E1, o1, p1⟩ => ⟨G1, st1, R1, (PostO.bind p1).mono fun u H2 ⟨y, st2, G2, _, R2, E2, o2, p2⟩ => ?_⟩⟩
  have o1' : OV Y G2 st2 σ x v := OV.mono (H' := H2) E2 o1
  dsimp only at p2
  cases q1 : rdo st2 x with
  | none => rw [q1] at p2; exact p2.elim
  | some dx =>
    cases q2 : rdo st2 y with
    | none => rw [q1, q2] at p2; exact p2.elim
    | some dy =>
      rw [q1, q2] at p2
      exact ⟨G2, st2, σ, dx, dy, R2, VV.ov R2 o1' q1, VV.ov R2 o2 q2, p2⟩
theorem one_read {Y : Wd} {W : WX} {fa : St → Out (Ov × St)} {k : D → St → Out ((D × Bool) × St)} : ∀ σ H Q, rE Y W (one k fa) σ H Q → tUn (rOne Y W k) (rO Y W fa) σ H Q := by
  intro σ H Q ⟨G, st, R, p⟩
  refine ⟨G, st, R, (PostO.bind p).mono fun v H1 ⟨x, st1, G1, _, R1, E1, o1, p1⟩ => ?_⟩
  dsimp only at p1
  cases q1 : rdo st1 x with
  | none => rw [q1] at p1; exact p1.elim
  | some dx =>
    rw [q1] at p1
    exact ⟨G1, st1, σ, dx, R1, VV.ov R1 o1 q1, p1⟩
/-! ### arithmetic -/
def pyB : BOp → Operator
  | .add => .Add | .sub => .Sub | .mul => .Mult | .fdiv => .FloorDiv | .mod => .Mod | .pow => .Pow
section
variable {Y : Wd} {W : WX} {X : Cx} {G : Gh} {st : St} {σ : L2.St} {H : Hp}
theorem stOf_app (a b : List Nat) : stOf a ++ stOf b = stOf (a ++ b) := by
  show (⟨a.toArray ++ b.toArray⟩ : Str) = ⟨(a ++ b).toArray⟩
  simp
theorem stOf_len (a : List Nat) : (stOf a).length = a.length := by
  show (a.toArray).size = a.length
  simp
theorem ans_ok {o : Option (D × Bool)} {Q : VK} (p : PostE Y W G st σ H (ans o st) Q) : ∃ d fr, o = some (d, fr) ∧ PostE Y W G st σ H (.ok ((d, fr), st)) Q := by
  unfold ans at p
  cases q : o with
  | none => rw [q] at p; exact p.elim
  | some z => obtain ⟨d, fr⟩ := z; rw [q] at p; exact ⟨d, fr, rfl, p⟩
theorem kBin_ok {o : BOp} {dx dy : D} {Q : VK} (p : PostE Y W G st σ H (kBin o dx dy st) Q) : ∃ d fr, binD o dx dy = some (d, fr) ∧ PostE Y W G st σ H (.ok ((d, fr), st)) Q := by
  unfold kBin at p
  exact ans_ok p
theorem sizeLine_val : sizeLine = 16777216 := by decide
/-- int op int -/
theorem op_addM : OpR X (binaryOp .Add) (rI0 fun i j => .int (i + j)) := op_add
/-- the list rule over what may be read -/
def rCatL : R2 := fun x y H Q => ∃ l b xs zs, x = .ref l ∧ y = .ref b ∧ Rd H l (.lst xs) ∧ Rd H b (.lst zs) ∧ xs.length + zs.length ≤ sizeLine ∧ ∀ p, H p = none → Q (.ref p) (upd H p (.lst (xs ++ zs)))
theorem op_catL : OpR X (binaryOp .Add) rCatL := by
  intro pins s σ H x y v u Q I rx ry h
  obtain ⟨l, b, xs, zs, rfl, rfl, hH, hB, hz, q⟩ := h
  cases rx
  cases ry
  obtain ⟨z, its, n, r, e⟩ := hH.ok I.hok
  obtain ⟨z2, its2, n2, r2, e2⟩ := hB.ok I.hok
  have hl := r.length
  have hl2 := r2.length
  refine PySem.P.add_list e e2 ?_ (by rw [List.size_toArray, List.size_toArray]; omega)
  have ea : its.toArray ++ its2.toArray = (its ++ its2).toArray := by simp
  rw [ea]
  exact ⟨.ref _, _, I.lnew (t' := s.toks) (r.append r2) (by rw [List.length_append]; omega), rfl, q _ I.fresh⟩
theorem bin_add (hK : X.K = Y.K) : OpR X (binaryOp .Add) (rTwo Y W (kBin .add)) := by
  intro pins s σ' H x y v u Q I rx ry h
  obtain ⟨G, st, σ, dx, dy, R, vx, vy, p⟩ := h
  obtain ⟨d, fr, e, p⟩ := kBin_ok p
  cases dx with
  | int a =>
    cases dy with
    | int b =>
      simp only [binD, Option.some.injEq, Prod.mk.injEq] at e
      obtain ⟨e1, e2⟩ := e
      subst e1 e2
      simp only [VV] at vx vy
      exact op_add pins s σ' H x y v u Q I rx ry ⟨a, b, vx, vy, p.flat R (by simp) (by simp only [RV])⟩
    | _ => simp [binD] at e
  | str a =>
    cases dy with
    | str b =>
      simp only [binD] at e
      split at e
      · rename_i hz
        simp only [Option.some.injEq, Prod.mk.injEq] at e
        obtain ⟨e1, e2⟩ := e
        subst e1 e2
        simp only [VV] at vx vy
        refine op_add_str pins s σ' H x y v u Q I rx ry ⟨stOf a, stOf b, vx.1, vy.1, ?_, p.flat R (by simp) (by simp only [RV, stOf_app, List.all_append, vx.2, vy.2]; exact ⟨trivial, rfl⟩)⟩
        rw [stOf_len, stOf_len, sizeLine_val]
        exact Nat.le_of_ble_eq_true hz
      · cases e
    | _ => simp [binD] at e
  | lst a =>
    cases dy with
    | lst b =>
      simp only [binD] at e
      split at e
      · rename_i hz
        simp only [Option.some.injEq, Prod.mk.injEq] at e
        obtain ⟨e1, e2⟩ := e
        subst e1 e2
        simp only [VV] at vx vy
        obtain ⟨l, xs, e1, s1, r1⟩ := vx
        obtain ⟨b', zs, e2, s2, r2⟩ := vy
        refine op_catL pins s σ' H x y v u Q I rx ry ⟨l, b', xs, zs, e1, e2, .inl s1, .inl s2, ?_, p.newL R (r1.app r2)⟩
        rw [← r1.length, ← r2.length, sizeLine_val]
        exact Nat.le_of_ble_eq_true hz
      · cases e
    | _ => simp [binD] at e
  | tup a =>
    cases dy with
    | tup b =>
      simp only [binD] at e
      split at e
      · rename_i hz
        simp only [Option.some.injEq, Prod.mk.injEq] at e
        obtain ⟨e1, e2⟩ := e
        subst e1 e2
        simp only [VV] at vx vy
        obtain ⟨l, xs, e1, s1, r1⟩ := vx
        obtain ⟨b', zs, e2, s2, r2⟩ := vy
        have hz' : xs.length + zs.length ≤ sizeLine := by
          rw [← r1.length, ← r2.length, sizeLine_val]
          exact Nat.le_of_ble_eq_true hz
        refine op_catA pins s σ' H x y v u Q I rx ry ⟨l, b', xs, zs, e1, e2, by rw [hK]; exact s1.sq R, by rw [hK]; exact s2.sq R, hz', fun z => ?_, fun _ z => ?_, fun _ _ => p.newT R (r1.app r2)⟩
        · subst z
          have : a = [] := List.eq_nil_of_length_eq_zero (by rw [r1.length]; rfl)
          subst this
          refine p.flat R (by simp) ?_
          simp only [RV, List.nil_append]
          exact ⟨b', zs, rfl, s2, r2⟩
        · subst z
          have : b = [] := List.eq_nil_of_length_eq_zero (by rw [r2.length]; rfl)
          subst this
          refine p.flat R (by simp) ?_
          simp only [RV, List.append_nil]
          exact ⟨l, xs, rfl, s1, r1⟩
      · cases e
    | _ => simp [binD] at e
  | _ => simp [binD] at e


theorem bin_int {o : BOp} {C : Int → Int → Prop} {g : Int → Int → Int} (h : OpR X (binaryOp (pyB o)) (rI C fun i j => .int (g i j)))
    (hb : ∀ dx dy d fr, binD o dx dy = some (d, fr) → ∃ a b, dx = .int a ∧ dy = .int b ∧ C a b ∧ d = .int (g a b) ∧ fr = false) : OpR X (binaryOp (pyB o)) (rTwo Y W (kBin o)) := by
  intro pins s σ' H x y v u Q I rx ry hh
  obtain ⟨G, st, σ, dx, dy, R, vx, vy, p⟩ := hh
  obtain ⟨d, fr, e, p⟩ := kBin_ok p
  obtain ⟨a, b, rfl, rfl, c, rfl, rfl⟩ := hb _ _ _ _ e
  simp only [VV] at vx vy
  exact h pins s σ' H x y v u Q I rx ry ⟨a, b, vx, vy, c, p.flat R (by simp) (by simp only [RV])⟩
theorem bin_sub : OpR X (binaryOp .Sub) (rTwo Y W (kBin .sub)) := by
  refine bin_int (o := .sub) (C := fun _ _ => True) (g := fun i j => i - j) (fun pins s σ H x y v u Q I rx ry ⟨i, j, e1, e2, _, q⟩ => op_sub pins s σ H x y v u Q I rx ry ⟨i, j, e1, e2, q⟩) fun dx dy d fr e => ?_
  cases dx <;> cases dy <;> simp only [binD, reduceCtorEq] at e
  simp only [Option.some.injEq, Prod.mk.injEq] at e
  exact ⟨_, _, rfl, rfl, trivial, e.1.symm, e.2.symm⟩
theorem natAbs_lt {i : Int} (h : i.natAbs < 18446744073709551616) : -(2 ^ 64) < i ∧ i < 2 ^ 64 := by
  have e : (2 : Int) ^ 64 = 18446744073709551616 := by decide
  rw [e]
  omega
theorem fdivI {a b : Int} (h : 0 < b) : a.fdiv b = a / b := Int.fdiv_eq_ediv_of_nonneg a (Int.le_of_lt h)
theorem bin_fdiv : OpR X (binaryOp .FloorDiv) (rTwo Y W (kBin .fdiv)) := by
  refine bin_int (o := .fdiv) (C := CDiv) (g := fun i j => i / j) op_fdiv fun dx dy d fr e => ?_
  cases dx <;> cases dy <;> simp only [binD, reduceCtorEq] at e
  split at e
  · rename_i z
    simp only [Option.some.injEq, Prod.mk.injEq] at e
    simp only [Bool.and_eq_true, decide_eq_true_eq] at z
    exact ⟨_, _, rfl, rfl, z, e.1.symm, e.2.symm⟩
  · cases e
theorem bin_mod : OpR X (binaryOp .Mod) (rTwo Y W (kBin .mod)) := by
  refine bin_int (o := .mod) (C := fun _ j => 0 < j) (g := fun i j => i % j) op_mod fun dx dy d fr e => ?_
  cases dx <;> cases dy <;> simp only [binD, reduceCtorEq] at e
  split at e
  · rename_i z
    simp only [Option.some.injEq, Prod.mk.injEq] at e
    exact ⟨_, _, rfl, rfl, z, e.1.symm, e.2.symm⟩
  · cases e
theorem bin_pow : OpR X (binaryOp .Pow) (rTwo Y W (kBin .pow)) := by
  refine bin_int (o := .pow) (C := CPow) (g := fun i j => i ^ j.toNat) op_pow fun dx dy d fr e => ?_
  cases dx <;> cases dy <;> simp only [binD, reduceCtorEq] at e
  split at e
  · rename_i z
    simp only [Option.some.injEq, Prod.mk.injEq] at e
    simp only [Bool.and_eq_true, decide_eq_true_eq] at z
    obtain ⟨⟨z1, z2⟩, z3⟩ := z
    have z3 := Nat.le_of_ble_eq_true z3
    refine ⟨_, _, rfl, rfl, ⟨z1, by omega, ?_⟩, e.1.symm, e.2.symm⟩
    have : (2 : Nat) ^ 64 = 18446744073709551616 := by decide
    omega
  · cases e
end
/-! ### the rules -/
section
variable {Y : Wd} {W : WX} {X : Cx} {a b : Expr} {ma mb : Ex} {pos : Pos} {I : Info}
theorem SO.ev_two {o : BOp} : ev I (.bin o ma mb) = two (kBin o) (opd ma (ev I ma)) (opd mb (ev I mb)) := by
  funext st
  simp only [ev]
theorem se_bin {o : BOp} (hK : X.K = Y.K) (ho : o ≠ .mul) (ha : SO Y W X a (opd ma (ev I ma))) (hb : SO Y W X b (opd mb (ev I mb))) : SE Y W X (.BinOp a (pyB o) b pos) (ev I (.bin o ma mb)) := by
  rw [SE, SO.ev_two]
  have h : OpR X (binaryOp (pyB o)) (rTwo Y W (kBin o)) := by
    cases o with
    | add => exact bin_add hK
    | sub => exact bin_sub
    | fdiv => exact bin_fdiv
    | mod => exact bin_mod
    | pow => exact bin_pow
    | mul => exact absurd rfl ho
  exact PE.imp (pe_op h ha hb) two_read
end
end Mi

set_option Elab.async false
set_option linter.all false
set_option maxRecDepth 100000
namespace Mi
open PySem PySem.Spec PyProof.Rows L2
/-! ### trees as the library's data -/
mutual
def D.py : D → PyData
  | .bl b => .bool b
  | .int i => .int i
  | .str s => .str (stOf s)
  | .tup l => .tuple (D.pys l)
  | .lst l => .list (D.pys l)
  | _ => .none
def D.pys : List D → List PyData
  | [] => []
  | d :: ds => D.py d :: D.pys ds
end
theorem pys_len : ∀ l : List D, (D.pys l).length = l.length
  | [] => rfl
  | _ :: l => by simp only [D.pys, List.length_cons, pys_len l]
theorem eqvAll_len : ∀ (a b : List PyData), PyData.eqvAll a b = true → a.length = b.length
  | [], [], _ => rfl
  | x :: xs, y :: ys, h => by
    simp only [PyData.eqvAll, Bool.and_eq_true] at h
    simp [eqvAll_len xs ys h.2]
  | [], _ :: _, h => by simp [PyData.eqvAll] at h
  | _ :: _, [], h => by simp [PyData.eqvAll] at h
theorem stOf_inj {a b : List Nat} : stOf a = stOf b ↔ a = b := by
  constructor
  · intro h
    have h1 : (stOf a).cps = (stOf b).cps := by rw [h]
    simpa [stOf] using h1
  · rintro rfl; rfl
theorem stOf_beq (a b : List Nat) : (stOf a == stOf b) = (a == b) := by
  by_cases h : a = b
  · subst h; simp
  · have : ¬ stOf a = stOf b := fun e => h (stOf_inj.mp e)
    rw [beq_eq_false_iff_ne.mpr this, beq_eq_false_iff_ne.mpr h]
mutual
theorem eq_py : ∀ (n m : Nat) (a b : D), D.okE n a = true → D.okE m b = true → D.eq a b = some (PyData.eqv (D.py a) (D.py b))
  | n, m, a, b, ha, hb => by
    cases a with
    | non => cases b <;> simp [D.eq, D.py, PyData.eqv, D.okE] at *
    | bl x => cases b <;> simp [D.eq, D.py, PyData.eqv, D.okE] at *
    | int x => cases b <;> simp [D.eq, D.py, PyData.eqv, D.okE] at *
    | str x =>
      cases b with
      | str y => simp [D.eq, D.py, PyData.eqv, stOf_beq]
      | _ => simp [D.eq, D.py, PyData.eqv, D.okE] at *
    | tup x =>
      cases b with
      | tup y =>
        simp only [D.okE, Bool.and_eq_true] at ha hb
        simp only [D.eq, D.py, PyData.eqv]
        split
        · rename_i hl
          exact eqL_py _ _ x y ha.2 hb.2 (by simpa using hl)
        · rename_i hl
          congr 1
          cases q : PyData.eqvAll (D.pys x) (D.pys y) with
          | false => rfl
          | true =>
            have := eqvAll_len _ _ q
            rw [pys_len, pys_len] at this
            exact absurd (by simpa using this) hl
      | _ => simp [D.eq, D.py, PyData.eqv, D.okE] at *
    | lst x =>
      cases b with
      | lst y =>
        simp only [D.okE, Bool.and_eq_true] at ha hb
        simp only [D.eq, D.py, PyData.eqv]
        split
        · rename_i hl
          exact eqL_py _ _ x y ha.2 hb.2 (by simpa using hl)
        · rename_i hl
          congr 1
          cases q : PyData.eqvAll (D.pys x) (D.pys y) with
          | false => rfl
          | true =>
            have := eqvAll_len _ _ q
            rw [pys_len, pys_len] at this
            exact absurd (by simpa using this) hl
      | _ => simp [D.eq, D.py, PyData.eqv, D.okE] at *
    | dct x y => simp [D.okE] at ha
    | obj x y z => simp [D.okE] at ha
    | err x y => simp [D.okE] at ha
    | scr x => simp [D.okE] at ha
    | ref x => simp [D.okE] at ha
theorem eqL_py : ∀ (n m : Nat) (a b : List D), D.okEL n a = true → D.okEL m b = true → a.length = b.length → D.eqL a b = some (PyData.eqvAll (D.pys a) (D.pys b))
  | n, m, [], [], _, _, _ => by simp [D.eqL, D.pys, PyData.eqvAll]
  | n, m, x :: xs, y :: ys, ha, hb, hl => by
    simp only [D.okEL, Bool.and_eq_true] at ha hb
    simp only [D.eqL, D.pys, PyData.eqvAll, eq_py n m x y ha.1 hb.1]
    cases PyData.eqv (D.py x) (D.py y) with
    | true => simpa using eqL_py n m xs ys ha.2 hb.2 (by simpa using hl)
    | false => simp
  | n, m, [], _ :: _, _, _, hl => by simp at hl
  | n, m, _ :: _, [], _, _, hl => by simp at hl
end
mutual
theorem py_depth : ∀ (n : Nat) (d : D), D.okE n d = true → (D.py d).depth ≤ n
  | n, d, h => by
    cases d with
    | tup l =>
      simp only [D.okE, Bool.and_eq_true] at h
      have h1 := Nat.le_of_ble_eq_true h.1
      have h2 := pys_depth (n - 1) l h.2
      simp only [D.py, PyData.depth]
      omega
    | lst l =>
      simp only [D.okE, Bool.and_eq_true] at h
      have h1 := Nat.le_of_ble_eq_true h.1
      have h2 := pys_depth (n - 1) l h.2
      simp only [D.py, PyData.depth]
      omega
    | _ => simp only [D.py, PyData.depth]; omega
theorem pys_depth : ∀ (n : Nat) (l : List D), D.okEL n l = true → PyData.depthAll (D.pys l) ≤ n
  | n, [], _ => by simp only [D.pys, PyData.depthAll]; omega
  | n, d :: l, h => by
    simp only [D.okEL, Bool.and_eq_true] at h
    have h1 := py_depth n d h.1
    have h2 := pys_depth n l h.2
    simp only [D.pys, PyData.depthAll]
    omega
end
theorem strOk_of {s : List Nat} (h : (s.all fun c => Nat.blt c 1114112) = true) : PyData.strOk (stOf s) = true := by
  unfold PyData.strOk
  show (s.toArray.all fun c => decide (c < 0x110000)) = true
  rw [← Array.all_toList]
  simp only [List.toList_toArray, List.all_eq_true, decide_eq_true_eq] at h ⊢
  exact fun c hc => Nat.le_of_ble_eq_true (h c hc)
section
variable {Y : Wd} {W : WX} {X : Cx} {G : Gh} {st : St} {σ : L2.St} {H : Hp}
mutual
theorem dp_of (R : Rel Y G st σ H) : ∀ (n : Nat) (d : D) (v : V), D.okE n d = true → RV Y G.F G.al d v → Dp Y.K H v (D.py d) ∧ (D.py d).canLay0 = true
  | n, d, v, h, r => by
    cases d with
    | non => simp only [RV] at r; subst r; exact ⟨.non, rfl⟩
    | bl b => simp only [RV] at r; subst r; exact ⟨.bl b, rfl⟩
    | int b => simp only [RV] at r; subst r; exact ⟨.int b, rfl⟩
    | str s =>
      simp only [RV] at r
      obtain ⟨r, hs⟩ := r
      subst r
      exact ⟨.str _, by simp only [D.py, PyData.canLay0]; exact strOk_of hs⟩
    | tup l =>
      simp only [RV] at r
      obtain ⟨a, xs, e, t, rs⟩ := r
      subst e
      simp only [D.okE, Bool.and_eq_true] at h
      have q := dps_of R (n - 1) l xs h.2 rs
      exact ⟨.tup (t.sq R) q.1, by simp only [D.py, PyData.canLay0]; exact q.2⟩
    | lst l =>
      simp only [RV] at r
      obtain ⟨a, xs, e, t, rs⟩ := r
      subst e
      simp only [D.okE, Bool.and_eq_true] at h
      have q := dps_of R (n - 1) l xs h.2 rs
      exact ⟨.lst (.inl (t.sq R)) q.1, by simp only [D.py, PyData.canLay0]; exact q.2⟩
    | _ => simp [D.okE] at h
theorem dps_of (R : Rel Y G st σ H) : ∀ (n : Nat) (l : List D) (vs : List V), D.okEL n l = true → RVs Y G.F G.al l vs → DpAll Y.K H vs (D.pys l) ∧ PyData.canLayAll0 (D.pys l) = true
  | n, [], vs, _, r => by simp only [RVs] at r; subst r; exact ⟨.nil, rfl⟩
  | n, d :: l, vs, h, r => by
    simp only [RVs] at r
    obtain ⟨x, r', e, r1, r2⟩ := r
    subst e
    simp only [D.okEL, Bool.and_eq_true] at h
    have q1 := dp_of R n d x h.1 r1
    have q2 := dps_of R n l r' h.2 r2
    exact ⟨.cons q1.1 q2.1, by simp only [D.pys, PyData.canLayAll0, q1.2, q2.2, Bool.and_self]⟩
end
theorem dpV (R : Rel Y G st σ H) {n : Nat} {d : D} {v : V} (h : D.okE n d = true) (r : VV Y G H d v) : Dp Y.K H v (D.py d) ∧ (D.py d).canLay0 = true := by
  cases d with
  | non => exact dp_of R n .non v h (by simpa only [VV, RV] using r)
  | bl b => exact dp_of R n (.bl b) v h (by simpa only [VV, RV] using r)
  | int b => exact dp_of R n (.int b) v h (by simpa only [VV, RV] using r)
  | str s => exact dp_of R n (.str s) v h (by simpa only [VV, RV] using r)
  | tup l => exact dp_of R n (.tup l) v h (by simp only [RV]; exact r)
  | lst l =>
    obtain ⟨a, xs, e, t, rs⟩ := r
    subst e
    simp only [D.okE, Bool.and_eq_true] at h
    have q := dps_of R (n - 1) l xs h.2 rs
    exact ⟨.lst (.inl (.inl t)) q.1, by simp only [D.py, PyData.canLay0]; exact q.2⟩
  | _ => simp [D.okE] at h
theorem shaped_py (R : Rel Y G st σ H) {d : D} {v : V} (h : D.okE 64 d = true) (r : VV Y G H d v) : SeqAt.shaped (D.py d) = true := by
  unfold SeqAt.shaped
  rw [(dpV R h r).2, decide_eq_true (py_depth 64 d h)]
  rfl
/-! ### == and != -/
theorem cmp_eq (hK : X.K = Y.K) (hu : X.A.units + 64 < cLine) : OpR X (compareOp .Eq) (rTwo Y W (kCmp .eq)) := by
  intro pins s σ' H x y v u Q I rx ry hh
  obtain ⟨G, st, σ, dx, dy, R, vx, vy, p⟩ := hh
  obtain ⟨d, fr, e, p⟩ := ans_ok p
  simp only [cmpD, eqTop] at e
  split at e
  · rename_i z
    simp only [Bool.and_eq_true] at z
    rw [eq_py _ _ _ _ z.1 z.2] at e
    simp only [Option.map_some, Option.some.injEq, Prod.mk.injEq] at e
    obtain ⟨rfl, rfl⟩ := e
    exact op_eqD hu pins s σ' H x y v u Q I rx ry ⟨_, _, by rw [hK]; exact (dpV R z.1 vx).1, by rw [hK]; exact (dpV R z.2 vy).1, shaped_py R z.1 vx, shaped_py R z.2 vy, p.flat R (by simp) (by simp only [RV])⟩
  · cases e
theorem cmp_ne (hK : X.K = Y.K) (hu : X.A.units + 64 < cLine) : OpR X (compareOp .NotEq) (rTwo Y W (kCmp .ne)) := by
  intro pins s σ' H x y v u Q I rx ry hh
  obtain ⟨G, st, σ, dx, dy, R, vx, vy, p⟩ := hh
  obtain ⟨d, fr, e, p⟩ := ans_ok p
  simp only [cmpD, eqTop] at e
  split at e
  · rename_i z
    simp only [Bool.and_eq_true] at z
    rw [eq_py _ _ _ _ z.1 z.2] at e
    simp only [Option.map_some, Option.some.injEq, Prod.mk.injEq] at e
    obtain ⟨rfl, rfl⟩ := e
    exact op_neD hu pins s σ' H x y v u Q I rx ry ⟨_, _, by rw [hK]; exact (dpV R z.1 vx).1, by rw [hK]; exact (dpV R z.2 vy).1, shaped_py R z.1 vx, shaped_py R z.2 vy, p.flat R (by simp) (by simp only [RV])⟩
  · cases e
end
end Mi

set_option Elab.async false
set_option linter.all false
set_option maxRecDepth 100000
namespace Mi
open PySem PySem.Spec PyProof.Rows L2
section
variable {Y : Wd} {W : WX} {X : Cx} {G : Gh} {st : St} {σ : L2.St} {H : Hp}
theorem memL_py : ∀ (n m : Nat) (x : D) (l : List D), D.okE n x = true → D.okEL m l = true → memL x l = some ((D.pys l).any fun z => PyData.eqv z (D.py x))
  | n, m, x, [], _, _ => by simp [memL, D.pys]
  | n, m, x, y :: ys, hx, hl => by
    simp only [D.okEL, Bool.and_eq_true] at hl
    simp only [memL, eq_py m n y x hl.1 hx, D.pys, List.any_cons]
    cases PyData.eqv (D.py y) (D.py x) with
    | true => simp
    | false => simpa using memL_py n m x ys hx hl.2
theorem any_mem (c : Nat) : ∀ s : List Nat, (s.any (· == c)) = decide (c ∈ s)
  | [] => by simp
  | a :: s => by
    rw [List.any_cons, any_mem c s]
    by_cases h : a = c
    · subst h; simp
    · have h2 : ¬ c = a := fun z => h z.symm
      rw [beq_eq_false_iff_ne.mpr h]
      simp [h2]
theorem any_ord {s : List Nat} {c : Nat} : (s.any (· == c)) = decide (c ∈ (stOf s).cps.toList) := by
  have e : (stOf s).cps.toList = s := by simp [stOf]
  rw [e, any_mem]
theorem inD_ok {x c : D} {b : Bool} (h : inD x c = some b) (hd : ∀ ks vs, c ≠ .dct ks vs) : (∃ l, (c = .tup l ∨ c = .lst l) ∧ D.okE 64 x = true ∧ D.okEL 63 l = true ∧ b = (D.pys l).any fun z => PyData.eqv z (D.py x)) ∨
    ∃ t k, c = .str t ∧ x = .str [k] ∧ b = t.any (· == k) := by
  cases c with
  | tup l =>
    simp only [inD] at h
    split at h
    · rename_i z
      simp only [Bool.and_eq_true] at z
      rw [memL_py 64 63 x l z.1 z.2] at h
      cases h
      exact .inl ⟨l, .inl rfl, z.1, z.2, rfl⟩
    · cases h
  | lst l =>
    simp only [inD] at h
    split at h
    · rename_i z
      simp only [Bool.and_eq_true] at z
      rw [memL_py 64 63 x l z.1 z.2] at h
      cases h
      exact .inl ⟨l, .inr rfl, z.1, z.2, rfl⟩
    · cases h
  | str t =>
    simp only [inD] at h
    split at h
    · cases h
      exact .inr ⟨_, _, rfl, rfl, rfl⟩
    · cases h
  | dct ks vs => exact absurd rfl (hd _ _)
  | _ => simp [inD] at h
/-- in, not in: of lists, tuples, one sign in a text -/
theorem cmp_in (neg : Bool) (hK : X.K = Y.K) (hu : X.A.units + 66 < cLine) (hdc : OpR X (compareOp (if neg then .NotIn else .In)) (fun x y H Q => ∃ G st σ dx ks vs, Rel Y G st σ H ∧ VV Y G H dx x ∧ VV Y G H (.dct ks vs) y ∧ dx.isKey = true ∧ Q (.bl (neg ^^ (getK dx ks vs).isSome)) H)) :
    OpR X (compareOp (if neg then .NotIn else .In)) (rTwo Y W (kCmp (if neg then .notin else .isin))) := by
  intro pins s σ' H x y v u Q I rx ry hh
  obtain ⟨G, st, σ, dx, dy, R, vx, vy, p⟩ := hh
  obtain ⟨d, fr, e, p⟩ := ans_ok p
  have e' : ∃ b, inD dx dy = some b ∧ d = .bl (neg ^^ b) ∧ fr = false := by
    cases neg with
    | true =>
      simp only [if_true, cmpD, Option.map_map, Option.map_eq_some_iff] at e
      obtain ⟨b, h1, h2⟩ := e
      cases h2
      exact ⟨b, h1, by simp, rfl⟩
    | false =>
      simp only [Bool.false_eq_true, if_false, cmpD, Option.map_eq_some_iff] at e
      obtain ⟨b, h1, h2⟩ := e
      cases h2
      exact ⟨b, h1, by simp, rfl⟩
  obtain ⟨b, hi, rfl, rfl⟩ := e'
  have q : Q (.bl (neg ^^ b)) H := p.flat R (by simp) (by simp only [RV])
  by_cases hd : ∃ ks vs, dy = .dct ks vs
  · obtain ⟨ks, vs, rfl⟩ := hd
    simp only [inD] at hi
    split at hi
    · rename_i z
      cases hi
      exact hdc pins s σ' H x y v u Q I rx ry ⟨G, st, σ, dx, ks, vs, R, vx, vy, z, q⟩
    · cases hi
  rcases inD_ok hi (fun ks vs z => hd ⟨ks, vs, z⟩) with ⟨l, hc, hx, hl, hb⟩ | ⟨t, k, rfl, rfl, hb⟩
  · subst hb
    obtain ⟨dxp, cx⟩ := dpV R hx vx
    have hy : D.okE 64 dy = true := by
      rcases hc with rfl | rfl <;> simp [D.okE, hl]
    obtain ⟨dyp, cy⟩ := dpV R hy vy
    rw [← hK] at dxp dyp
    obtain ⟨as, r1⟩ := Dp.reads I _ x v dxp rx
    obtain ⟨bs, r2⟩ := Dp.reads I _ y u dyp ry
    have hdx := py_depth 64 dx hx
    have room : X.A.units + 1 + min (PyData.depthAll (D.pys l)) (D.py dx).depth < cLine := by
      have : min (PyData.depthAll (D.pys l)) (D.py dx).depth ≤ (D.py dx).depth := Nat.min_le_right _ _
      omega
    rcases hc with rfl | rfl
    · simp only [D.py, PyData.canLay0] at r2 cy
      cases neg with
      | true => exact SeqAt.notIn_tuple_reads r2 r1 cy cx room ⟨.bl _, H, I, rfl, by simpa using q⟩
      | false => exact SeqAt.in_tuple_reads r2 r1 cy cx room ⟨.bl _, H, I, rfl, by simpa using q⟩
    · simp only [D.py, PyData.canLay0] at r2 cy
      cases neg with
      | true => exact SeqAt.notIn_list_reads r2 r1 cy cx room ⟨.bl _, H, I, rfl, by simpa using q⟩
      | false => exact SeqAt.in_list_reads r2 r1 cy cx room ⟨.bl _, H, I, rfl, by simpa using q⟩
  · subst hb
    simp only [VV] at vx vy
    rw [any_ord] at q
    cases neg with
    | true => exact op_notIn_sign pins s σ' H x y v u Q I rx ry ⟨k, stOf t, by rw [vx.1]; rfl, vy.1, by simpa using q⟩
    | false => exact op_in_sign pins s σ' H x y v u Q I rx ry ⟨k, stOf t, by rw [vx.1]; rfl, vy.1, by simpa using q⟩
/-! ### order of numbers -/
theorem cmp_ord {o : COp} {op : CmpOp} {g : Int → Int → Bool} (h : OpR X (compareOp op) (rI0 fun i j => .bl (g i j)))
    (hb : ∀ dx dy b, cmpD o dx dy = some b → ∃ i j, dx = .int i ∧ dy = .int j ∧ b = g i j) : OpR X (compareOp op) (rTwo Y W (kCmp o)) := by
  intro pins s σ' H x y v u Q I rx ry hh
  obtain ⟨G, st, σ, dx, dy, R, vx, vy, p⟩ := hh
  obtain ⟨d, fr, e, p⟩ := ans_ok p
  simp only [Option.map_eq_some_iff] at e
  obtain ⟨b, e1, e2⟩ := e
  cases e2
  obtain ⟨i, j, rfl, rfl, rfl⟩ := hb _ _ _ e1
  simp only [VV] at vx vy
  exact h pins s σ' H x y v u Q I rx ry ⟨i, j, vx, vy, p.flat R (by simp) (by simp only [RV])⟩
theorem ord_ok {o : COp} {dx dy : D} {b : Bool} (ho : o = .lt ∨ o = .le ∨ o = .gt ∨ o = .ge) (h : cmpD o dx dy = some b) : ∃ i j, dx = .int i ∧ dy = .int j ∧ b = ordB o (compare i j) := by
  cases dx with
  | int i =>
    cases dy with
    | int j =>
      rcases ho with rfl | rfl | rfl | rfl <;> (simp only [cmpD, Option.some.injEq] at h; exact ⟨_, _, rfl, rfl, h.symm⟩)
    | _ => rcases ho with rfl | rfl | rfl | rfl <;> simp [cmpD] at h
  | _ => rcases ho with rfl | rfl | rfl | rfl <;> simp [cmpD] at h
theorem cmpI_lt (i j : Int) : ordB .lt (compare i j) = decide (i < j) := by
  rcases Int.lt_trichotomy i j with h | h | h
  · rw [Int.compare_eq_lt.mpr h, decide_eq_true h]; rfl
  · rw [Int.compare_eq_eq.mpr h, decide_eq_false (by omega)]; rfl
  · rw [Int.compare_eq_gt.mpr h, decide_eq_false (by omega)]; rfl
theorem cmpI_le (i j : Int) : ordB .le (compare i j) = decide (i ≤ j) := by
  rcases Int.lt_trichotomy i j with h | h | h
  · rw [Int.compare_eq_lt.mpr h, decide_eq_true (by omega)]; rfl
  · rw [Int.compare_eq_eq.mpr h, decide_eq_true (by omega)]; rfl
  · rw [Int.compare_eq_gt.mpr h, decide_eq_false (by omega)]; rfl
theorem cmpI_gt (i j : Int) : ordB .gt (compare i j) = decide (j < i) := by
  rcases Int.lt_trichotomy i j with h | h | h
  · rw [Int.compare_eq_lt.mpr h, decide_eq_false (by omega)]; rfl
  · rw [Int.compare_eq_eq.mpr h, decide_eq_false (by omega)]; rfl
  · rw [Int.compare_eq_gt.mpr h, decide_eq_true h]; rfl
theorem cmpI_ge (i j : Int) : ordB .ge (compare i j) = decide (j ≤ i) := by
  rcases Int.lt_trichotomy i j with h | h | h
  · rw [Int.compare_eq_lt.mpr h, decide_eq_false (by omega)]; rfl
  · rw [Int.compare_eq_eq.mpr h, decide_eq_true (by omega)]; rfl
  · rw [Int.compare_eq_gt.mpr h, decide_eq_true (by omega)]; rfl
theorem cmp_lt : OpR X (compareOp .Lt) (rTwo Y W (kCmp .lt)) := cmp_ord op_lt fun dx dy b h => by
  obtain ⟨i, j, e1, e2, e3⟩ := ord_ok (.inl rfl) h
  exact ⟨i, j, e1, e2, by rw [e3, cmpI_lt]⟩
theorem cmp_le : OpR X (compareOp .LtE) (rTwo Y W (kCmp .le)) := cmp_ord op_le fun dx dy b h => by
  obtain ⟨i, j, e1, e2, e3⟩ := ord_ok (.inr (.inl rfl)) h
  exact ⟨i, j, e1, e2, by rw [e3, cmpI_le]⟩
theorem cmp_gt : OpR X (compareOp .Gt) (rTwo Y W (kCmp .gt)) := cmp_ord op_gt fun dx dy b h => by
  obtain ⟨i, j, e1, e2, e3⟩ := ord_ok (.inr (.inr (.inl rfl))) h
  exact ⟨i, j, e1, e2, by rw [e3, cmpI_gt]⟩
theorem cmp_ge : OpR X (compareOp .GtE) (rTwo Y W (kCmp .ge)) := cmp_ord op_ge fun dx dy b h => by
  obtain ⟨i, j, e1, e2, e3⟩ := ord_ok (.inr (.inr (.inr rfl))) h
  exact ⟨i, j, e1, e2, by rw [e3, cmpI_ge]⟩
end
def pyC : COp → CmpOp
  | .eq => .Eq | .ne => .NotEq | .lt => .Lt | .le => .LtE | .gt => .Gt | .ge => .GtE | .isin => .In | .notin => .NotIn
/-- what is asked of the dicts, later on -/
def DcIn (Y : Wd) (X : Cx) : Prop := ∀ neg : Bool, OpR X (compareOp (if neg then .NotIn else .In)) (fun x y H Q => ∃ G st σ dx ks vs, Rel Y G st σ H ∧ VV Y G H dx x ∧ VV Y G H (.dct ks vs) y ∧ dx.isKey = true ∧ Q (.bl (neg ^^ (getK dx ks vs).isSome)) H)
theorem cmp_all {Y : Wd} {W : WX} {X : Cx} (hK : X.K = Y.K) (hu : X.A.units + 66 < cLine) (hd : DcIn Y X) (o : COp) : OpR X (compareOp (pyC o)) (rTwo Y W (kCmp o)) := by
  cases o with
  | eq => exact cmp_eq hK (by omega)
  | ne => exact cmp_ne hK (by omega)
  | lt => exact cmp_lt
  | le => exact cmp_le
  | gt => exact cmp_gt
  | ge => exact cmp_ge
  | isin => exact cmp_in false hK hu (hd false)
  | notin => exact cmp_in true hK hu (hd true)
def notSet : Expr → Bool
  | .Set _ _ _ => false
  | _ => true
theorem nomark' {e : Expr} {op : CmpOp} (h : notSet e = true) : behindInMarks op e = false := by
  cases e <;> first | rfl | cases h
section
variable {Y : Wd} {W : WX} {X : Cx} {a b : Expr} {ma mb : Ex} {pos : Pos} {I : Info}
theorem se_cmp {o : COp} (hK : X.K = Y.K) (hu : X.A.units + 66 < cLine) (hd : DcIn Y X) (hs : notSet b = true) (ha : SO Y W X a (opd ma (ev I ma))) (hb : SO Y W X b (opd mb (ev I mb))) : SE Y W X (.Compare a [pyC o] [b] pos) (ev I (.cmp o ma mb)) := by
  have e : ev I (.cmp o ma mb) = two (kCmp o) (opd ma (ev I ma)) (opd mb (ev I mb)) := by funext st; simp only [ev]
  rw [SE, e]
  exact PE.imp (pe_cmpR (cmp_all hK hu hd o) ha hb (nomark' hs)) two_read
/-- a bool's reading as a test's -/
theorem tst_bool {f : St → Out ((D × Bool) × St)} {m : Ex} (hm : ∀ i, m ≠ .pk i) (hb : ∀ st d fr st', f st = .ok ((d, fr), st') → ∃ c, d = .bl c) : ∀ σ H Q, rT Y W (tst m f) σ H Q → rE Y W f σ H (fun x H' => ∃ k, x = .bl k ∧ Q k H') := by
  intro σ H Q ⟨G, st, R, p⟩
  refine ⟨G, st, R, ?_⟩
  have eo : opd m f st = (f st).bind fun ((d, _), st1) => .ok (.val d, st1) := by
    unfold opd
    cases m with
    | pk i => exact absurd rfl (hm i)
    | _ => rfl
  unfold tst at p
  rw [eo] at p
  cases q : f st with
  | ok r =>
    obtain ⟨⟨d, fr⟩, st'⟩ := r
    rw [q] at p
    obtain ⟨c, rfl⟩ := hb _ _ _ _ q
    intro G' H' v R' E rr
    have p : PostT Y W G st σ H (.ok (c, st')) Q := p
    refine ⟨c, ?_, p G' H' R' E⟩
    unfold RR at rr
    rw [if_neg (by simp [isMutD])] at rr
    simpa only [RV] using rr
  | exc c s => rw [q] at p; exact p
  | stuck => rw [q] at p; exact p
theorem bind_ok {α β : Type} {o : Out α} {k : α → Out β} {r : β} (h : o.bind k = .ok r) : ∃ a, o = .ok a ∧ k a = .ok r := by
  cases o with
  | ok a => exact ⟨a, rfl, h⟩
  | exc c s => cases h
  | stuck => cases h
theorem two_bool {k : D → D → St → Out ((D × Bool) × St)} {fa fb : St → Out (Ov × St)} (hk : ∀ dx dy st d fr st', k dx dy st = .ok ((d, fr), st') → ∃ c, d = .bl c) : ∀ st d fr st', two k fa fb st = .ok ((d, fr), st') → ∃ c, d = .bl c := by
  intro st d fr st' h
  unfold two at h
  obtain ⟨⟨x, s1⟩, _, h⟩ := bind_ok h
  obtain ⟨⟨y, s2⟩, _, h⟩ := bind_ok h
  dsimp only at h
  cases e1 : rdo s2 x with
  | none => rw [e1] at h; cases h
  | some dx =>
    cases e2 : rdo s2 y with
    | none => rw [e1, e2] at h; cases h
    | some dy => rw [e1, e2] at h; exact hk _ _ _ _ _ _ h
theorem kCmp_bool {o : COp} {dx dy : D} {st : St} {d : D} {fr : Bool} {st' : St} (h : kCmp o dx dy st = .ok ((d, fr), st')) : ∃ c, d = .bl c := by
  unfold kCmp ans at h
  cases q : cmpD o dx dy with
  | none => rw [q] at h; cases h
  | some b => rw [q] at h; cases h; exact ⟨b, rfl⟩
theorem sb_cmp {o : COp} (hK : X.K = Y.K) (hu : X.A.units + 66 < cLine) (hd : DcIn Y X) (hs : notSet b = true) (ha : SO Y W X a (opd ma (ev I ma))) (hb : SO Y W X b (opd mb (ev I mb))) : SB Y W X (.Compare a [pyC o] [b] pos) (tst (.cmp o ma mb) (ev I (.cmp o ma mb))) := by
  have e : ev I (.cmp o ma mb) = two (kCmp o) (opd ma (ev I ma)) (opd mb (ev I mb)) := by funext st; simp only [ev]
  rw [SB, e]
  refine PT.imp (pt_cmpR (cmp_all (W := W) hK hu hd o) ha hb (nomark' hs)) fun σ H Q h => ?_
  exact two_read σ H _ (tst_bool (fun i z => by cases z) (two_bool fun _ _ _ _ _ _ h => kCmp_bool h) σ H Q h)
end
end Mi

set_option Elab.async false
set_option linter.all false
set_option maxRecDepth 100000
namespace Mi
open PySem PySem.Spec PyProof.Rows L2
/-! ### a def's promise where no repr is under way -/
structure FnG (P : Program) (w : World) (K : PySem.W.Frag) (mg : Str → Option Value) (base : Heap) (CX : CXT) (k : Nat) (f : Addr) (fd : FuncData) (ps : List Str) (sp : Sp) : Prop where
  len : ∀ vs H Q E, sp vs H Q E → vs.length = ps.length
  run : ∀ (A : Around) (outer : List Env) (s : Shared) (H : Hp) (args : Args) (us : List Value) (vs : List V) (Q : VK) (E : XK), Room k A → A.guards = some [] → Env0 P w K mg base A outer s H → BindsTo s fd args (ps.zip us) → Vals vs us → sp vs H Q E →
    codeAny (model P w) A (.call (.ref f) args) (CR CX outer P w H s Q E) s
section
variable {X : Cx} {CX : CXT} {k : Nat} {f : Addr} {fd : FuncData} {ps : List Str} {sp : Sp} {E : L2.St → XK} {x : Str} {p pos : Pos} {e : Expr} {es : List Expr} {t : TA}
theorem run_fnG {pins : List (Addr × Obj)} {σ : L2.St} {H : Hp} {s : Shared} {Q : VK} {us : List Value} {vs : List V} (F : FnG X.prog X.w X.K X.mg X.base CX k f fd ps sp) (hr : Room k X.A) (hG : X.A.guards = some []) (hb : L2.Binds X.K fd ps []) (hx : PassesAt CX X σ (E σ))
    (I : Inv X pins σ H s) (r : Vals vs us) (h : sp vs H Q (E σ)) : wpAny (model X.prog X.w) X.A (call (.ref f) us) (EP X pins σ Q) X.xe s := by
  have b := hb s us I.kIn (by rw [List.append_nil, ← r.length]; exact F.len _ _ _ _ h)
  rw [List.append_nil] at b
  refine wpAny_call (codeAny_mono (F.run X.A X.stack s H ⟨us, []⟩ us vs Q (E σ) hr hG I.env0 b r h) fun r s' hq => ?_)
  cases r with
  | error e => exact hx pins H s e s' I hq
  | ok fl =>
    cases fl with
    | ret u => exact I.after hq
    | next => exact hq.elim
    | brk => exact hq.elim
    | cont => exact hq.elim
theorem pe_callG (F : FnG X.prog X.w X.K X.mg X.base CX k f fd ps sp) (hr : Room k X.A) (hG : X.A.guards = some []) (hg : Gl X x) (hm : X.mg x = some (.ref f)) (hk : PySem.W.keepIn X.K (.ref f) = true) (hb : L2.Binds X.K fd ps []) (hx : ∀ σ, PassesAt CX X σ (E σ))
    (ha : PA X (e :: es) t) (hdb : (x == ("__debug__" : Str)) = false) (he : starEach (e :: es) X.env = (false, eval e X.env) :: starEach es X.env) (hpl : (backTo pos (starEach es X.env)).any (·.1) = false) :
    PE X (.Call (.Name x p) (e :: es) [] pos) (tCallS sp E t) := by
  refine ⟨fun pins s σ H Q I h => ?_⟩
  refine wpAny_Call_Name_kw (ld_glob I hg hm ?_ hdb)
  refine PySem.W.callWith_K (h₀ := X.base) I.ok.mod.kin hk (thn (ha.run pos pins s σ H _ I h) fun us s1 ⟨vs, H1, I1, r, q⟩ => ⟨I1.kIn, ?_⟩) he hpl
  exact run_fnG F hr hG hb (hx σ) I1 r q
theorem pe_callG0 (F : FnG X.prog X.w X.K X.mg X.base CX k f fd ps sp) (hr : Room k X.A) (hG : X.A.guards = some []) (hg : Gl X x) (hm : X.mg x = some (.ref f)) (hk : PySem.W.keepIn X.K (.ref f) = true) (hb : L2.Binds X.K fd ps []) (hx : ∀ σ, PassesAt CX X σ (E σ))
    (hdb : (x == ("__debug__" : Str)) = false) : PE X (.Call (.Name x p) [] [] pos) (tCallS sp E tNil) := by
  refine ⟨fun pins s σ H Q I h => ?_⟩
  refine wpAny_Call_Name_kw (ld_glob I hg hm ?_ hdb)
  refine PySem.W.callWith_K0 I.kIn hk (run_fnG F hr hG hb (hx σ) I .nil h)
end
theorem deeper_guards {A : Around} {e : Env} : (A.deeper e).guards = A.guards := rfl
/-- a def keeps its promise by its body -/
theorem fnG_of {CX : CXT} {P : Program} {w : World} {K : PySem.W.Frag} {mg : Str → Option Value} {base : Heap} {k : Nat} {f : Addr} {fd : FuncData} {x qual : Str} {params : Arguments} {body : List Stmt} {scope : Scope} {N ps : List Str} {sp : Sp} (Fd : FunD K x qual params body scope [] [] f fd) (S : FnScope N ps scope)
    (len : ∀ vs H Q E, sp vs H Q E → vs.length = ps.length)
    (hbody : ∀ (cdv : Value) (A : Around) (outer : List Env) (s : Shared) (H : Hp) (vs : List V) (Q : VK) (E : XK), Room k (A.deeper (envOfC qual scope s.heap.objs.size f cdv)) → A.guards = some [] → sp vs H Q E →
      ∃ t, PSs (cxOf CX P w K mg base N qual scope f cdv A outer s H E) body t ∧ t { nx := fun _ H' => Q .non H', rt := Q } (start N vs) H) : FnG P w K mg base CX (k + 1) f fd ps sp := by
  obtain ⟨oc, od, dV, kV, doc, pm, an, cdv, ct, osl, rfl, lk, hcd, _, _⟩ := Fd.ex
  refine ⟨len, fun A outer s H args us vs Q E hr hG e0 hb r hsp => ?_⟩
  have hl := len _ _ _ _ hsp
  have KX : K.In s.heap := e0.mod.kin.keeps fun b o e => (e0.bs b o e).1
  have lim : s.heap.NoLimit := e0.mod.nolimit.keeps fun b o e => (e0.bs b o e).1
  have bound : ∀ y ∈ ps.zip us, scope.names.lookup y.1 = some .local ∨ (scope.names.lookup y.1 = some .cell ∧ ((cellsFrom (s.heap.objs.size + 1) scope.names []).lookup y.1).isSome = true) := fun ⟨n, v⟩ hy =>
    (S.par n (List.of_mem_zip hy).1).imp id fun q => ⟨q, PySem.W.cellsFrom_some _ _ _ (.inl q)⟩
  refine codeAny_call_function hr.depth (KX _ _ lk) rfl S.co S.gen rfl (PySem.W.codeRec_of KX hcd) (hb _ _ _ _ ?_)
  refine wpAny_newFunctionEnv_cells S.kind bound fun env he s1 x => ?_
  subst he
  refine ⟨lim.keeps x.toInCall.keep, codeAny_func ?_⟩
  obtain ⟨t, ht, hq⟩ := hbody cdv A outer s H vs Q E (hr.deeper _) hG hsp
  have I : Inv (cxOf CX P w K mg base N qual scope f cdv A outer s H E) [] (start N vs) H s1 := inv_start S hr.hd e0 hl r x
  refine wpAny_mono (ht.run [] s1 (start N vs) H _ I hq) (fun fl s' hs => ?_) fun e s' hs => hs
  cases fl with
  | ret u =>
    obtain ⟨v, σ', H', J, rv, q⟩ := hs
    exact ⟨v, H', J.os, J.bare, J.base, J.hok, rv, q⟩
  | next =>
    obtain ⟨σ', H', J, q⟩ := hs
    exact ⟨V.non, H', J.os, J.bare, J.base, J.hok, rfl, q⟩
  | brk =>
    obtain ⟨_, _, _, q⟩ := hs
    exact q.elim
  | cont =>
    obtain ⟨_, _, _, q⟩ := hs
    exact q.elim
end Mi

set_option Elab.async false
set_option linter.all false
set_option maxRecDepth 100000
namespace Mi
open PySem PySem.Spec PyProof.Rows L2
section
variable {Y : Wd} {W : WX} {G G1 : Gh} {st st1 : St} {σ : L2.St} {H H1 : Hp}
/-! ### the cells alone, and back -/
theorem owns_nil {s : Cells} {t : OT} {a : Addr} (h : owns G ⟨[], s⟩ [] t a) : ∃ n, t = .cell n ∧ (∃ d, s[n]? = some (some d)) ∧ G.al n = some a := by
  cases t with
  | slot i => obtain ⟨d, q, _⟩ := h; simp [slotAt] at q
  | cell n => exact ⟨n, rfl, h⟩
theorem owned_nil {s : Cells} {a : Addr} (h : Owned G ⟨[], s⟩ [] a) : ∃ n, (∃ d, s[n]? = some (some d)) ∧ G.al n = some a := by
  obtain ⟨t, h⟩ := h
  obtain ⟨n, _, h⟩ := owns_nil h
  exact ⟨n, h⟩
theorem owned_cells {r : List Slot} {s : Cells} {a : Addr} (h : Owned G ⟨[], s⟩ [] a) : Owned G ⟨r, s⟩ σ a := by
  obtain ⟨n, h⟩ := owned_nil h
  exact ⟨.cell n, h⟩
theorem Rel.alone (R : Rel Y G st σ H) : Rel Y G ⟨[], st.s⟩ [] H where
  fzi := R.fzi
  fz := R.fz
  dom := R.dom
  cells := R.cells
  slots := fun i b d q => by simp [slotAt] at q
  inj := fun t t' a o o' => by
    obtain ⟨n, rfl, h⟩ := owns_nil o
    obtain ⟨n', rfl, h'⟩ := owns_nil o'
    exact R.inj (.cell n) (.cell n') a h h'
  len := Nat.zero_le _
/-- behind a call: the caller's slots stand -/
theorem Rel.back {G' : Gh} {s' : Cells} {H' : Hp} (R : Rel Y G st σ H) (R' : Rel Y G' ⟨[], s'⟩ [] H') (E : Ext G ⟨[], st.s⟩ [] H G' ⟨[], s'⟩ H') :
    Rel Y G' ⟨st.r, s'⟩ σ H' ∧ Ext G st σ H G' ⟨st.r, s'⟩ H' := by
  have slotK : ∀ {i : Nat} {d : D} {a : Addr}, slotAt i st.r = some (true, d) → σ[i]? = some (some (.ref a)) → (∀ o, H a = some o → H' a = some o) ∧ G'.F a = none ∧ ¬ Owned G' ⟨[], s'⟩ [] a := fun {i d a} q e => by
    have ow : Owned G st σ a := ⟨.slot i, d, q, e⟩
    obtain ⟨f, th⟩ := R.owned ow
    have nC : ¬ Owned G ⟨[], st.s⟩ [] a := fun z => by
      obtain ⟨n, z⟩ := owned_nil z
      have := R.inj (.slot i) (.cell n) a ⟨d, q, e⟩ z
      cases this
    refine ⟨fun o h => E.keep a o h nC f, ?_, fun z => ?_⟩
    · cases h : G'.F a with
      | none => rfl
      | some o =>
        rcases E.frz a (by rw [h]; exact fun z => nomatch z) with z | z | z
        · exact absurd f z
        · exact absurd z th
        · exact absurd z nC
    · rcases E.own a z with z | z
      · exact nC z
      · exact th z
  have R2 : Rel Y G' ⟨st.r, s'⟩ σ H' := by
    refine ⟨R'.fzi, R'.fz, R'.dom, R'.cells, fun i b d q => ?_, fun t t' a o o' => ?_, R.len⟩
    · obtain ⟨v, e, h1, h2⟩ := R.slots i b d q
      refine ⟨v, e, fun z => (h1 z).mono E.F E.al, fun z => ?_⟩
      obtain ⟨a, e2, f, c⟩ := h2 z
      subst e2
      subst z
      obtain ⟨k1, k2, _⟩ := slotK q e
      exact ⟨a, rfl, k2, c.mono E.F E.al k1⟩
    · cases t with
      | slot i =>
        cases t' with
        | slot j => exact R.inj (.slot i) (.slot j) a o o'
        | cell n =>
          obtain ⟨d, q, e⟩ := o
          exact absurd ⟨.cell n, o'⟩ (slotK q e).2.2
      | cell n =>
        cases t' with
        | slot j =>
          obtain ⟨d, q, e⟩ := o'
          exact absurd ⟨.cell n, o⟩ (slotK q e).2.2
        | cell m => exact R'.inj (.cell n) (.cell m) a o o'
  refine ⟨R2, E.lk, E.F, E.al, fun a o h n g => E.keep a o h (fun z => n (owned_cells z)) g, E.there, fun a h => ?_, fun a h => ?_⟩
  · obtain ⟨t, h⟩ := h
    cases t with
    | slot i => exact .inl ⟨.slot i, h⟩
    | cell n =>
      rcases E.own a ⟨.cell n, h⟩ with z | z
      · exact .inl (owned_cells z)
      · exact .inr z
  · rcases E.frz a h with z | z | z
    · exact .inl z
    · exact .inr (.inl z)
    · exact .inr (.inr (owned_cells z))
end
/-! ### what a def does -/
def PostC (Y : Wd) (G : Gh) (s : Cells) (H : Hp) (o : Out ((D × Bool) × Cells)) (Q : VK) (E : XK) : Prop := match o with
  | .ok ((d, fr), s') => ∀ G' H' v, Rel Y G' ⟨[], s'⟩ [] H' → Ext G ⟨[], s⟩ [] H G' ⟨[], s'⟩ H' → RR Y G ⟨[], s⟩ [] H G' ⟨[], s'⟩ H' d fr v → Q v H'
  | .exc c s' => ∀ G' H', Rel Y G' ⟨[], s'⟩ [] H' → Ext G ⟨[], s⟩ [] H G' ⟨[], s'⟩ H' → E (.ref (Y.eA c)) none H'
  | .stuck => False
def spM (Y : Wd) (np : Nat) (fn : List D → Cells → Out ((D × Bool) × Cells)) : Sp := fun vs H Q E =>
  ∃ G s ds, Rel Y G ⟨[], s⟩ [] H ∧ RVs Y G.F G.al ds vs ∧ vs.length = np ∧ PostC Y G s H (fn ds s) Q E
theorem PostC.of {Y : Wd} {W : WX} {G : Gh} {st : St} {σ : L2.St} {H : Hp} (R : Rel Y G st σ H) {o : Out ((D × Bool) × Cells)} {Q : VK} (p : PostE Y W G st σ H (callSt o st) Q) : PostC Y G st.s H o Q (fun cls d H' => W cls d σ H') := by
  cases o with
  | ok r =>
    obtain ⟨⟨d, fr⟩, s'⟩ := r
    intro G' H' v R' E r
    obtain ⟨R2, E2⟩ := R.back R' E
    refine p G' H' v R2 E2 ?_
    unfold RR at r ⊢
    split
    · rename_i h
      rw [if_pos h] at r
      obtain ⟨a, e, f, n, c, z⟩ := r
      refine ⟨a, e, f, fun q => ?_, c, z.imp id owned_cells⟩
      obtain ⟨t, q⟩ := q
      cases t with
      | cell k => exact n ⟨.cell k, q⟩
      | slot i =>
        obtain ⟨d2, q1, q2⟩ := q
        have ow : Owned G st σ a := ⟨.slot i, d2, q1, q2⟩
        have th := (R.owned ow).2
        rcases z with z | z
        · exact th z
        · obtain ⟨m, z⟩ := owned_nil z
          have := R.inj (.slot i) (.cell m) a ⟨d2, q1, q2⟩ z
          cases this
    · rename_i h
      rw [if_neg h] at r
      exact r
  | exc c s =>
    intro G' H' R' E
    refine p G' H' R' ⟨E.lk, E.F, E.al, fun a o h n g => E.keep a o h (fun z => n (owned_cells z)) g, E.there, fun a h => ?_, fun a h => ?_⟩
    · rcases E.own a (by obtain ⟨t, h⟩ := h; cases t with
        | slot i => obtain ⟨d, q, _⟩ := h; simp [slotAt] at q
        | cell n => exact ⟨.cell n, h⟩) with z | z
      · exact .inl (owned_cells z)
      · exact .inr z
    · rcases E.frz a h with z | z | z
      · exact .inl z
      · exact .inr (.inl z)
      · exact .inr (.inr (owned_cells z))
  | stuck => exact p
/-! ### argument lists -/
section
variable {Y : Wd} {W : WX} {X : Cx} {e : Expr} {es : List Expr} {m : Ex} {ms : List Ex} {I : Info} {pos : Pos}
theorem sl_nil : SL Y W X [] (evs I []) := by
  refine PA.imp pa_nil fun σ H Q ⟨G, st, R, p⟩ => ?_
  simp only [evs] at p
  exact p G H [] R .refl .nil
theorem sl_cons (h : SE Y W X e (ev I m)) (hr : SL Y W X es (evs I ms)) (hs : starEach (e :: es) X.env = (false, eval e X.env) :: starEach es X.env) : SL Y W X (e :: es) (evs I (m :: ms)) := by
  refine PA.imp (pa_cons h hr hs) fun σ H Q ⟨G, st, R, p⟩ => ⟨G, st, R, ?_⟩
  simp only [evs] at p
  cases q : ev I m st with
  | ok r =>
    obtain ⟨⟨d, fr⟩, st1⟩ := r
    rw [q] at p
    intro G' H' v R' E r
    obtain ⟨G2, R2, E2, r2⟩ := RR.shut R' E r
    refine ⟨G2, st1, R2, ?_⟩
    have p : PostL Y W G st σ H ((evs I ms st1).bind fun (ds, st2) => .ok (d :: ds, st2)) Q := p
    cases q2 : evs I ms st1 with
    | ok r3 =>
      obtain ⟨ds, st2⟩ := r3
      rw [q2] at p
      intro G3 H3 vs R3 E3 r3
      exact p G3 H3 (v :: vs) R3 (E2.trans E3) (RVs.cons (r2.mono E3.F E3.al) r3)
    | exc c s => rw [q2] at p; exact fun G3 H3 R3 E3 => p G3 H3 R3 (E2.trans E3)
    | stuck => rw [q2] at p; exact p
  | exc c s => rw [q] at p; exact p
  | stuck => rw [q] at p; exact p
end
/-! ### calls of defs -/
/-- the def of a name, called -/
structure DefAt (Y : Wd) (X : Cx) (x : Str) (k np : Nat) (fn : List D → Cells → Out ((D × Bool) × Cells)) : Prop where
  gl : Gl X x
  ok : ∃ f fd ps, X.mg x = some (.ref f) ∧ FnG X.prog X.w X.K X.mg X.base (L2.CX X.prog X.w) k f fd ps (spM Y np fn) ∧ PySem.W.keepIn X.K (.ref f) = true ∧ L2.Binds X.K fd ps []
  room : Room k X.A
  gd : X.A.guards = some []
  nd : (x == ("__debug__" : Str)) = false
section
variable {Y : Wd} {W : WX} {X : Cx} {e : Expr} {es : List Expr} {m : Ex} {ms : List Ex} {I : Info} {pos p : Pos} {x : Str} {k np : Nat}
theorem evs_len : ∀ {ms : List Ex} {st : St} {ds : List D} {st1 : St}, evs I ms st = .ok (ds, st1) → ds.length = ms.length
  | [], st, ds, st1, h => by simp only [evs] at h; cases h; rfl
  | m :: ms, st, ds, st1, h => by
    simp only [evs] at h
    obtain ⟨⟨⟨d, fr⟩, s1⟩, _, h⟩ := bind_ok h
    obtain ⟨⟨ds', s2⟩, h2, h⟩ := bind_ok h
    cases h
    simp [evs_len h2]
theorem se_call {f : Nat} (tk : Takes X W) (D0 : DefAt Y X x k np (I.fn f)) (ha : SL Y W X (e :: es) (evs I (m :: ms))) (hn : (m :: ms).length = np)
    (he : starEach (e :: es) X.env = (false, eval e X.env) :: starEach es X.env) (hpl : (backTo pos (starEach es X.env)).any (·.1) = false) : SE Y W X (.Call (.Name x p) (e :: es) [] pos) (ev I (.call f (m :: ms))) := by
  obtain ⟨fa, fd, ps, hm, F, hk, hb⟩ := D0.ok
  refine PE.imp (pe_callG (E := WE W) F D0.room D0.gd D0.gl hm hk hb (fun σ => passAt tk σ) ha D0.nd he hpl) fun σ H Q ⟨G, st, R, p⟩ => ⟨G, st, R, ?_⟩
  simp only [ev] at p
  cases q : evs I (m :: ms) st with
  | ok r =>
    obtain ⟨ds, st1⟩ := r
    rw [q] at p
    intro G' H' vs R' E r
    refine ⟨G', st1.s, ds, R'.alone, r, ?_, PostC.of R' ?_⟩
    · rw [← r.length, evs_len q, hn]
    · exact PostE.on E p
  | exc c s => rw [q] at p; exact p
  | stuck => rw [q] at p; exact p
theorem se_call0 {f : Nat} (tk : Takes X W) (D0 : DefAt Y X x k 0 (I.fn f)) : SE Y W X (.Call (.Name x p) [] [] pos) (ev I (.call f [])) := by
  obtain ⟨fa, fd, ps, hm, F, hk, hb⟩ := D0.ok
  refine PE.imp (pe_callG0 (E := WE W) F D0.room D0.gd D0.gl hm hk hb (fun σ => passAt tk σ) D0.nd) fun σ H Q ⟨G, st, R, p⟩ => ?_
  simp only [ev, evs] at p
  exact ⟨G, st.s, [], R.alone, .nil, rfl, PostC.of R p⟩
end
end Mi

set_option Elab.async false
set_option linter.all false
set_option maxRecDepth 100000
namespace Mi
open PySem PySem.Spec PyProof.Rows L2
/-! ### from one state of a def's body to a later one -/
structure ES (G : Gh) (st : St) (σ : L2.St) (H : Hp) (G' : Gh) (st' : St) (σ' : L2.St) (H' : Hp) : Prop where
  lk : ∀ a od u, H a = some (.frz od u) → H' a = some (.frz od u)
  F : ∀ a o, G.F a = some o → G'.F a = some o
  al : ∀ n a, G.al n = some a → G'.al n = some a
  keep : ∀ a o, H a = some o → ¬ Owned G st σ a → G.F a = none → H' a = some o
  there : ∀ a, H a ≠ none → H' a ≠ none
  own : ∀ a, Owned G' st' σ' a → Owned G st σ a ∨ H a = none
  frz : ∀ a, G'.F a ≠ none → G.F a ≠ none ∨ H a = none ∨ Owned G st σ a
def RS (Y : Wd) (G : Gh) (st : St) (σ : L2.St) (H : Hp) (G' : Gh) (st' : St) (σ' : L2.St) (H' : Hp) (d : D) (fr : Bool) (v : V) : Prop :=
  if (fr && isMutD d) = true then ∃ a, v = .ref a ∧ G'.F a = none ∧ ¬ Owned G' st' σ' a ∧ CW Y G' H' a d ∧ (H a = none ∨ Owned G st σ a) else RV Y G'.F G'.al d v
section
variable {Y : Wd} {W : WX} {G G1 G2 : Gh} {st st1 st2 : St} {σ σ1 σ2 : L2.St} {H H1 H2 : Hp}
theorem Ext.es (x : Ext G st σ H G1 st1 H1) : ES G st σ H G1 st1 σ H1 := ⟨x.lk, x.F, x.al, x.keep, x.there, x.own, x.frz⟩
theorem ES.refl : ES G st σ H G st σ H := Ext.es .refl
theorem ES.trans (a : ES G st σ H G1 st1 σ1 H1) (b : ES G1 st1 σ1 H1 G2 st2 σ2 H2) : ES G st σ H G2 st2 σ2 H2 where
  lk := fun x od u h => b.lk x od u (a.lk x od u h)
  F := fun x o h => b.F x o (a.F x o h)
  al := fun n x h => b.al n x (a.al n x h)
  keep := fun x o h n g => b.keep x o (a.keep x o h n g) (fun z => (a.own x z).elim n fun e => by rw [h] at e; cases e) (by
    cases q : G1.F x with
    | none => rfl
    | some u =>
      rcases a.frz x (by rw [q]; exact fun z => nomatch z) with z | z | z
      · exact absurd g z
      · rw [h] at z; cases z
      · exact absurd z n)
  there := fun x h => b.there x (a.there x h)
  own := fun x h => by
    rcases b.own x h with z | z
    · exact a.own x z
    · refine .inr ?_
      cases e : H x with
      | none => rfl
      | some o => exact absurd z (a.there x (by rw [e]; exact fun z => nomatch z))
  frz := fun x h => by
    rcases b.frz x h with z | z | z
    · exact a.frz x z
    · refine .inr (.inl ?_)
      cases e : H x with
      | none => rfl
      | some o => exact absurd z (a.there x (by rw [e]; exact fun z => nomatch z))
    · rcases a.own x z with q | q
      · exact .inr (.inr q)
      · exact .inr (.inl q)
theorem RS.on (x : ES G st σ H G1 st1 σ1 H1) {d : D} {fr : Bool} {v : V} {G' : Gh} {st' : St} {σ' : L2.St} {H' : Hp} (r : RS Y G1 st1 σ1 H1 G' st' σ' H' d fr v) : RS Y G st σ H G' st' σ' H' d fr v := by
  unfold RS at r ⊢
  split
  · rename_i h
    rw [if_pos h] at r
    obtain ⟨a, e, f, n, c, z⟩ := r
    refine ⟨a, e, f, n, c, ?_⟩
    rcases z with z | z
    · left
      cases q : H a with
      | none => rfl
      | some o => exact absurd z (x.there a (by rw [q]; exact fun z => nomatch z))
    · rcases x.own a z with z | z
      · exact .inr z
      · exact .inl z
  · rename_i h
    rw [if_neg h] at r
    exact r
/-- what is wanted behind a statement -/
def PostS (Y : Wd) (W : WX) (G : Gh) (st : St) (σ : L2.St) (H : Hp) (o : Out (Fl × St)) (D : Ends) : Prop := match o with
  | .ok (.nx, st') => ∀ G' σ' H', Rel Y G' st' σ' H' → ES G st σ H G' st' σ' H' → D.nx σ' H'
  | .ok (.bk, st') => ∀ G' σ' H', Rel Y G' st' σ' H' → ES G st σ H G' st' σ' H' → D.bk σ' H'
  | .ok (.ct, st') => ∀ G' σ' H', Rel Y G' st' σ' H' → ES G st σ H G' st' σ' H' → D.ct σ' H'
  | .ok (.rt d fr, st') => ∀ G' H' v, Rel Y G' ⟨[], st'.s⟩ [] H' → ES G st σ H G' ⟨[], st'.s⟩ [] H' → RS Y G st σ H G' ⟨[], st'.s⟩ [] H' d fr v → D.rt v H'
  | .exc c s => ∀ G' σ' H', Rel Y G' ⟨[], s⟩ [] H' → ES G st σ H G' ⟨[], s⟩ [] H' → W (.ref (Y.eA c)) none σ' H'
  | .stuck => False
theorem PostS.on (x : ES G st σ H G1 st1 σ1 H1) {o : Out (Fl × St)} {D : Ends} (h : PostS Y W G st σ H o D) : PostS Y W G1 st1 σ1 H1 o D := by
  cases o with
  | ok r =>
    obtain ⟨f, st'⟩ := r
    cases f with
    | rt d fr => exact fun G' H' v R E r => h G' H' v R (x.trans E) (RS.on x r)
    | _ => exact fun G' σ' H' R E => h G' σ' H' R (x.trans E)
  | exc c s => exact fun G' σ' H' R E => h G' σ' H' R (x.trans E)
  | stuck => exact h
def rS (Y : Wd) (W : WX) (f : St → Out (Fl × St)) : TS := fun D σ H => ∃ G st, Rel Y G st σ H ∧ PostS Y W G st σ H (f st) D
/-! ### from expressions to statements -/
theorem PostE.bindS {o : Out ((D × Bool) × St)} {k : (D × Bool) × St → Out (Fl × St)} {D0 : Ends} (h : PostS Y W G st σ H (o.bind k) D0) :
    PostE Y W G st σ H o fun v H1 => ∃ d fr st1 G1, o = .ok ((d, fr), st1) ∧ Rel Y G1 st1 σ H1 ∧ Ext G st σ H G1 st1 H1 ∧ RR Y G st σ H G1 st1 H1 d fr v ∧ PostS Y W G st σ H (k ((d, fr), st1)) D0 := by
  cases o with
  | ok a => obtain ⟨⟨d, fr⟩, st'⟩ := a; exact fun G' H' v R E r => ⟨d, fr, st', G', rfl, R, E, r, h⟩
  | exc c s =>
    intro G' H' R E
    refine h G' σ H' R ⟨E.lk, E.F, E.al, E.keep, E.there, fun a o => E.own a ?_, E.frz⟩
    obtain ⟨n, z⟩ := owned_nil o
    exact ⟨.cell n, z⟩
  | stuck => exact h
theorem PostT.bindS {o : Out (Bool × St)} {k : Bool × St → Out (Fl × St)} {D0 : Ends} (h : PostS Y W G st σ H (o.bind k) D0) :
    PostT Y W G st σ H o fun b H1 => ∃ st1 G1, o = .ok (b, st1) ∧ Rel Y G1 st1 σ H1 ∧ Ext G st σ H G1 st1 H1 ∧ PostS Y W G1 st1 σ H1 (k (b, st1)) D0 := by
  cases o with
  | ok a => obtain ⟨b, st'⟩ := a; exact fun G' H' R E => ⟨st', G', rfl, R, E, PostS.on E.es h⟩
  | exc c s =>
    intro G' H' R E
    refine h G' σ H' R ⟨E.lk, E.F, E.al, E.keep, E.there, fun a o => E.own a ?_, E.frz⟩
    obtain ⟨n, z⟩ := owned_nil o
    exact ⟨.cell n, z⟩
  | stuck => exact h
/-! ### storing in a slot -/
theorem get_set {i j : Nat} {v : V} {l : L2.St} (h : i < l.length) : (l.set i (some v))[j]? = if j = i then some (some v) else l[j]? := by
  by_cases e : j = i
  · subst e; simp [h]
  · rw [List.getElem?_set_ne (Ne.symm e)]; simp [e]
theorem owns_set {i : Nat} {x : Slot} {v : V} {t : OT} {a : Addr} (hl : st.r.length ≤ σ.length) (h : owns G (setSlot i x st) (σ.set i (some v)) t a) : (t = .slot i ∧ i < st.r.length ∧ (∃ d, x = some (true, d)) ∧ v = .ref a) ∨ (t ≠ .slot i ∧ owns G st σ t a) := by
  cases t with
  | cell n => exact .inr ⟨(fun z => by cases z), h⟩
  | slot j =>
    obtain ⟨d, q, e⟩ := h
    simp only [setSlot, slotAt_set] at q
    by_cases z : j = i
    · subst z
      rw [if_pos rfl] at q
      split at q
      · rename_i hlt
        rw [get_set (by omega), if_pos rfl] at e
        exact .inl ⟨rfl, hlt, ⟨d, q⟩, by simpa using e⟩
      · cases q
    · rw [if_neg z] at q
      rw [List.getElem?_set_ne (Ne.symm z)] at e
      exact .inr ⟨fun y => z (by cases y; rfl), d, q, e⟩
/-- a value is stored: fresh, or frozen -/
theorem Rel.store (R : Rel Y G st σ H) {i : Nat} {b : Bool} {d : D} {v : V} (hf : b = false → RV Y G.F G.al d v) (ht : b = true → ∃ a, v = .ref a ∧ G.F a = none ∧ ¬ Owned G st σ a ∧ CW Y G H a d) : Rel Y G (setSlot i (some (b, d)) st) (σ.set i (some v)) H where
  fzi := R.fzi
  fz := R.fz
  dom := R.dom
  cells := R.cells
  slots := fun j c e q => by
    simp only [setSlot, slotAt_set] at q
    by_cases z : j = i
    · subst z
      rw [if_pos rfl] at q
      split at q
      · rename_i hlt
        simp only [Option.some.injEq, Prod.mk.injEq] at q
        obtain ⟨e1, e2⟩ := q
        subst e1 e2
        have := R.len
        refine ⟨v, by rw [get_set (by omega), if_pos rfl], hf, fun y => ?_⟩
        obtain ⟨a, e, f, _, cw⟩ := ht y
        exact ⟨a, e, f, cw⟩
      · cases q
    · rw [if_neg z] at q
      obtain ⟨u, e1, h1, h2⟩ := R.slots j c e q
      exact ⟨u, by rw [List.getElem?_set_ne (Ne.symm z)]; exact e1, h1, h2⟩
  inj := fun t t' a o o' => by
    rcases owns_set R.len o with ⟨e1, l1, ⟨d1, x1⟩, v1⟩ | ⟨n1, o1⟩
    · rcases owns_set R.len o' with ⟨e2, _, _, _⟩ | ⟨n2, o2⟩
      · rw [e1, e2]
      · cases x1
        obtain ⟨a', ev, _, nO, _⟩ := ht rfl
        rw [v1] at ev
        cases ev
        exact absurd ⟨t', o2⟩ nO
    · rcases owns_set R.len o' with ⟨e2, l2, ⟨d2, x2⟩, v2⟩ | ⟨n2, o2⟩
      · cases x2
        obtain ⟨a', ev, _, nO, _⟩ := ht rfl
        rw [v2] at ev
        cases ev
        exact absurd ⟨t, o1⟩ nO
      · exact R.inj t t' a o1 o2
  len := by simp only [setSlot, setNth_len, List.length_set]; exact R.len
theorem ES.store (hl : st1.r.length ≤ σ.length) (x : Ext G st σ H G1 st1 H1) {i : Nat} {b : Bool} {d : D} {v : V} (ht : b = true → ∃ a, v = .ref a ∧ (H a = none ∨ Owned G st σ a)) : ES G st σ H G1 (setSlot i (some (b, d)) st1) (σ.set i (some v)) H1 where
  lk := x.lk
  F := x.F
  al := x.al
  keep := x.keep
  there := x.there
  own := fun a o => by
    obtain ⟨t, o⟩ := o
    rcases owns_set hl o with ⟨e1, _, ⟨d1, x1⟩, v1⟩ | ⟨n1, o1⟩
    · cases x1
      obtain ⟨a', ev, z⟩ := ht rfl
      rw [v1] at ev
      cases ev
      exact z.symm
    · exact x.own a ⟨t, o1⟩
  frz := x.frz
end
def SS (Y : Wd) (W : WX) (X : Cx) (s : Stmt) (f : St → Out (Fl × St)) : Prop := PS X s (rS Y W f)
def SSs (Y : Wd) (W : WX) (X : Cx) (s : List Stmt) (f : St → Out (Fl × St)) : Prop := PSs X s (rS Y W f)
theorem PS.imp {X : Cx} {s : Stmt} {t t' : TS} (h : PS X s t) (i : ∀ D σ H, t' D σ H → t D σ H) : PS X s t' := ⟨fun pins s σ H D I q => h.run pins s σ H D I (i D σ H q)⟩
theorem PSs.imp {X : Cx} {s : List Stmt} {t t' : TS} (h : PSs X s t) (i : ∀ D σ H, t' D σ H → t D σ H) : PSs X s t' := ⟨fun pins s σ H D I q => h.run pins s σ H D I (i D σ H q)⟩
section
variable {Y : Wd} {W : WX} {X : Cx} {e : Expr} {m : Ex} {I : Info} {pos : Pos} {s : Stmt} {ss : List Stmt} {k : Sm} {ks : List Sm}
theorem ss_nil : SSs Y W X [] (exB I []) := by
  refine PSs.imp pss_nil fun D σ H ⟨G, st, R, p⟩ => ?_
  simp only [exB] at p
  exact p G σ H R .refl
theorem ss_cons (h1 : SS Y W X s (exS I k)) (h2 : SSs Y W X ss (exB I ks)) : SSs Y W X (s :: ss) (exB I (k :: ks)) := by
  refine PSs.imp (pss_cons h1 h2) fun D σ H ⟨G, st, R, p⟩ => ⟨G, st, R, ?_⟩
  simp only [exB] at p
  cases q : exS I k st with
  | ok r =>
    obtain ⟨f, st1⟩ := r
    rw [q] at p
    cases f with
    | nx => exact fun G' σ' H' R' E => ⟨G', st1, R', PostS.on E p⟩
    | _ => exact p
  | exc c s => rw [q] at p; exact p
  | stuck => rw [q] at p; exact p
theorem ss_ret (h : SE Y W X e (ev I m)) : SS Y W X (.Return (some e) pos) (exS I (.ret m)) := by
  refine PS.imp (ps_ret h) fun D σ H ⟨G, st, R, p⟩ => ⟨G, st, R, ?_⟩
  simp only [exS] at p
  refine (PostE.bindS p).mono fun v H1 ⟨d, fr, st1, G1, _, R1, E1, r1, p1⟩ => ?_
  refine p1 G1 H1 v R1.alone ⟨E1.lk, E1.F, E1.al, E1.keep, E1.there, fun a o => E1.own a (owned_cells o), E1.frz⟩ ?_
  unfold RS
  unfold RR at r1
  split
  · rename_i z
    rw [if_pos z] at r1
    obtain ⟨a, e, f, n, c, z⟩ := r1
    exact ⟨a, e, f, fun o => n (owned_cells o), c, z⟩
  · rename_i z
    rw [if_neg z] at r1
    exact r1
theorem ss_ret0 : SS Y W X (.Return none pos) (exS I .ret0) := by
  refine PS.imp ps_retN fun D σ H ⟨G, st, R, p⟩ => ?_
  simp only [exS] at p
  refine p G H .non R.alone ⟨fun _ _ _ h => h, fun _ _ h => h, fun _ _ h => h, fun _ _ h _ _ => h, fun _ h => h, fun a o => .inl (owned_cells o), fun _ h => .inl h⟩ ?_
  unfold RS
  rw [if_neg (by simp)]
  simp only [RV]
theorem ss_expr (h : SE Y W X e (ev I m)) (hs : swapsWith e none pos.line X.env = pure false) : SS Y W X (.Expr e pos) (exS I (.ex m)) := by
  refine PS.imp (ps_expr h hs) fun D σ H ⟨G, st, R, p⟩ => ⟨G, st, R, ?_⟩
  simp only [exS] at p
  refine (PostE.bindS p).mono fun v H1 ⟨d, fr, st1, G1, _, R1, E1, r1, p1⟩ => ?_
  exact p1 G1 σ H1 R1 E1.es
theorem ss_if {c : Expr} {a b : List Stmt} {mc : Ex} {ma mb : List Sm} (hc : SB Y W X c (tst mc (ev I mc))) (ha : SSs Y W X a (exB I ma)) (hb : SSs Y W X b (exB I mb)) : SS Y W X (.If c a b pos) (exS I (.ifs mc ma mb)) := by
  refine PS.imp (ps_if hc ha hb) fun D σ H ⟨G, st, R, p⟩ => ⟨G, st, R, ?_⟩
  simp only [exS] at p
  refine (PostT.bindS p).mono fun b H1 ⟨st1, G1, _, R1, E1, p1⟩ => ?_
  cases b with
  | true => exact ⟨G1, st1, R1, p1⟩
  | false => exact ⟨G1, st1, R1, p1⟩
theorem ss_set {i : Nat} {x : Str} {pos' : Pos} (hN : X.N.Nodup) (hi : X.N[i]? = some x) (hx : Loc X.env.scope x) (h : SE Y W X e (ev I m)) (hs : swapsWith e (some (.Name x pos')) pos.line X.env = pure false) (hf : X.fn x = true ∨ X.env.scope.names.lookup x = some .local) :
    SS Y W X (.Assign [.Name x pos'] e pos) (exS I (.asg (.nm i) m)) := by
  refine PS.imp (ps_set hN hi hx h hs hf) fun D σ H ⟨G, st, R, p⟩ => ⟨G, st, R, ?_⟩
  simp only [exS, asgO] at p
  refine (PostE.bindS p).mono fun v H1 ⟨d, fr, st1, G1, _, R1, E1, r1, p1⟩ => ?_
  unfold RR at r1
  have hl := R1.len
  refine p1 G1 (σ.set i (some v)) H1 ?_ ?_
  · refine R1.store (fun z => ?_) fun z => ?_
    · rw [if_neg (by rw [z]; exact Bool.false_ne_true)] at r1
      exact r1
    · rw [if_pos z] at r1
      obtain ⟨a, e, f, n, c, _⟩ := r1
      exact ⟨a, e, f, n, c⟩
  · refine ES.store hl E1 fun z => ?_
    rw [if_pos z] at r1
    obtain ⟨a, e, f, n, c, y⟩ := r1
    exact ⟨a, e, y⟩
end
end Mi

set_option Elab.async false
set_option linter.all false
set_option maxRecDepth 100000
namespace Mi
open PySem PySem.Spec PyProof.Rows L2
/-! ### a def's body keeps its promise -/
def runF (I : Info) (F : Fn) (ds : List D) (s : Cells) : Out ((D × Bool) × Cells) :=
  if ds.length == F.np then
    (match exB I F.body ⟨ds.map (fun d => some (false, d)) ++ List.replicate (F.ns - F.np) none, s⟩ with
    | .ok (.rt d fr, st) => .ok ((d, fr), st.s)
    | .ok (.nx, st) => .ok ((.non, false), st.s)
    | .ok _ => .stuck
    | .exc c s => .exc c s
    | .stuck => .stuck)
  else .stuck
section
variable {Y : Wd} {G : Gh} {H : Hp}
theorem slotAt_start {ds : List D} {k i : Nat} {b : Bool} {d : D} (h : slotAt i (ds.map (fun d => some (false, d)) ++ List.replicate k none) = some (b, d)) : b = false ∧ ds[i]? = some d := by
  unfold slotAt at h
  by_cases hi : i < ds.length
  · rw [List.getElem?_append_left (by simpa using hi), List.getElem?_map] at h
    cases q : ds[i]? with
    | none => rw [q] at h; simp at h
    | some e => rw [q] at h; simp at h; obtain ⟨h1, h2⟩ := h; subst h1 h2; exact ⟨rfl, rfl⟩
  · rw [List.getElem?_append_right (by simpa using hi)] at h
    simp only [List.getElem?_replicate] at h
    split at h
    · rename_i q
      split at q
      · simp only [Option.some.injEq] at q; rw [← q] at h; cases h
      · cases q
    · cases h
theorem Rel.begin {s : Cells} {N : List Str} {ds : List D} {vs : List V} {k : Nat} (R : Rel Y G ⟨[], s⟩ [] H) (r : RVs Y G.F G.al ds vs) (hk : ds.length + k ≤ N.length) :
    Rel Y G ⟨ds.map (fun d => some (false, d)) ++ List.replicate k none, s⟩ (L2.start N vs) H := by
  have hl := r.length
  have noS : ∀ {i : Nat} {a : Addr}, ¬ owns G ⟨ds.map (fun d => some (false, d)) ++ List.replicate k none, s⟩ (L2.start N vs) (.slot i) a := fun {i a} ⟨d, q, _⟩ => by
    have := (slotAt_start q).1
    cases this
  refine ⟨R.fzi, R.fz, R.dom, R.cells, fun i b d q => ?_, fun t t' a o o' => ?_, ?_⟩
  · obtain ⟨e1, e2⟩ := slotAt_start q
    subst e1
    obtain ⟨v, e3, rv⟩ := r.get e2
    refine ⟨v, ?_, fun _ => rv, fun z => by cases z⟩
    unfold L2.start
    have hi : i < vs.length := (List.getElem?_eq_some_iff.mp e3).1
    rw [List.getElem?_append_left (by simpa using hi), List.getElem?_map, e3]
    rfl
  · cases t with
    | slot i => exact (noS o).elim
    | cell n =>
      cases t' with
      | slot i => exact (noS o').elim
      | cell m => exact R.inj (.cell n) (.cell m) a o o'
  · unfold L2.start
    simp only [List.length_append, List.length_map, List.length_replicate]
    omega
theorem owned_begin {s : Cells} {N : List Str} {ds : List D} {vs : List V} {k : Nat} {a : Addr} (h : Owned G ⟨ds.map (fun d => some (false, d)) ++ List.replicate k none, s⟩ (L2.start N vs) a) : Owned G ⟨[], s⟩ [] a := by
  obtain ⟨t, h⟩ := h
  cases t with
  | slot i =>
    obtain ⟨d, q, _⟩ := h
    have := (slotAt_start q).1
    cases this
  | cell n => exact ⟨.cell n, h⟩
end
theorem fn_ok {Y : Wd} {P : Program} {w : World} {K : PySem.W.Frag} {mg : Str → Option Value} {base : Heap} {x qual : Str} {params : Arguments} {body : List Stmt} {scope : Scope} {f : Addr} {fd : FuncData} {N ps : List Str} {k : Nat} {I : Info} {F : Fn}
    (Fd : FunD K x qual params body scope [] [] f fd) (S : FnScope N ps scope) (hp : F.np = ps.length) (hs : F.np + (F.ns - F.np) ≤ N.length)
    (hbody : ∀ (W : WX) (cdv : Value) (A : Around) (outer : List Env) (s : Shared) (H : Hp) (E : XK), Room k (A.deeper (envOfC qual scope s.heap.objs.size f cdv)) → A.guards = some [] → Takes (cxOf (L2.CX P w) P w K mg base N qual scope f cdv A outer s H E) W →
      SSs Y W (cxOf (L2.CX P w) P w K mg base N qual scope f cdv A outer s H E) body (exB I F.body)) :
    FnG P w K mg base (L2.CX P w) (k + 1) f fd ps (spM Y F.np (runF I F)) := by
  refine fnG_of Fd S (fun vs H Q E h => ?_) fun cdv A outer s H vs Q E hr hG h => ?_
  · obtain ⟨_, _, _, _, _, e, _⟩ := h
    rw [e, hp]
  · obtain ⟨G, c, ds, R, r, hl, p⟩ := h
    have tk : Takes (cxOf (L2.CX P w) P w K mg base N qual scope f cdv A outer s H E) (fun cls d _ H => E cls d H) := takes_of rfl rfl rfl rfl
    refine ⟨_, hbody _ cdv A outer s H E hr hG tk, ?_⟩
    unfold runF at p
    have hl2 := r.length
    rw [if_pos (by rw [hl2, hl]; simp)] at p
    refine ⟨G, _, R.begin (k := F.ns - F.np) r (by omega), ?_⟩
    cases q : exB I F.body ⟨ds.map (fun d => some (false, d)) ++ List.replicate (F.ns - F.np) none, c⟩ with
    | ok a =>
      obtain ⟨fl, st'⟩ := a
      rw [q] at p
      cases fl with
      | nx =>
        intro G' σ' H' R' E'
        refine p G' H' .non R'.alone ⟨E'.lk, E'.F, E'.al, fun a o h n g => E'.keep a o h (fun z => n (owned_begin z)) g, E'.there, fun a o => ?_, fun a h => ?_⟩ ?_
        · exact (E'.own a (owned_cells o)).imp owned_begin id
        · exact (E'.frz a h).imp id (Or.imp id owned_begin)
        · unfold RR
          rw [if_neg (by simp)]
          simp only [RV]
      | rt d fr =>
        intro G' H' v R' E' r'
        refine p G' H' v R' ⟨E'.lk, E'.F, E'.al, fun a o h n g => E'.keep a o h (fun z => n (owned_begin z)) g, E'.there, fun a o => ?_, fun a h => ?_⟩ ?_
        · exact (E'.own a o).imp owned_begin id
        · exact (E'.frz a h).imp id (Or.imp id owned_begin)
        · unfold RS at r'
          unfold RR
          split
          · rename_i z
            rw [if_pos z] at r'
            obtain ⟨a, e, f, n, c, z⟩ := r'
            exact ⟨a, e, f, n, c, z.imp id owned_begin⟩
          · rename_i z
            rw [if_neg z] at r'
            exact r'
      | _ => exact p.elim
    | exc c s =>
      rw [q] at p
      intro G' σ' H' R' E'
      refine p G' H' R' ⟨E'.lk, E'.F, E'.al, fun a o h n g => E'.keep a o h (fun z => n (owned_begin z)) g, E'.there, fun a o => ?_, fun a h => ?_⟩
      · exact (E'.own a o).imp owned_begin id
      · exact (E'.frz a h).imp id (Or.imp id owned_begin)
    | stuck => rw [q] at p; exact p.elim
end Mi

set_option Elab.async false
set_option linter.all false
set_option maxRecDepth 100000
namespace Mi
open PySem PySem.Spec PyProof.Rows L2
section
variable {Y : Wd} {W : WX} {X : Cx} {I : Info} {pos : Pos} {a b c e : Expr} {m ma mb mc : Ex} {G : Gh} {st : St} {σ : L2.St} {H : Hp}
theorem stOf_length_pos (s : List Nat) : (((stOf s).length : Int) != 0) = !s.isEmpty := by
  rw [stOf_len]
  cases s with
  | nil => rfl
  | cons a s =>
    simp only [List.isEmpty_cons, Bool.not_false, List.length_cons]
    exact bne_iff_ne.mpr (by omega)
/-- a value's truth -/
theorem truth_ok (R : Rel Y G st σ H) {d : D} {v : V} (h : VV Y G H d v) {k : Bool} (ht : truth st.s d = some k) : TruV Y.K v H k := by
  cases d with
  | non => simp only [VV] at h; subst h; simp [truth, top] at ht; first | exact ht | exact ht.symm
  | bl b => simp only [VV] at h; subst h; simp [truth, top] at ht; first | exact ht | exact ht.symm
  | int i =>
    simp only [VV] at h; subst h
    simp only [truth, top, Option.some.injEq] at ht
    rw [← ht]
    rfl
  | str s => simp [truth, top] at ht
  | err s => simp [truth, top] at ht
  | scr s => simp [truth, top] at ht
  | tup l =>
    obtain ⟨x, xs, e, t, r⟩ := h
    subst e
    simp only [truth, top, Option.some.injEq] at ht
    rw [← ht]
    refine .inr (.inl ⟨xs, t.sq R, ?_⟩)
    have := r.length
    cases l <;> cases xs <;> simp_all
  | lst l =>
    obtain ⟨x, xs, e, t, r⟩ := h
    subst e
    simp only [truth, top, Option.some.injEq] at ht
    rw [← ht]
    refine .inl ⟨xs, .inl (.inl t), ?_⟩
    have := r.length
    cases l <;> cases xs <;> simp_all
  | dct ks vs => simp [truth, top] at ht
  | obj k ns vs => simp [truth, top] at ht
  | ref n => exact h.elim
/-- an expression that is no operator, as a test -/
def plainT : Expr → Bool
  | .UnaryOp .Not _ _ => false
  | .BoolOp _ _ _ => false
  | .IfExp _ _ _ _ => false
  | .Compare _ _ _ _ => false
  | _ => true
theorem plainT_ok {env : Env} (h : plainT e = true) (whole : Sem Value)   : PySem.isTrue e env whole = (do let v ← whole; standAt e.pos; holding [v] (truthy v)) := by
  unfold PySem.isTrue
  split <;> first | rfl | simp [plainT] at h

theorem tst_plain (ho : SO Y W X e (opd m (ev I m))) (hK : X.K = Y.K) (hp : plainT e = true) : SB Y W X e (tst m (ev I m)) := by
  refine PT.imp (pt_truth ho fun whole => plainT_ok hp whole) fun σ H Q ⟨G, st, R, p⟩ => ⟨G, st, R, ?_⟩
  unfold tst at p
  cases q : opd m (ev I m) st with
  | ok r =>
    obtain ⟨x, st1⟩ := r
    rw [q] at p
    intro G' H' v R' E o
    have p : PostT Y W G st σ H (match rdo st1 x with
      | some d => (Out.of (truth st1.s d)).bind fun b => .ok (b, st1)
      | none => .stuck) Q := p
    cases q1 : rdo st1 x with
    | none => rw [q1] at p; exact p.elim
    | some d =>
      rw [q1] at p
      dsimp only at p
      cases q2 : truth st1.s d with
      | none => rw [q2] at p; exact p.elim
      | some b =>
        rw [q2] at p
        exact ⟨b, by rw [hK]; exact truth_ok R' (VV.ov R' o q1) q2, p G' H' R' E⟩
  | exc c s => rw [q] at p; exact p
  | stuck => rw [q] at p; exact p
/-! ### not, and, or, if -/
theorem not_bool {f : St → Out (Bool × St)} (h : ∀ st, ev I m st = (f st).bind fun (b, st1) => .ok ((.bl b, false), st1)) (hm : ∀ i, m ≠ .pk i) (t : TT) (hT : ∀ σ H Q, rT Y W f σ H Q → t σ H Q) : ∀ σ H Q, rT Y W (tst m (ev I m)) σ H Q → t σ H Q := by
  intro σ H Q ⟨G, st, R, p⟩
  refine hT σ H Q ⟨G, st, R, ?_⟩
  unfold tst at p
  have eo : opd m (ev I m) st = (ev I m st).bind fun ((d, _), st1) => .ok (.val d, st1) := by
    unfold opd
    cases m with
    | pk i => exact absurd rfl (hm i)
    | _ => rfl
  rw [eo, h] at p
  cases q : f st with
  | ok r => obtain ⟨b, st1⟩ := r; rw [q] at p; exact p
  | exc c s => rw [q] at p; exact p
  | stuck => rw [q] at p; exact p
/-- a test as a value, of an expression whose value is a bool -/
theorem sb_not (h : SB Y W X a (tst ma (ev I ma))) : SB Y W X (.UnaryOp .Not a pos) (tst (.not ma) (ev I (.not ma))) := by
  refine PT.imp (pt_not h) (not_bool (f := fun st => (tst ma (ev I ma) st).bind fun (b, st1) => .ok (!b, st1)) (fun st => ?_) (fun i z => by cases z) _ fun σ H Q ⟨G, st, R, p⟩ => ⟨G, st, R, ?_⟩)
  · simp only [ev]
    cases tst ma (ev I ma) st <;> rfl
  · dsimp only at p
    cases q : tst ma (ev I ma) st with
    | ok r => obtain ⟨b, st1⟩ := r; rw [q] at p; exact p
    | exc c s => rw [q] at p; exact p
    | stuck => rw [q] at p; exact p
def SAnd (Y : Wd) (W : WX) (X : Cx) (op : BoolOp) (l : List Expr) (pos : Pos) (f : St → Out (Bool × St)) : Prop := PW X (.BoolOp op l pos) (rT Y W f)
theorem PW.imp {e : Expr} {t t' : TT} (h : PW X e t) (i : ∀ σ H Q, t' σ H Q → t σ H Q) : PW X e t' := ⟨fun wh pins s σ H Q I q => h.run wh pins s σ H Q I (i σ H Q q)⟩
theorem sand_one (h : SB Y W X a (tst ma (ev I ma))) : SAnd Y W X .And [a] pos (evAnd I [ma]) := by
  refine PW.imp (pw_and1 h) fun σ H Q ⟨G, st, R, p⟩ => ⟨G, st, R, ?_⟩
  simp only [evAnd] at p
  cases q : tst ma (ev I ma) st with
  | ok r => obtain ⟨b, st1⟩ := r; rw [q] at p; cases b <;> exact p
  | exc c s => rw [q] at p; exact p
  | stuck => rw [q] at p; exact p
theorem sor_one (h : SB Y W X a (tst ma (ev I ma))) : SAnd Y W X .Or [a] pos (evOr I [ma]) := by
  refine PW.imp (pw_or1 h) fun σ H Q ⟨G, st, R, p⟩ => ⟨G, st, R, ?_⟩
  simp only [evOr] at p
  cases q : tst ma (ev I ma) st with
  | ok r => obtain ⟨b, st1⟩ := r; rw [q] at p; cases b <;> exact p
  | exc c s => rw [q] at p; exact p
  | stuck => rw [q] at p; exact p
theorem PostT.bindT {o : Out (Bool × St)} {k : Bool × St → Out (Bool × St)} {Q : Bool → Hp → Prop} (h : PostT Y W G st σ H (o.bind k) Q) :
    PostT Y W G st σ H o fun b H1 => ∃ st1 G1, o = .ok (b, st1) ∧ Rel Y G1 st1 σ H1 ∧ Ext G st σ H G1 st1 H1 ∧ PostT Y W G1 st1 σ H1 (k (b, st1)) Q := by
  cases o with
  | ok a => obtain ⟨x, st'⟩ := a; exact fun G' H' R E => ⟨st', G', rfl, R, E, PostT.on E h⟩
  | exc c s => exact h
  | stuck => exact h
theorem sand_cons {es : List Expr} {ms : List Ex} (h : SB Y W X a (tst ma (ev I ma))) (hr : SAnd Y W X .And (b :: es) pos (evAnd I ms)) : SAnd Y W X .And (a :: b :: es) pos (evAnd I (ma :: ms)) := by
  refine PW.imp (pw_and h hr) fun σ H Q ⟨G, st, R, p⟩ => ⟨G, st, R, ?_⟩
  simp only [evAnd] at p
  refine (PostT.bindT p).mono fun c H1 ⟨st1, G1, _, R1, E1, p1⟩ => ?_
  cases c with
  | true => exact ⟨G1, st1, R1, p1⟩
  | false => exact p1 G1 H1 R1 .refl
theorem sor_cons {es : List Expr} {ms : List Ex} (h : SB Y W X a (tst ma (ev I ma))) (hr : SAnd Y W X .Or (b :: es) pos (evOr I ms)) : SAnd Y W X .Or (a :: b :: es) pos (evOr I (ma :: ms)) := by
  refine PW.imp (pw_or h hr) fun σ H Q ⟨G, st, R, p⟩ => ⟨G, st, R, ?_⟩
  simp only [evOr] at p
  refine (PostT.bindT p).mono fun c H1 ⟨st1, G1, _, R1, E1, p1⟩ => ?_
  cases c with
  | false => exact ⟨G1, st1, R1, p1⟩
  | true => exact p1 G1 H1 R1 .refl
theorem sb_and {l : List Expr} {ms : List Ex} (h : SAnd Y W X .And l pos (evAnd I ms)) : SB Y W X (.BoolOp .And l pos) (tst (.band ms) (ev I (.band ms))) :=
  PT.imp h.pt (not_bool (f := evAnd I ms) (fun st => by simp only [ev]) (fun i z => by cases z) _ fun σ H Q h => h)
theorem sb_or {l : List Expr} {ms : List Ex} (h : SAnd Y W X .Or l pos (evOr I ms)) : SB Y W X (.BoolOp .Or l pos) (tst (.bor ms) (ev I (.bor ms))) :=
  PT.imp h.pt (not_bool (f := evOr I ms) (fun st => by simp only [ev]) (fun i z => by cases z) _ fun σ H Q h => h)
/-- a if t else b -/
theorem se_ite (hc : SB Y W X c (tst mc (ev I mc))) (ha : SE Y W X a (ev I ma)) (hb : SE Y W X b (ev I mb)) : SE Y W X (.IfExp c a b pos) (ev I (.ite mc ma mb)) := by
  refine PE.imp (pe_ifExp hc ha hb) fun σ H Q ⟨G, st, R, p⟩ => ⟨G, st, R, ?_⟩
  simp only [ev] at p
  refine (PostT.bind p).mono fun t H1 ⟨st1, G1, _, R1, E1, p1⟩ => ?_
  cases t with
  | true => exact ⟨G1, st1, R1, p1⟩
  | false => exact ⟨G1, st1, R1, p1⟩
/-! ### is None -/
theorem isN_ok {d : D} {v : V} (h : VV Y G H d v) : decide (v = .non) = isNonD d := by
  cases d with
  | non => simp only [VV] at h; subst h; rfl
  | bl b => simp only [VV] at h; subst h; rfl
  | int b => simp only [VV] at h; subst h; rfl
  | str b => simp only [VV] at h; rw [h.1]; rfl
  | tup l => obtain ⟨x, xs, e, _⟩ := h; subst e; rfl
  | lst l => obtain ⟨x, xs, e, _⟩ := h; subst e; rfl
  | dct l k => obtain ⟨x, xs, ys, e, _⟩ := h; subst e; rfl
  | obj k n l => obtain ⟨x, dx, xs, e, _⟩ := h; subst e; rfl
  | err k n => obtain ⟨x, e, _⟩ := h; subst e; rfl
  | scr k => obtain ⟨x, e, _⟩ := h; subst e; rfl
  | ref n => exact h.elim
theorem isN_read {bb : Bool} {fa : St → Out (Ov × St)} : ∀ σ H Q, rE Y W (one (kIsN bb) fa) σ H Q → rO Y W fa σ H (fun x H1 => Q (.bl (decide (x = .non) == bb)) H1) := by
  intro σ H Q h
  obtain ⟨G, st, R, p⟩ := one_read σ H Q h
  refine ⟨G, st, R, p.mono fun v H1 ⟨G1, st1, σ1, dx, R1, vv, p1⟩ => ?_⟩
  rw [isN_ok vv]
  exact p1.flat R1 (by simp) (by simp only [RV])
theorem se_isN {j} {p2 : Pos} (h : SO Y W X a (opd ma (ev I ma))) : SE Y W X (.Compare a [.Is] [.Constant .none j p2] pos) (ev I (.isN ma)) := by
  have e : ev I (.isN ma) = one (kIsN true) (opd ma (ev I ma)) := by funext st; simp only [ev]
  rw [SE, e]
  refine PE.imp (pe_cmp (pc_isN h) rfl) fun σ H Q hh => ?_
  have := isN_read σ H Q hh
  simpa [tIsN] using this
theorem se_notN {j} {p2 : Pos} (h : SO Y W X a (opd ma (ev I ma))) : SE Y W X (.Compare a [.IsNot] [.Constant .none j p2] pos) (ev I (.notN ma)) := by
  have e : ev I (.notN ma) = one (kIsN false) (opd ma (ev I ma)) := by funext st; simp only [ev]
  rw [SE, e]
  refine PE.imp (pe_cmp (pc_notN h) rfl) fun σ H Q hh => ?_
  have := isN_read σ H Q hh
  simpa [tNotN] using this
theorem one_bool {k : D → St → Out ((D × Bool) × St)} {fa : St → Out (Ov × St)} (hk : ∀ dx st d fr st', k dx st = .ok ((d, fr), st') → ∃ c, d = .bl c) : ∀ st d fr st', one k fa st = .ok ((d, fr), st') → ∃ c, d = .bl c := by
  intro st d fr st' h
  unfold one at h
  obtain ⟨⟨x, s1⟩, _, h⟩ := bind_ok h
  dsimp only at h
  cases e1 : rdo s1 x with
  | none => rw [e1] at h; cases h
  | some dx => rw [e1] at h; exact hk _ _ _ _ _ h
theorem sb_isN {j} {p2 : Pos} (h : SO Y W X a (opd ma (ev I ma))) : SB Y W X (.Compare a [.Is] [.Constant .none j p2] pos) (tst (.isN ma) (ev I (.isN ma))) := by
  have e : ev I (.isN ma) = one (kIsN true) (opd ma (ev I ma)) := by funext st; simp only [ev]
  rw [SB, e]
  refine PT.imp (pt_cmp (pc_isN h) rfl) fun σ H Q hh => ?_
  have := isN_read σ H _ (tst_bool (fun i z => by cases z) (one_bool fun _ _ _ _ _ h => by cases h; exact ⟨_, rfl⟩) σ H Q hh)
  simpa [tIsN, tB] using this
theorem sb_notN {j} {p2 : Pos} (h : SO Y W X a (opd ma (ev I ma))) : SB Y W X (.Compare a [.IsNot] [.Constant .none j p2] pos) (tst (.notN ma) (ev I (.notN ma))) := by
  have e : ev I (.notN ma) = one (kIsN false) (opd ma (ev I ma)) := by funext st; simp only [ev]
  rw [SB, e]
  refine PT.imp (pt_cmp (pc_notN h) rfl) fun σ H Q hh => ?_
  have := isN_read σ H _ (tst_bool (fun i z => by cases z) (one_bool fun _ _ _ _ _ h => by cases h; exact ⟨_, rfl⟩) σ H Q hh)
  simpa [tNotN, tB] using this
end
end Mi

set_option Elab.async false
set_option linter.all false
set_option maxRecDepth 100000
namespace Mi
open PySem PySem.Spec PyProof.Rows L2
/-! ### what is walked -/
def GS (G0 G : Gh) : Prop := (∀ a o, G0.F a = some o → G.F a = some o) ∧ ∀ n a, G0.al n = some a → G.al n = some a
theorem GS.refl {G : Gh} : GS G G := ⟨fun _ _ h => h, fun _ _ h => h⟩
theorem GS.trans {G G1 G2 : Gh} (a : GS G G1) (b : GS G1 G2) : GS G G2 := ⟨fun x o h => b.1 x o (a.1 x o h), fun n x h => b.2 n x (a.2 n x h)⟩
theorem ES.gs {G G' : Gh} {st st' : St} {σ σ' : L2.St} {H H' : Hp} (x : ES G st σ H G' st' σ' H') : GS G G' := ⟨x.F, x.al⟩
theorem Ext.gs {G G' : Gh} {st st' : St} {σ : L2.St} {H H' : Hp} (x : Ext G st σ H G' st' H') : GS G G' := ⟨x.F, x.al⟩
/-! ### what is lent -/
def CO (Y : Wd) (G : Gh) : HO → D → Prop
  | .lst xs, .lst l => RVs Y G.F G.al l xs
  | .dK kvs, .dct ks vs => RVs Y G.F G.al ks (kvs.map fun p => kV p.1) ∧ RVs Y G.F G.al vs (kvs.map (·.2))
  | .ins C dx fs, .obj c ns vs => C = Y.cA c ∧ fs.map (·.1) = ns.map Y.fld ∧ RVs Y G.F G.al vs (fs.map (·.2))
  | _, _ => False
theorem CW.co {Y : Wd} {G : Gh} {H : Hp} {a : Addr} {d : D} (c : CW Y G H a d) : ∃ o, H a = some o ∧ CO Y G o d := by
  cases d with
  | lst l => obtain ⟨xs, h, r⟩ := c; exact ⟨_, h, r⟩
  | dct ks vs => obtain ⟨kvs, h, r1, r2⟩ := c; exact ⟨_, h, r1, r2⟩
  | obj k ns vs => obtain ⟨dx, fs, h, n, r⟩ := c; exact ⟨_, h, rfl, n, r⟩
  | _ => exact c.elim
theorem CO.cw {Y : Wd} {G : Gh} {H : Hp} {a : Addr} {d : D} {o : HO} (h : H a = some o) (c : CO Y G o d) : CW Y G H a d := by
  cases o with
  | lst xs => cases d with
    | lst l => exact ⟨xs, h, c⟩
    | _ => exact c.elim
  | dK kvs => cases d with
    | dct ks vs => exact ⟨kvs, h, c.1, c.2⟩
    | _ => exact c.elim
  | ins C dx fs => cases d with
    | obj k ns vs => obtain ⟨e, n, r⟩ := c; exact ⟨dx, fs, by rw [h, e], n, r⟩
    | _ => exact c.elim
  | _ => cases d <;> exact c.elim
theorem CO.mono {Y : Wd} {G G' : Gh} (g : GS G G') {o : HO} {d : D} (c : CO Y G o d) : CO Y G' o d := by
  cases o with
  | lst xs => cases d with
    | lst l => exact RVs.mono g.1 g.2 _ _ c
    | _ => exact c.elim
  | dK kvs => cases d with
    | dct ks vs => exact ⟨c.1.mono g.1 g.2, c.2.mono g.1 g.2⟩
    | _ => exact c.elim
  | ins C dx fs => cases d with
    | obj k ns vs => obtain ⟨e, n, r⟩ := c; exact ⟨e, n, r.mono g.1 g.2⟩
    | _ => exact c.elim
  | _ => cases d <;> exact c.elim
abbrev Bor := List (Addr × HO)
inductive LoanOk (Y : Wd) (G : Gh) (σ : L2.St) : List Loan → Bor → Prop
  | nil : LoanOk Y G σ [] []
  | slot {i : Nat} {d : D} {a : Addr} {o : HO} {ls : List Loan} {B : Bor} : σ[i]? = some (some (.ref a)) → CO Y G o d → (∀ p ∈ B, p.1 ≠ a) → LoanOk Y G σ ls B → LoanOk Y G σ (.slot i d :: ls) ((a, o) :: B)
  | lock {a : Addr} {od : Obj} {u : HO} {ls : List Loan} {B : Bor} : LoanOk Y G σ ls B → LoanOk Y G σ ls ((a, .frz od u) :: B)
  | cell {n : Nat} {d : D} {a : Addr} {o : HO} {ls : List Loan} {B : Bor} : G.al n = some a → CO Y G o d → (∀ p ∈ B, p.1 ≠ a) → LoanOk Y G σ ls B → LoanOk Y G σ (.cell n d :: ls) ((a, o) :: B)
def isFrzO : HO → Bool
  | .frz _ _ => true
  | _ => false
def Held (G : Gh) (st : St) (σ : L2.St) (H : Hp) (B : Bor) : Prop := ∀ p ∈ B, H p.1 = some p.2 ∧ (isFrzO p.2 = false → G.F p.1 = none ∧ ¬ Owned G st σ p.1)
theorem Held.nil {G : Gh} {st : St} {σ : L2.St} {H : Hp} : Held G st σ H [] := fun p h => by cases h
theorem Held.es {G G' : Gh} {st st' : St} {σ σ' : L2.St} {H H' : Hp} {B : Bor} (h : Held G st σ H B) (x : ES G st σ H G' st' σ' H') : Held G' st' σ' H' B := fun p hp => by
  obtain ⟨e, h2⟩ := h p hp
  by_cases iz : isFrzO p.2 = true
  · refine ⟨?_, fun z => by rw [iz] at z; cases z⟩
    obtain ⟨b, o⟩ := p
    cases o with
    | frz od u => exact x.lk _ _ _ e
    | _ => cases iz
  obtain ⟨f, n⟩ := h2 (by simpa using iz)
  refine ⟨x.keep _ _ e n f, fun _ => ⟨?_, fun z => (x.own _ z).elim n (fun q => by rw [e] at q; cases q)⟩⟩
  cases q : G'.F p.1 with
  | none => rfl
  | some u =>
    rcases x.frz p.1 (by rw [q]; exact fun z => nomatch z) with z | z | z
    · exact absurd f z
    · rw [e] at z; cases z
    · exact absurd z n
theorem LoanOk.mono {Y : Wd} {G G' : Gh} {σ : L2.St} {ls : List Loan} {B : Bor} (g : GS G G') (h : LoanOk Y G σ ls B) : LoanOk Y G' σ ls B := by
  induction h with
  | nil => exact .nil
  | slot a b c _ ih => exact .slot a (b.mono g) c ih
  | cell a b c _ ih => exact .cell (g.2 _ _ a) (b.mono g) c ih
  | lock _ ih => exact .lock ih
theorem LoanOk.noSlot {Y : Wd} {G : Gh} {σ σ' : L2.St} {ls : List Loan} {B : Bor} (h : LoanOk Y G σ ls B) (hn : ls.any isSlotL = false) : LoanOk Y G σ' ls B := by
  induction h with
  | nil => exact .nil
  | slot a b c _ ih => simp only [List.any_cons, isSlotL, Bool.true_or] at hn; cases hn
  | cell a b c _ ih => simp only [List.any_cons, isSlotL, Bool.false_or] at hn; exact .cell a b c (ih hn)
  | lock _ ih => exact .lock (ih hn)
/-- what is lent comes back -/
theorem Rel.gives {Y : Wd} {G : Gh} {st : St} {σ : L2.St} {H : Hp} (R : Rel Y G st σ H) {ls : List Loan} {B : Bor} (L : LoanOk Y G σ ls B) (hB : Held G st σ H B) :
    Rel Y G (give ls st) σ H ∧ (∀ a, Owned G (give ls st) σ a → Owned G st σ a ∨ ∃ p ∈ B, p.1 = a ∧ isFrzO p.2 = false) := by
  induction L with
  | nil => exact ⟨R, fun a h => .inl h⟩
  | @lock a od u ls B L ih =>
    obtain ⟨R1, ow⟩ := ih fun p hp => hB p (List.mem_cons_of_mem _ hp)
    exact ⟨R1, fun b hb => (ow b hb).imp id fun ⟨p, hp, q⟩ => ⟨p, List.mem_cons_of_mem _ hp, q⟩⟩
  | @slot i d a o ls B hs hc hd L ih =>
    obtain ⟨R1, ow⟩ := ih fun p hp => hB p (List.mem_cons_of_mem _ hp)
    have no : isFrzO o = false := by cases o <;> first | rfl | (cases d <;> exact hc.elim)
    obtain ⟨e, fn⟩ := hB (a, o) (List.mem_cons_self ..)
    obtain ⟨f, n⟩ := fn no
    have nO : ¬ Owned G (give ls st) σ a := fun z => (ow a z).elim n fun ⟨p, hp, q, _⟩ => hd p hp q
    have R2 := R1.store (i := i) (b := true) (d := d) (v := .ref a) (fun z => nomatch z) fun _ => ⟨a, rfl, f, nO, CO.cw e hc⟩
    have es : σ.set i (some (.ref a)) = σ := by
      apply List.ext_getElem?
      intro j
      by_cases z : j = i
      · subst z
        have hl : j < σ.length := (List.getElem?_eq_some_iff.mp hs).1
        rw [List.getElem?_set_self hl, hs]
      · rw [List.getElem?_set_ne (Ne.symm z)]
    rw [es] at R2
    refine ⟨R2, fun b hb => ?_⟩
    obtain ⟨t, hb⟩ := hb
    have hb' : owns G (setSlot i (some (true, d)) (give ls st)) (σ.set i (some (.ref a))) t b := by rw [es]; exact hb
    rcases owns_set R1.len hb' with ⟨_, _, _, ev⟩ | ⟨_, o1⟩
    · cases ev; exact .inr ⟨_, List.mem_cons_self .., rfl, no⟩
    · exact (ow b ⟨t, o1⟩).imp id fun ⟨p, hp, q⟩ => ⟨p, List.mem_cons_of_mem _ hp, q⟩
  | @cell n d a o ls B hs hc hd L ih =>
    obtain ⟨R1, ow⟩ := ih fun p hp => hB p (List.mem_cons_of_mem _ hp)
    have no : isFrzO o = false := by cases o <;> first | rfl | (cases d <;> exact hc.elim)
    obtain ⟨e, fn⟩ := hB (a, o) (List.mem_cons_self ..)
    obtain ⟨f, nn⟩ := fn no
    have nO : ¬ Owned G (give ls st) σ a := fun z => (ow a z).elim nn fun ⟨p, hp, q, _⟩ => hd p hp q
    have key : ∀ {t : OT} {b : Addr}, owns G (setCell n d (give ls st)) σ t b → (t = .cell n ∧ b = a) ∨ (t ≠ .cell n ∧ owns G (give ls st) σ t b) := fun {t b} h => by
      cases t with
      | slot i => exact .inr ⟨(fun z => nomatch z), h⟩
      | cell m =>
        obtain ⟨⟨d', q⟩, al⟩ := h
        by_cases z : m = n
        · subst z; rw [hs] at al; cases al; exact .inl ⟨rfl, rfl⟩
        · refine .inr ⟨fun y => z (by cases y; rfl), ⟨d', ?_⟩, al⟩
          simp only [setCell, setNth_get, if_neg z] at q
          exact q
    refine ⟨⟨R1.fzi, R1.fz, fun m b h => ?_, fun m d' q => ?_, R1.slots, fun t t' b h h' => ?_, R1.len⟩, fun b ⟨t, h⟩ => ?_⟩
    · show m < (setNth n (some d) (give ls st).s).length
      rw [setNth_len]; exact R1.dom m b h
    · have q : (setNth n (some d) (give ls st).s)[m]? = some (some d') := q
      rw [setNth_get] at q
      by_cases z : m = n
      · subst z
        rw [if_pos rfl, if_pos (R1.dom _ _ hs)] at q
        cases q
        exact ⟨a, hs, f, CO.cw e hc⟩
      · rw [if_neg z] at q; exact R1.cells m d' q
    · rcases key h with ⟨e1, e2⟩ | ⟨n1, h1⟩
      · rcases key h' with ⟨e3, e4⟩ | ⟨n2, h2⟩
        · rw [e1, e3]
        · rw [e2] at h2; exact absurd ⟨t', h2⟩ nO
      · rcases key h' with ⟨e3, e4⟩ | ⟨n2, h2⟩
        · rw [e4] at h1; exact absurd ⟨t, h1⟩ nO
        · exact R1.inj t t' b h1 h2
    · rcases key h with ⟨_, e2⟩ | ⟨_, h1⟩
      · exact .inr ⟨_, List.mem_cons_self .., e2.symm, no⟩
      · exact (ow b ⟨t, h1⟩).imp id fun ⟨p, hp, q⟩ => ⟨p, List.mem_cons_of_mem _ hp, q⟩
def FromB (G : Gh) (st : St) (σ : L2.St) (H : Hp) (B : Bor) : Prop := ∀ p ∈ B, isFrzO p.2 = false → Owned G st σ p.1 ∨ H p.1 = none
theorem ES.gives {Y : Wd} {G G' : Gh} {st st' : St} {σ σ' : L2.St} {H H' : Hp} (x : ES G st σ H G' st' σ' H') (R : Rel Y G' st' σ' H') {ls : List Loan} {B : Bor} (L : LoanOk Y G' σ' ls B) (hB : Held G' st' σ' H' B) (hf : FromB G st σ H B) :
    Rel Y G' (give ls st') σ' H' ∧ ES G st σ H G' (give ls st') σ' H' := by
  obtain ⟨R1, ow⟩ := R.gives L hB
  refine ⟨R1, x.lk, x.F, x.al, x.keep, x.there, fun a h => ?_, x.frz⟩
  rcases ow a h with z | ⟨p, hp, z, nz⟩
  · exact x.own a z
  · rw [← z]; exact hf p hp nz
theorem give_nil {ls : List Loan} (hn : ls.any isSlotL = false) {s : Cells} : give ls ⟨[], s⟩ = ⟨[], giveC ls s⟩ := by
  induction ls with
  | nil => rfl
  | cons l ls ih =>
    cases l with
    | slot i d => simp only [List.any_cons, isSlotL, Bool.true_or] at hn; cases hn
    | cell n d =>
      simp only [List.any_cons, isSlotL, Bool.false_or] at hn
      have := ih hn
      simp only [give, give1, giveC, this, setCell]
theorem give_s {ls : List Loan} (hn : ls.any isSlotL = false) {st : St} : (give ls st).s = giveC ls st.s := by
  induction ls with
  | nil => rfl
  | cons l ls ih =>
    cases l with
    | slot i d => simp only [List.any_cons, isSlotL, Bool.true_or] at hn; cases hn
    | cell n d =>
      simp only [List.any_cons, isSlotL, Bool.false_or] at hn
      have := ih hn
      simp only [give, give1, giveC, this, setCell]
/-! ### the walk -/
/-- the turns yield what ds stand for, in each later state -/
structure ItOk (Y : Wd) (J : L2.It) (G0 : Gh) (B : Bor) (ds : List D) : Prop where
  go : ∀ {i : Nat} {G : Gh} {st : St} {σ : L2.St} {H : Hp}, Rel Y G st σ H → GS G0 G → Held G st σ H B → i < ds.length → J.go i H
  stop : ∀ {i : Nat} {G : Gh} {st : St} {σ : L2.St} {H : Hp}, Rel Y G st σ H → GS G0 G → Held G st σ H B → ds.length ≤ i → J.stop i H
  yld : ∀ {i : Nat} {G : Gh} {st : St} {σ : L2.St} {H : Hp} {x : V} {H' : Hp} {d : D}, Rel Y G st σ H → GS G0 G → Held G st σ H B → ds[i]? = some d → J.yld i H x H' → ∃ G', Rel Y G' st σ H' ∧ Ext G st σ H G' st H' ∧ RV Y G'.F G'.al d x
def PostI (Y : Wd) (W : WX) (G : Gh) (st : St) (σ : L2.St) (H : Hp) (o : Out ((List D × List Loan) × St)) (R : L2.It → Hp → Prop) : Prop := match o with
  | .ok ((ds, ls), st') => ∀ G' H' J B, Rel Y G' st' σ H' → Ext G st σ H G' st' H' → LoanOk Y G' σ ls B → Held G' st' σ H' B → FromB G st σ H B → ItOk Y J G' B ds → ds.length ≤ sizeLine → R J H'
  | .exc c s => ∀ G' H', Rel Y G' ⟨[], s⟩ [] H' → Ext G st σ H G' ⟨[], s⟩ H' → W (.ref (Y.eA c)) none σ H'
  | .stuck => False
def rI (Y : Wd) (W : WX) (f : St → Out ((List D × List Loan) × St)) : TI := fun σ H R => ∃ G st, Rel Y G st σ H ∧ PostI Y W G st σ H (f st) R
def SI (Y : Wd) (W : WX) (X : Cx) (tg e : Expr) (f : St → Out ((List D × List Loan) × St)) : Prop := PI X tg e (rI Y W f)
theorem PI.imp {X : Cx} {tg e : Expr} {t t' : TI} (h : PI X tg e t) (i : ∀ σ H R, t' σ H R → t σ H R) : PI X tg e t' := ⟨fun pins s σ H R I q => h.run pins s σ H R I (i σ H R q)⟩
theorem pi_or {X : Cx} {tg e : Expr} {t u : TI} (h : PI X tg e t) (h2 : PI X tg e u) : PI X tg e (fun σ H R => t σ H R ∨ u σ H R) := ⟨fun pins s σ H R I q => q.elim (h.run pins s σ H R I) (h2.run pins s σ H R I)⟩
section
variable {Y : Wd} {G0 : Gh} {ds : List D} {B : Bor}
theorem it_seq {K : PySem.W.Frag} {a : Addr} {xs : List V} (r : RVs Y G0.F G0.al ds xs) (h : G0.F a = some (.lst xs) ∨ (a, .lst xs) ∈ B) : ItOk Y (Itl K a) G0 B ds := by
  have sq : ∀ {G : Gh} {st : St} {σ : L2.St} {H : Hp}, Rel Y G st σ H → GS G0 G → Held G st σ H B → SqL K H a xs := fun R g hB => by
    rcases h with h | h
    · exact .inl (R.fz _ _ (g.1 _ _ h))
    · exact .inl (.inl (hB _ h).1)
  refine ⟨fun {i G st σ H} R g hB hi => ?_, fun {i G st σ H} R g hB hi => ⟨xs, sq R g hB, by rw [← r.length]; exact hi⟩, fun {i G st σ H x H' d} R g hB hi y => ?_⟩
  · have hl := r.length
    exact ⟨xs, xs[i]'(by omega), sq R g hB, List.getElem?_eq_getElem _⟩
  · obtain ⟨e, y⟩ := y
    subst e
    have hx := y xs (sq R g hB)
    obtain ⟨v, hv, rv⟩ := (r.mono g.1 g.2).get hi
    rw [hx] at hv
    cases hv
    exact ⟨G, R, .refl, rv⟩
theorem it_tup {K : PySem.W.Frag} {a : Addr} {xs : List V} (hK : K = Y.K) (r : RVs Y G0.F G0.al ds xs) (h : TupAt Y.K G0.F a xs) : ItOk Y (Itt K a) G0 B ds := by
  have sq : ∀ {G : Gh} {st : St} {σ : L2.St} {H : Hp}, Rel Y G st σ H → GS G0 G → SqT K H a xs := fun R g => by
    rw [hK]
    exact (h.mono g.1).sq R
  refine ⟨fun {i G st σ H} R g _ hi => ?_, fun {i G st σ H} R g _ hi => ⟨xs, sq R g, by rw [← r.length]; exact hi⟩, fun {i G st σ H x H' d} R g _ hi y => ?_⟩
  · have hl := r.length
    exact ⟨xs, xs[i]'(by omega), sq R g, List.getElem?_eq_getElem _⟩
  · obtain ⟨e, y⟩ := y
    subst e
    have hx := y xs (sq R g)
    obtain ⟨v, hv, rv⟩ := (r.mono g.1 g.2).get hi
    rw [hx] at hv
    cases hv
    exact ⟨G, R, .refl, rv⟩
theorem rangeD_len : ∀ (n : Nat) (lo : Int), (rangeD lo n).length = n
  | 0, _ => rfl
  | n + 1, lo => by simp [rangeD, rangeD_len n]
theorem rangeD_get : ∀ (n : Nat) (lo : Int) (i : Nat), i < n → (rangeD lo n)[i]? = some (.int (lo + i))
  | n + 1, lo, 0, _ => by simp [rangeD]
  | n + 1, lo, i + 1, h => by
    simp only [rangeD, List.getElem?_cons_succ]
    rw [rangeD_get n (lo + 1) i (by omega)]
    congr 2
    omega
theorem it_rng {lo : Int} {n : Nat} : ItOk Y (Itr lo n) G0 B (rangeD lo n) where
  go := fun _ _ _ h => by rw [rangeD_len] at h; exact h
  stop := fun _ _ _ h => by rw [rangeD_len] at h; exact h
  yld := fun {i G st σ H x H' d} R g _ hi y => by
    obtain ⟨e, y⟩ := y
    subst e y
    have hl : i < n := by
      have := (List.getElem?_eq_some_iff.mp hi).1
      rwa [rangeD_len] at this
    rw [rangeD_get n lo i hl] at hi
    cases hi
    exact ⟨G, R, .refl, by simp only [RV]⟩
end
/-! ### targets -/
/-- the slots not of the list stay -/
def Same (vs : List Nat) (σ σ' : L2.St) : Prop := σ'.length = σ.length ∧ ∀ j, j ∉ vs → σ'[j]? = σ[j]?
theorem Same.refl {vs : List Nat} {σ : L2.St} : Same vs σ σ := ⟨rfl, fun _ _ => rfl⟩
theorem Same.trans {vs ws : List Nat} {σ σ1 σ2 : L2.St} (a : Same vs σ σ1) (b : Same ws σ1 σ2) : Same (vs ++ ws) σ σ2 :=
  ⟨b.1.trans a.1, fun j h => by
    rw [b.2 j (fun z => h (List.mem_append.mpr (.inr z))), a.2 j (fun z => h (List.mem_append.mpr (.inl z)))]⟩
def PostG (Y : Wd) (vs : List Nat) (G : Gh) (st : St) (σ : L2.St) (H : Hp) (o : Option St) (Q : L2.St → Hp → Prop) : Prop := match o with
  | some st' => ∀ G' σ' H', Rel Y G' st' σ' H' → ES G st σ H G' st' σ' H' → Same vs σ σ' → Q σ' H'
  | none => False
def rG (Y : Wd) (t : Tg) : TG := fun v σ H Q => ∃ G st d, Rel Y G st σ H ∧ RV Y G.F G.al d v ∧ PostG Y (Tg.own t) G st σ H (asgT t d st) Q
def rGs (Y : Wd) (ts : List Tg) : TGs := fun vs σ H Q => ∃ G st ds, Rel Y G st σ H ∧ RVs Y G.F G.al ds vs ∧ PostG Y (Tg.owns ts) G st σ H (asgTs ts ds st) Q
def SG (Y : Wd) (X : Cx) (tg : Expr) (t : Tg) : Prop := PG X tg (rG Y t)
def SGs (Y : Wd) (X : Cx) (tg : List Expr) (ts : List Tg) : Prop := PGs X tg (rGs Y ts)
theorem PG.imp {X : Cx} {e : Expr} {t t' : TG} (h : PG X e t) (i : ∀ v σ H Q, t' v σ H Q → t v σ H Q) : PG X e t' := ⟨fun pins s σ H v u Q I r q => h.run pins s σ H v u Q I r (i v σ H Q q)⟩
theorem PGs.imp {X : Cx} {e : List Expr} {t t' : TGs} (h : PGs X e t) (i : ∀ v σ H Q, t' v σ H Q → t v σ H Q) : PGs X e t' := ⟨fun pins s σ H v u Q I r q => h.run pins s σ H v u Q I r (i v σ H Q q)⟩
theorem pg_or {X : Cx} {e : Expr} {t u : TG} (h : PG X e t) (h2 : PG X e u) : PG X e (fun v σ H Q => t v σ H Q ∨ u v σ H Q) := ⟨fun pins s σ H v w Q I r q => q.elim (h.run pins s σ H v w Q I r) (h2.run pins s σ H v w Q I r)⟩
section
variable {Y : Wd} {W : WX} {X : Cx} {I : Info} {pos : Pos} {e : Expr}
theorem sg_nm {i : Nat} {x : Str} (hN : X.N.Nodup) (hi : X.N[i]? = some x) (hx : Loc X.env.scope x) (hf : X.fn x = true ∨ X.env.scope.names.lookup x = some .local) : SG Y X (.Name x pos) (.nm i) := by
  refine PG.imp (pg_name hN hi hx hf) fun v σ H Q ⟨G, st, d, R, r, p⟩ => ?_
  simp only [asgT] at p
  refine p G (σ.set i (some v)) H (R.store (fun _ => r) (fun z => nomatch z)) (ES.store R.len .refl (fun z => nomatch z)) ⟨by simp, fun j hj => ?_⟩
  exact List.getElem?_set_ne (fun z => hj (by simp [Tg.own, z]))
theorem sgs_nil : SGs Y X [] [] := by
  refine PGs.imp pgs_nil fun vs σ H Q ⟨G, st, ds, R, r, p⟩ => ?_
  cases ds with
  | nil => simp only [RVs] at r; simp only [asgTs] at p; exact ⟨r, p G σ H R .refl .refl⟩
  | cons d ds => simp only [asgTs] at p; exact p.elim
theorem sgs_cons {es : List Expr} {t : Tg} {ts : List Tg} (h1 : SG Y X e t) (h2 : SGs Y X es ts) (hs : (assignEach (e :: es) X.env).map (·.2) = assign e X.env :: (assignEach es X.env).map (·.2)) : SGs Y X (e :: es) (t :: ts) := by
  refine PGs.imp (pgs_cons h1 h2 hs) fun vs σ H Q ⟨G, st, ds, R, r, p⟩ => ?_
  cases ds with
  | nil => simp only [asgTs] at p; exact p.elim
  | cons d ds =>
    simp only [RVs] at r
    obtain ⟨x, xs, ev, r1, r2⟩ := r
    simp only [asgTs] at p
    refine ⟨x, xs, ev, G, st, d, R, r1, ?_⟩
    cases q : asgT t d st with
    | none => rw [q] at p; exact p.elim
    | some st' =>
      rw [q] at p
      intro G' σ' H' R' E' S'
      refine ⟨G', st', ds, R', r2.mono E'.F E'.al, ?_⟩
      dsimp only at p
      cases q2 : asgTs ts ds st' with
      | none => rw [q2] at p; exact p.elim
      | some st2 =>
        rw [q2] at p
        intro G2 σ2 H2 R2 E2 S2
        refine p G2 σ2 H2 R2 (E'.trans E2) ?_
        simp only [Tg.owns]
        exact S'.trans S2
theorem sg_tp {es : List Expr} {ts : List Tg} {k : Nat} (hK : X.K = Y.K) (hc : X.calm = true) (h : SGs Y X es ts) (hn : (assignEach es X.env).length = ts.length) (hst : (assignEach es X.env).findIdx? (·.1) = none) : SG Y X (.Tuple es k pos) (.tp ts) := by
  have lenTs : ∀ (ts : List Tg) (ds : List D) (st st' : St), asgTs ts ds st = some st' → ds.length = ts.length := by
    intro ts
    induction ts with
    | nil => intro ds st st' h; cases ds with
      | nil => rfl
      | cons d ds => simp [asgTs] at h
    | cons t ts ih => intro ds st st' h; cases ds with
      | nil => simp [asgTs] at h
      | cons d ds =>
        simp only [asgTs] at h
        split at h
        · simp [ih _ _ _ h]
        · cases h
  refine PG.imp (pg_or (pg_tup hc h hn hst) (pg_lst hc h hn hst)) fun v σ H Q ⟨G, st, d, R, r, p⟩ => ?_
  simp only [asgT] at p
  have key : ∀ {l : List D} {xs : List V}, RVs Y G.F G.al l xs → PostG Y (Tg.own (.tp ts)) G st σ H (asgTs ts l st) Q → xs.length = ts.length ∧ rGs Y ts xs σ H Q := fun {l xs} rs p => by
    cases q : asgTs ts l st with
    | none => rw [q] at p; exact p.elim
    | some st' =>
      refine ⟨by rw [← rs.length, lenTs _ _ _ _ q], G, st, l, R, rs, ?_⟩
      rw [q] at p ⊢
      simpa only [Tg.own] using p
  cases d with
  | tup l =>
    simp only [RV] at r
    obtain ⟨a, xs, ev, t, rs⟩ := r
    obtain ⟨k1, k2⟩ := key rs p
    exact .inl ⟨a, xs, ev, by rw [hK]; exact t.sq R, k1, k2⟩
  | lst l =>
    simp only [RV] at r
    obtain ⟨a, xs, ev, t, rs⟩ := r
    obtain ⟨k1, k2⟩ := key rs p
    exact .inr ⟨a, xs, ev, .inl (t.sq R), k1, k2⟩
  | _ => exact p.elim
/-- target = value, no plain name -/
theorem ss_asg {tg : Expr} {t : Tg} {m : Ex} (he : SE Y W X e (ev I m)) (hg : SG Y X tg t) (hnm : ∀ i, t ≠ .nm i) (hs : swapsWithSole [tg] e pos.line X.env = pure false) (hw : swappedStores [tg] e X.env = pure none)
    (h1 : (assignEach [tg] X.env).map (·.2) = [assign tg X.env]) : SS Y W X (.Assign [tg] e pos) (exS I (.asg t m)) := by
  refine PS.imp (ps_asg he hg hs hw h1) fun D0 σ H ⟨G, st, R, p⟩ => ⟨G, st, R, ?_⟩
  simp only [exS] at p
  cases q : ev I m st with
  | stuck => rw [q] at p; exact p
  | exc c s =>
    rw [q] at p
    intro G' H' R' E'
    refine p G' σ H' R' ⟨E'.lk, E'.F, E'.al, E'.keep, E'.there, fun a o => E'.own a ?_, E'.frz⟩
    obtain ⟨n, z⟩ := owned_nil o
    exact ⟨.cell n, z⟩
  | ok r =>
    obtain ⟨⟨d, fr⟩, st1⟩ := r
    rw [q] at p
    intro G' H' v R' E' r'
    obtain ⟨G2, R2, E2, rv⟩ := RR.shut R' E' r'
    refine ⟨G2, st1, d, R2, rv, ?_⟩
    have p : PostS Y W G st σ H ((Out.of (asgO t d fr st1)).bind fun st2 => .ok (.nx, st2)) D0 := p
    have eo : asgO t d fr st1 = asgT t d st1 := by
      unfold asgO
      cases t with
      | nm i => exact absurd rfl (hnm i)
      | _ => rfl
    rw [eo] at p
    cases q2 : asgT t d st1 with
    | none => rw [q2] at p; exact p.elim
    | some st2 =>
      rw [q2] at p
      exact fun G3 σ3 H3 R3 E3 _ => p G3 σ3 H3 R3 (E2.es.trans E3)
/-! ### for -/
theorem ss_for {tg iter : Expr} {t : Tg} {src : Src} {body : List Stmt} {mb : List Sm} (hp : PassesOwn (model X.prog X.w) X.A X.env X.xe) (hc : X.calm = true) (hi : SI Y W X tg iter (evsrc I src)) (hg : SG Y X tg t) (hb : SSs Y W X body (exB I mb))
    (hs : ∀ x, foldedSetIterable iter X.env x = pure x) : SS Y W X (.For tg iter body [] pos) (exS I (.for_ t src mb)) := by
  refine PS.imp (ps_for hp hc hi hg hb hs) fun D0 σ H ⟨G, st, R, p⟩ => ⟨G, st, R, ?_⟩
  simp only [exS] at p
  cases q : evsrc I src st with
  | stuck => rw [q] at p; exact p
  | exc c s =>
    rw [q] at p
    intro G' H' R' E'
    refine p G' σ H' R' ⟨E'.lk, E'.F, E'.al, E'.keep, E'.there, fun a o => E'.own a ?_, E'.frz⟩
    obtain ⟨n, z⟩ := owned_nil o
    exact ⟨.cell n, z⟩
  | ok r =>
    obtain ⟨⟨ds, ls⟩, st1⟩ := r
    rw [q] at p
    intro G1 H1 J B R1 E1 LO hB fB K _
    have p : PostS Y W G st σ H (match ls.any isSlotL with
      | true => .stuck
      | false => giveO ls (forGo (fun (d : D) (st : St) => match asgT t d st with
        | some st' => exB I mb st'
        | none => Out.stuck) ds st1)) D0 := p
    cases hn : ls.any isSlotL with
    | true => rw [hn] at p; exact p.elim
    | false =>
    rw [hn] at p
    dsimp only at p
    generalize hf : (fun (d : D) (st : St) => match asgT t d st with
      | some st' => exB I mb st'
      | none => Out.stuck) = f at p
    refine ⟨fun i m σ' H' => m = ds.length - i ∧ i ≤ ds.length ∧ ∃ G' st', Rel Y G' st' σ' H' ∧ GS G1 G' ∧ Held G' st' σ' H' B ∧ ES G st σ H G' st' σ' H' ∧ PostS Y W G st σ H (giveO ls (forGo f (ds.drop i) st')) D0, ⟨_, rfl, Nat.zero_le _, G1, st1, R1, .refl, hB, E1.es, p⟩, ?_⟩
    rintro i m σ' H' ⟨rfl, hi, G', st', R', g', hB', ES', p'⟩
    by_cases hlt : i < ds.length
    · refine .inr ⟨K.go R' g' hB' hlt, _, fun σ2 H2 n => ⟨ds.length - (i + 1), by omega, n⟩, fun x H2 y => ?_⟩
      have hd : ds[i]? = some ds[i] := List.getElem?_eq_getElem hlt
      obtain ⟨G2, R2, E2, rv⟩ := K.yld R' g' hB' hd y
      have ES2 := ES'.trans E2.es
      have hB2 := hB'.es E2.es
      have p2 := p'
      rw [List.drop_eq_getElem_cons hlt] at p2
      simp only [forGo] at p2
      refine ⟨G2, st', _, R2, rv, ?_⟩
      have ef : f ds[i] st' = match asgT t ds[i] st' with
        | some st' => exB I mb st'
        | none => Out.stuck := by rw [← hf]
      rw [ef] at p2
      cases q1 : asgT t ds[i] st' with
      | none => rw [q1] at p2; exact p2.elim
      | some st3 =>
        rw [q1] at p2
        intro G3 σ3 H3 R3 E3 _
        refine ⟨G3, st3, R3, ?_⟩
        have ES3 := ES2.trans E3
        have hB3 := hB2.es E3
        have g3 : GS G1 G3 := g'.trans (E2.gs.trans E3.gs)
        dsimp only at p2
        cases q2 : exB I mb st3 with
        | stuck => rw [q2] at p2; exact p2.elim
        | exc c s =>
          rw [q2] at p2
          intro G4 σ4 H4 R4 E4
          have x := (ES3.trans E4).gives R4 ((LO.mono (g3.trans E4.gs)).noSlot hn) (hB3.es E4) fB
          rw [give_nil hn] at x
          exact p2 G4 σ4 H4 x.1 x.2
        | ok r =>
          obtain ⟨fl, st4⟩ := r
          rw [q2] at p2
          cases fl with
          | nx => exact fun G4 σ4 H4 R4 E4 => ⟨rfl, hlt, G4, st4, R4, g3.trans E4.gs, hB3.es E4, ES3.trans E4, p2⟩
          | ct => exact fun G4 σ4 H4 R4 E4 => ⟨rfl, hlt, G4, st4, R4, g3.trans E4.gs, hB3.es E4, ES3.trans E4, p2⟩
          | bk =>
            intro G4 σ4 H4 R4 E4
            have x := (ES3.trans E4).gives R4 ((LO.mono (g3.trans E4.gs)).noSlot hn) (hB3.es E4) fB
            exact p2 G4 σ4 H4 x.1 x.2
          | rt d fr =>
            intro G4 H4 v R4 E4 r4
            have x := (ES3.trans E4).gives R4 ((LO.mono (g3.trans E4.gs)).noSlot hn) (hB3.es E4) fB
            have ow := (R4.gives ((LO.mono (g3.trans E4.gs)).noSlot hn) (hB3.es E4)).2
            rw [give_nil hn] at x ow
            have gs := give_s hn (st := st4)
            have p3 : ∀ G' H' v, Rel Y G' ⟨[], (give ls st4).s⟩ [] H' → ES G st σ H G' ⟨[], (give ls st4).s⟩ [] H' → RS Y G st σ H G' ⟨[], (give ls st4).s⟩ [] H' d fr v → D0.rt v H' := p2
            rw [gs] at p3
            refine p3 G4 H4 v x.1 x.2 ?_
            have r5 := RS.on ES3 r4
            unfold RS at r4 r5 ⊢
            split
            · rename_i z
              rw [if_pos z] at r4 r5
              obtain ⟨a, e, fz, n, c, y⟩ := r5
              obtain ⟨a', e', _, _, _, y'⟩ := r4
              rw [e] at e'
              cases e'
              refine ⟨a, e, fz, fun o => (ow a o).elim n fun ⟨p, hp, z, nz⟩ => ?_, c, y⟩
              obtain ⟨k3, kk⟩ := hB3 p hp
              obtain ⟨_, k2⟩ := kk nz
              rw [z] at k2 k3
              rcases y' with y' | y'
              · rw [k3] at y'; cases y'
              · exact k2 y'
            · rename_i z
              rw [if_neg z] at r4
              exact r4
    · have e : i = ds.length := by omega
      subst e
      refine .inl ⟨K.stop R' g' hB' (Nat.le_refl _), ?_⟩
      rw [List.drop_length] at p'
      simp only [forGo] at p'
      have x := ES'.gives R' ((LO.mono g').noSlot hn) hB' fB
      exact p' G' σ' H' x.1 x.2
/-! ### while -/
theorem ss_whl {c : Expr} {mc : Ex} {body : List Stmt} {mb : List Sm} (hp : PassesOwn (model X.prog X.w) X.A X.env X.xe) (hc : SB Y W X c (tst mc (ev I mc))) (hb : SSs Y W X body (exB I mb)) : SS Y W X (.While c body [] pos) (exS I (.whl mc mb)) := by
  refine PS.imp (ps_while hp hc hb) fun D σ H ⟨G, st, R, p⟩ => ?_
  simp only [exS] at p
  refine ⟨fun m σ' H' => ∃ G' st', Rel Y G' st' σ' H' ∧ PostS Y W G' st' σ' H' (whlGo (fun st => tst mc (ev I mc) st) (fun st => exB I mb st) m st') D, ⟨_, G, st, R, p⟩, ?_⟩
  rintro m σ' H' ⟨G', st', R', p'⟩
  cases m with
  | zero => simp only [whlGo] at p'; exact p'.elim
  | succ m =>
    simp only [whlGo] at p'
    refine ⟨G', st', R', ?_⟩
    cases q : tst mc (ev I mc) st' with
    | stuck => rw [q] at p'; exact p'
    | exc c s =>
      rw [q] at p'
      intro G2 H2 R2 E2
      refine p' G2 σ' H2 R2 ⟨E2.lk, E2.F, E2.al, E2.keep, E2.there, fun a o => E2.own a ?_, E2.frz⟩
      obtain ⟨n, z⟩ := owned_nil o
      exact ⟨.cell n, z⟩
    | ok r =>
      obtain ⟨b, st1⟩ := r
      rw [q] at p'
      intro G2 H2 R2 E2
      cases b with
      | false => rw [if_neg Bool.false_ne_true]; exact p' G2 σ' H2 R2 E2.es
      | true =>
        rw [if_pos rfl]
        refine ⟨_, fun σ3 H3 n => ⟨m, Nat.lt_succ_self _, n⟩, G2, st1, R2, ?_⟩
        have p3 := PostS.on E2.es p'
        dsimp only at p3
        cases q2 : exB I mb st1 with
        | stuck => rw [q2] at p3; exact p3
        | exc c s => rw [q2] at p3; exact p3
        | ok r =>
          obtain ⟨fl, st4⟩ := r
          rw [q2] at p3
          cases fl with
          | nx => exact fun G4 σ4 H4 R4 E4 => ⟨G4, st4, R4, PostS.on E4 p3⟩
          | ct => exact fun G4 σ4 H4 R4 E4 => ⟨G4, st4, R4, PostS.on E4 p3⟩
          | bk => exact p3
          | rt d fr => exact p3
end
end Mi

set_option Elab.async false
set_option linter.all false
set_option maxRecDepth 100000
namespace Mi
open PySem PySem.Spec PyProof.Rows L2
/-! ### sizes and locks of what stands -/
def Sz (K : PySem.W.Frag) (H : Hp) : Prop := (∀ a xs, SqL K H a xs → xs.length ≤ sizeLine) ∧ (∀ a xs, SqT K H a xs → xs.length ≤ sizeLine) ∧ ∀ a kvs, Rd H a (.dK kvs) → kvs.length ≤ sizeLine
section
variable {X : Cx} {e : Expr} {t : TE} {es : List Expr} {ta : TA}
theorem inv_szs {pins : List (Addr × Obj)} {σ : L2.St} {H : Hp} {s : Shared} (I : Inv X pins σ H s) : Sz X.K H :=
  ⟨fun a xs h => (I.list h).elim fun _ z => z.2.2, fun a xs h => (I.tuple h).elim fun _ z => z.2.2, fun a kvs h => (h.ok I.hok).1⟩
theorem pe_sz (h : PE X e t) : PE X e (fun σ H Q => t σ H fun x H1 => Sz X.K H1 → Q x H1) := by
  refine ⟨fun pins s σ H Q I q => thn (h.run pins s σ H _ I q) fun v s1 ⟨x, H1, I1, r, z⟩ => ⟨x, H1, I1, r, z (inv_szs I1)⟩⟩
theorem pa_sz (h : PA X es ta) : PA X es (fun σ H Q => ta σ H fun x H1 => Sz X.K H1 → Q x H1) := by
  refine ⟨fun pos pins s σ H Q I q => thn (h.run pos pins s σ H _ I q) fun v s1 ⟨x, H1, I1, r, z⟩ => ⟨x, H1, I1, r, z (inv_szs I1)⟩⟩
theorem pe_lockD (h : PE X e t) : PE X e (fun σ H Q => t σ H fun x H1 => Q x H1 ∨ ∃ d u, H1 d = some u ∧ Mut (some u) ∧ ∀ od, Q x (upd H1 d (.frz od u))) := by
  refine ⟨fun pins s σ H Q I q => thn (h.run pins s σ H _ I q) fun v s1 ⟨x, H1, I1, r, z⟩ => ?_⟩
  rcases z with z | ⟨d, u, hd, mu, z⟩
  · exact ⟨x, H1, I1, r, z⟩
  · obtain ⟨od, I2⟩ := I1.lock hd mu
    exact ⟨x, _, I2, r, z od⟩
end
/-! ### a value, walked -/
section
variable {Y : Wd} {G : Gh} {st st' : St} {σ : L2.St} {H : Hp} {d : D} {v : V} {ds : List D} {ls : List Loan}
def WalkOk (Y : Wd) (G : Gh) (st : St) (σ : L2.St) (H : Hp) (J : L2.It) (ds : List D) (ls : List Loan) (st' : St) (H' : Hp) : Prop :=
  ∃ B, Rel Y G st' σ H' ∧ Ext G st σ H G st' H' ∧ LoanOk Y G σ ls B ∧ Held G st' σ H' B ∧ (∀ p ∈ B, isFrzO p.2 = false → Owned G st σ p.1) ∧ ItOk Y J G B ds
theorem Rel.lock (R : Rel Y G st σ H) {a : Addr} {u : HO} (hF : G.F a = some u) (hH : H a = some u) (hu : isFrzO u = false) (hk : isDkO u = true) (od : Obj) : Rel Y G st σ (upd H a (.frz od u)) ∧ Ext G st σ H G st (upd H a (.frz od u)) := by
  have ne : ∀ b, G.F b = none → b ≠ a := fun b h z => by rw [z, hF] at h; cases h
  have mv : ∀ {b : Addr} {d : D}, G.F b = none → CW Y G H b d → CW Y G (upd H a (.frz od u)) b d := fun {b d} f c => c.mono (fun _ _ h => h) (fun _ _ h => h) fun o h => by rw [upd_ne (ne b f)]; exact h
  refine ⟨⟨fun b o h i => ?_, fun b o h => ?_, R.dom, fun n d h => ?_, fun i b d h => ?_, R.inj, R.len⟩, ⟨fun b od' u' h => ?_, fun _ _ h => h, fun _ _ h => h, fun b o h _ f => ?_, fun b h => ?_, fun _ h => .inl h, fun _ h => .inl h⟩⟩
  · have z : b ≠ a := fun z => by rw [z, hF] at h; cases h; rw [hk] at i; cases i
    rw [upd_ne z]; exact R.fzi b o h i
  · by_cases z : b = a
    · subst z; rw [hF] at h; cases h; exact .inr ⟨od, upd_same⟩
    · rcases R.fz b o h with q | ⟨o', q⟩
      · exact .inl (by rw [upd_ne z]; exact q)
      · exact .inr ⟨o', by rw [upd_ne z]; exact q⟩
  · obtain ⟨b, e, f, c⟩ := R.cells n d h
    exact ⟨b, e, f, mv f c⟩
  · obtain ⟨v, e, h1, h2⟩ := R.slots i b d h
    refine ⟨v, e, h1, fun z => ?_⟩
    obtain ⟨x, e2, f, c⟩ := h2 z
    exact ⟨x, e2, f, mv f c⟩
  · by_cases z : b = a
    · subst z; rw [hH] at h; cases h; cases hu
    · rw [upd_ne z]; exact h
  · rw [upd_ne (ne b f)]; exact h
  · by_cases z : b = a
    · subst z; rw [upd_same]; exact fun q => nomatch q
    · rw [upd_ne z]; exact h
theorem WalkOk.plain {J : L2.It} (R : Rel Y G st σ H) (k : ItOk Y J G [] ds) : WalkOk Y G st σ H J ds [] st H := ⟨[], R, .refl, .nil, .nil, (fun p h => by cases h), k⟩
/-- a list -/
theorem walk_lst (R : Rel Y G st σ H) {l : List D} (rv : RV Y G.F G.al (.lst l) v) (h : lend (.lst l) st = some ((ds, ls), st')) : ∃ a xs, v = .ref a ∧ SqL Y.K H a xs ∧ xs.length = ds.length ∧ WalkOk Y G st σ H (Itl Y.K a) ds ls st' H := by
  simp only [lend, overD, items, Option.map_some, Option.some.injEq, Prod.mk.injEq] at h
  obtain ⟨⟨rfl, rfl⟩, rfl⟩ := h
  simp only [RV] at rv
  obtain ⟨a, xs, e, t, r⟩ := rv
  exact ⟨a, xs, e, .inl (t.sq R), r.length.symm, .plain R (it_seq r (.inl t))⟩
/-- a cell's list -/
theorem walk_ref (R : Rel Y G st σ H) {n : Nat} (rv : RV Y G.F G.al (.ref n) v) (h : lend (.ref n) st = some ((ds, ls), st')) : ∃ a xs, v = .ref a ∧ SqL Y.K H a xs ∧ xs.length = ds.length ∧ WalkOk Y G st σ H (Itl Y.K a) ds ls st' H := by
  simp only [lend] at h
  split at h
  · rename_i l q
    simp only [Option.some.injEq, Prod.mk.injEq] at h
    obtain ⟨⟨rfl, rfl⟩, rfl⟩ := h
    simp only [RV] at rv
    obtain ⟨a, e, al⟩ := rv
    obtain ⟨b, al2, f, c⟩ := R.cells n _ q
    rw [al] at al2
    cases al2
    obtain ⟨xs, hx, r⟩ := c
    have ow : owns G st σ (.cell n) a := ⟨⟨_, q⟩, al⟩
    have sub : ∀ {t : OT} {b : Addr}, owns G ⟨st.r, setNth n none st.s⟩ σ t b → owns G st σ t b ∧ t ≠ .cell n := fun {t b} o => by
      cases t with
      | slot i => exact ⟨o, fun z => nomatch z⟩
      | cell m =>
        obtain ⟨⟨d, q⟩, al⟩ := o
        rw [setNth_get] at q
        by_cases z : m = n
        · rw [if_pos z] at q; split at q <;> cases q
        · rw [if_neg z] at q; exact ⟨⟨⟨d, q⟩, al⟩, fun y => z (by cases y; rfl)⟩
    have R2 : Rel Y G ⟨st.r, setNth n none st.s⟩ σ H := ⟨R.fzi, R.fz, fun m b h => by rw [setNth_len]; exact R.dom m b h, fun m d q => by
      rw [setNth_get] at q
      by_cases z : m = n
      · rw [if_pos z] at q; split at q <;> cases q
      · rw [if_neg z] at q; exact R.cells m d q, R.slots, fun t t' b h h' => R.inj t t' b (sub h).1 (sub h').1, R.len⟩
    refine ⟨a, xs, e, .inl (.inl hx), r.length.symm, [(a, .lst xs)], R2, ⟨fun _ _ _ h => h, fun _ _ h => h, fun _ _ h => h, fun _ _ h _ _ => h, fun _ h => h, fun b ⟨t, o⟩ => .inl ⟨t, (sub o).1⟩, fun _ h => .inl h⟩, .cell al r (fun p hp => by cases hp) .nil, fun p hp => ?_, fun p hp _ => ?_, it_seq r (.inr (List.mem_singleton.mpr rfl))⟩
    · cases List.mem_singleton.mp hp
      refine ⟨hx, fun _ => ⟨f, fun ⟨t, o⟩ => ?_⟩⟩
      obtain ⟨o1, o2⟩ := sub o
      exact o2 (R.inj _ _ _ o1 ow)
    · cases List.mem_singleton.mp hp
      exact ⟨_, ow⟩
  · cases h
theorem walk_tup (R : Rel Y G st σ H) {l : List D} (rv : RV Y G.F G.al (.tup l) v) (h : lend (.tup l) st = some ((ds, ls), st')) : ∃ a xs, v = .ref a ∧ SqT Y.K H a xs ∧ xs.length = ds.length ∧ WalkOk Y G st σ H (Itt Y.K a) ds ls st' H := by
  simp only [lend, overD, items, Option.map_some, Option.some.injEq, Prod.mk.injEq] at h
  obtain ⟨⟨rfl, rfl⟩, rfl⟩ := h
  simp only [RV] at rv
  obtain ⟨a, xs, e, t, r⟩ := rv
  exact ⟨a, xs, e, t.sq R, r.length.symm, .plain R (it_tup rfl r t)⟩
theorem it_str {B : Bor} {s : List Nat} (hs : (s.all fun c => Nat.blt c 1114112) = true) : ItOk Y (Its (stOf s)) G B (s.map fun c => .str [c]) where
  go := fun _ _ _ h => by simpa [Its, stOf] using h
  stop := fun _ _ _ h => by simpa [Its, stOf] using h
  yld := fun {i G st σ H x H' d} R g _ hi y => by
    obtain ⟨e, c, hc, hx⟩ := y
    subst e hx
    have hc : s[i]? = some c := by simpa [stOf] using hc
    rw [List.getElem?_map, hc] at hi
    cases hi
    refine ⟨G, R, .refl, ?_⟩
    simp only [RV]
    have := List.all_eq_true.mp hs c (List.mem_of_getElem? hc)
    exact ⟨rfl, by simpa using this⟩
theorem walk_str (R : Rel Y G st σ H) {s : List Nat} (rv : RV Y G.F G.al (.str s) v) (h : lend (.str s) st = some ((ds, ls), st')) : v = .str (stOf s) ∧ ds.length ≤ sizeLine ∧ WalkOk Y G st σ H (Its (stOf s)) ds ls st' H := by
  simp only [lend, overD, Option.map_eq_some_iff] at h
  obtain ⟨l, hl, h⟩ := h
  simp only [Prod.mk.injEq] at h
  obtain ⟨⟨rfl, rfl⟩, rfl⟩ := h
  split at hl
  · rename_i z
    simp only [items, Option.some.injEq] at hl
    subst hl
    simp only [RV] at rv
    refine ⟨rv.1, ?_, .plain R (it_str rv.2)⟩
    rw [List.length_map]
    exact Nat.le_of_ble_eq_true z
  · cases hl
theorem it_keys {B : Bor} {a : Addr} {od : Obj} {kvs : List (Key × V)} (r : RVs Y G.F G.al ds (kvs.map fun p => kV p.1)) (h : (a, .frz od (.dK kvs)) ∈ B) : ItOk Y (Itk a od kvs) G B ds := by
  have hl := r.length
  rw [List.length_map] at hl
  refine ⟨fun {i G st σ H} R g hB hi => ⟨(hB _ h).1, by omega⟩, fun {i G st σ H} R g hB hi => ⟨(hB _ h).1, by omega⟩, fun {i G st σ H x H' d} R g hB hi y => ?_⟩
  obtain ⟨e, k, w, hk, hx⟩ := y
  subst e hx
  obtain ⟨u, hu, ru⟩ := (r.mono g.1 g.2).get hi
  rw [List.getElem?_map, hk] at hu
  cases hu
  exact ⟨_, R, .refl, ru⟩
/-- a dict's keys: it is locked -/
theorem walk_dct (R : Rel Y G st σ H) {ks vs : List D} (rv : RV Y G.F G.al (.dct ks vs) v) (h : lend (.dct ks vs) st = some ((ds, ls), st')) : ∃ a kvs, v = .ref a ∧ Rd H a (.dK kvs) ∧ kvs.length = ds.length ∧
    ((∃ od, H a = some (.frz od (.dK kvs)) ∧ WalkOk Y G st σ H (Itk a od kvs) ds ls st' H) ∨ (H a = some (.dK kvs) ∧ ∀ od, upd H a (.frz od (.dK kvs)) a = some (.frz od (.dK kvs)) ∧ WalkOk Y G st σ H (Itk a od kvs) ds ls st' (upd H a (.frz od (.dK kvs))))) := by
  simp only [lend, overD, items, Option.map_some, Option.some.injEq, Prod.mk.injEq] at h
  obtain ⟨⟨rfl, rfl⟩, rfl⟩ := h
  simp only [RV] at rv
  obtain ⟨a, xs, ys, e, t, r1, r2⟩ := rv
  cases t with
  | dK kvs t =>
    have t : G.F a = some (.dK kvs) := t
    have rd := R.fz _ _ t
    refine ⟨a, kvs, e, rd, ?_, ?_⟩
    · have := r1.length; rw [List.length_map] at this; exact this.symm
    · have fin : ∀ (od : Obj) {H' : Hp}, Rel Y G st σ H' → Ext G st σ H G st H' → H' a = some (.frz od (.dK kvs)) → WalkOk Y G st σ H (Itk a od kvs) ks [] st H' := fun od H' R' E' e => by
        refine ⟨[(a, .frz od (.dK kvs))], R', E', .lock .nil, fun p hp => ?_, fun p hp z => ?_, it_keys r1 (List.mem_singleton.mpr rfl)⟩
        · cases List.mem_singleton.mp hp
          exact ⟨e, fun z => by cases z⟩
        · cases List.mem_singleton.mp hp
          cases z
      rcases rd with q | ⟨od, q⟩
      · exact .inr ⟨q, fun od => ⟨upd_same, fin od (R.lock t q rfl rfl od).1 (R.lock t q rfl rfl od).2 upd_same⟩⟩
      · exact .inl ⟨od, q, fin od R .refl q⟩
end
/-! ### for x in e -/
section
variable {Y : Wd} {W : WX} {X : Cx} {I : Info} {e tg : Expr} {m : Ex}
theorem PostI.exc0 {G : Gh} {st : St} {σ : L2.St} {H : Hp} {o : Out ((List D × List Loan) × St)} {R : L2.It → Hp → Prop} (h : PostI Y W G st σ H o R) {c : Nat} {s : Cells} (e : o = .exc c s) : ∀ G' H', Rel Y G' ⟨[], s⟩ [] H' → Ext G st σ H G' ⟨[], s⟩ H' → W (.ref (Y.eA c)) none σ H' := by
  subst e; exact h
/-- the walk is handed on -/
theorem PostI.walk {G G1 : Gh} {st st1 st2 : St} {σ : L2.St} {H H1 H2 : Hp} {ds : List D} {ls : List Loan} {R : L2.It → Hp → Prop} {J : L2.It} (p : PostI Y W G st σ H (.ok ((ds, ls), st2)) R) (E1 : Ext G st σ H G1 st1 H1) (k : WalkOk Y G1 st1 σ H1 J ds ls st2 H2) (hz : ds.length ≤ sizeLine) : R J H2 := by
  obtain ⟨B, R2, E2, L, hB, hf, K⟩ := k
  refine p G1 H2 J B R2 (E1.trans E2) L hB (fun q hq z => ?_) K hz
  rcases E1.own _ (hf q hq z) with y | y
  · exact .inl y
  · exact .inr y
theorem si_over (hK : X.K = Y.K) (he : SE Y W X e (ev I m)) (hm : ∀ i, m ≠ .pk i) : SI Y W X tg e (evsrc I (.over m)) := by
  have hz := pe_sz he
  refine PI.imp (pi_or (pi_list (tg := tg) hz) (pi_or (pi_tup (tg := tg) hz) (pi_or (pi_str (tg := tg) hz) (pi_keys (tg := tg) (pe_lockD hz))))) fun σ H Q ⟨G, st, R, p⟩ => ?_
  have es : evsrc I (.over m) st = (ev I m st).bind fun ((d, _), st1) => Out.of (lend d st1) := by
    cases m with
    | pk i => exact absurd rfl (hm i)
    | _ => simp only [evsrc]
  rw [es] at p
  cases q : ev I m st with
  | stuck => rw [q] at p; exact p.elim
  | exc c s =>
    rw [q] at p
    refine .inl ⟨G, st, R, ?_⟩
    rw [q]
    exact p
  | ok r =>
    obtain ⟨⟨d, fr⟩, st1⟩ := r
    rw [q] at p
    have p1 : PostI Y W G st σ H (Out.of (lend d st1)) Q := p
    clear p
    cases ql : lend d st1 with
    | none => rw [ql] at p1; exact p1.elim
    | some w =>
      obtain ⟨⟨ds, ls⟩, st2⟩ := w
      rw [ql] at p1
      have p2 : PostI Y W G st σ H (.ok ((ds, ls), st2)) Q := p1
      cases d with
      | lst l =>
        refine .inl ⟨G, st, R, ?_⟩
        rw [q]
        intro G' H' v R' E' r'
        obtain ⟨G2, R2, E2, rv⟩ := RR.shut R' E' r'
        intro sz
        obtain ⟨a, xs, ev, sq, hl, k⟩ := walk_lst R2 rv ql
        rw [← hK] at sq k
        exact ⟨a, ev, ⟨xs, sq⟩, p2.walk E2 k (by rw [← hl]; exact sz.1 _ _ sq)⟩
      | ref n =>
        refine .inl ⟨G, st, R, ?_⟩
        rw [q]
        intro G' H' v R' E' r'
        obtain ⟨G2, R2, E2, rv⟩ := RR.shut R' E' r'
        intro sz
        obtain ⟨a, xs, ev, sq, hl, k⟩ := walk_ref R2 rv ql
        rw [← hK] at sq k
        exact ⟨a, ev, ⟨xs, sq⟩, p2.walk E2 k (by rw [← hl]; exact sz.1 _ _ sq)⟩
      | tup l =>
        refine .inr (.inl ⟨G, st, R, ?_⟩)
        rw [q]
        intro G' H' v R' E' r'
        obtain ⟨G2, R2, E2, rv⟩ := RR.shut R' E' r'
        intro sz
        obtain ⟨a, xs, ev, sq, hl, k⟩ := walk_tup R2 rv ql
        rw [← hK] at sq k
        exact ⟨a, ev, ⟨xs, sq⟩, p2.walk E2 k (by rw [← hl]; exact sz.2.1 _ _ sq)⟩
      | str s =>
        refine .inr (.inr (.inl ⟨G, st, R, ?_⟩))
        rw [q]
        intro G' H' v R' E' r'
        obtain ⟨G2, R2, E2, rv⟩ := RR.shut R' E' r'
        intro _
        obtain ⟨ev, hl, k⟩ := walk_str R2 rv ql
        exact ⟨_, ev, p2.walk E2 k hl⟩
      | dct ks vs =>
        refine .inr (.inr (.inr ⟨G, st, R, ?_⟩))
        rw [q]
        intro G' H' v R' E' r'
        obtain ⟨G2, R2, E2, rv⟩ := RR.shut R' E' r'
        intro sz
        obtain ⟨a, kvs, ev, rd, hl, k⟩ := walk_dct R2 rv ql
        have hz := sz.2.2 _ _ rd
        rcases k with ⟨od, hd, k⟩ | ⟨hd, k⟩
        · exact .inl ⟨a, od, ev, .inl ⟨kvs, hd, p2.walk E2 k (by rw [← hl]; exact hz)⟩⟩
        · refine .inr ⟨a, _, hd, trivial, fun od => ⟨a, od, ev, .inl ⟨kvs, (k od).1, p2.walk E2 (k od).2 (by rw [← hl]; exact hz)⟩⟩⟩
      | _ => simp [lend, overD, items] at ql
end
end Mi

set_option Elab.async false
set_option linter.all false
set_option maxRecDepth 100000
namespace Mi
open PySem PySem.Spec PyProof.Rows L2
section
variable {Y : Wd} {W : WX} {X : Cx} {I : Info} {e tg a b : Expr} {m ma mb : Ex} {pos p : Pos}
/-- a name's own list, lent -/
theorem si_pk {i : Nat} {x : Str} (hK : X.K = Y.K) (hN : X.N[i]? = some x) (hv : Vis X.env.scope x) (hd : (x == ("__debug__" : Str)) = false) (hcd : (x == ("__classdict__" : Str)) = false) : SI Y W X tg (.Name x pos) (evsrc I (.over (.pk i))) := by
  have hz := pe_sz (pe_var (X := X) (pos := pos) hN hv hd hcd)
  refine PI.imp (pi_or (pi_list (tg := tg) hz) (pi_or (pi_tup (tg := tg) hz) (pi_or (pi_str (tg := tg) hz) (pi_keys (tg := tg) (pe_lockD hz))))) fun σ H Q ⟨G, st, R, p⟩ => ?_
  simp only [evsrc] at p
  cases qs : slotAt i st.r with
  | none => simp only [lendS, qs, Out.of] at p; exact p.elim
  | some bd =>
    obtain ⟨own, d⟩ := bd
    obtain ⟨v, e, h1, h2⟩ := R.slots i own d qs
    cases own with
    | false =>
      have rv := h1 rfl
      have el : lendS i st = lend d st := by simp only [lendS, qs]
      rw [el] at p
      cases ql : lend d st with
      | none => rw [ql] at p; exact p.elim
      | some w =>
        obtain ⟨⟨ds, ls⟩, st2⟩ := w
        rw [ql] at p
        have p2 : PostI Y W G st σ H (.ok ((ds, ls), st2)) Q := p
        clear p
        cases d with
        | lst l =>
          refine .inl ⟨v, e, fun sz => ?_⟩
          obtain ⟨a, xs, ev, sq, hl, k⟩ := walk_lst R rv ql
          rw [← hK] at sq k
          exact ⟨a, ev, ⟨xs, sq⟩, p2.walk .refl k (by rw [← hl]; exact sz.1 _ _ sq)⟩
        | ref n =>
          refine .inl ⟨v, e, fun sz => ?_⟩
          obtain ⟨a, xs, ev, sq, hl, k⟩ := walk_ref R rv ql
          rw [← hK] at sq k
          exact ⟨a, ev, ⟨xs, sq⟩, p2.walk .refl k (by rw [← hl]; exact sz.1 _ _ sq)⟩
        | tup l =>
          refine .inr (.inl ⟨v, e, fun sz => ?_⟩)
          obtain ⟨a, xs, ev, sq, hl, k⟩ := walk_tup R rv ql
          rw [← hK] at sq k
          exact ⟨a, ev, ⟨xs, sq⟩, p2.walk .refl k (by rw [← hl]; exact sz.2.1 _ _ sq)⟩
        | str s =>
          refine .inr (.inr (.inl ⟨v, e, fun sz => ?_⟩))
          obtain ⟨ev, hl, k⟩ := walk_str R rv ql
          exact ⟨_, ev, p2.walk .refl k hl⟩
        | dct ks vs =>
          refine .inr (.inr (.inr ⟨v, e, fun sz => ?_⟩))
          obtain ⟨a, kvs, ev, rd, hl, k⟩ := walk_dct R rv ql
          have hz := sz.2.2 _ _ rd
          rcases k with ⟨od, hd, k⟩ | ⟨hd, k⟩
          · exact .inl ⟨a, od, ev, .inl ⟨kvs, hd, p2.walk .refl k (by rw [← hl]; exact hz)⟩⟩
          · refine .inr ⟨a, _, hd, trivial, fun od => ⟨a, od, ev, .inl ⟨kvs, (k od).1, p2.walk .refl (k od).2 (by rw [← hl]; exact hz)⟩⟩⟩
        | _ => simp [lend, overD, items] at ql
    | true =>
      obtain ⟨ad, e2, f, c⟩ := h2 rfl
      subst e2
      cases d with
      | lst l =>
        simp only [lendS, qs, Out.of] at p
        obtain ⟨xs, hx, r⟩ := c
        refine .inl ⟨_, e, fun sz => ?_⟩
        have sq : SqL X.K H ad xs := .inl (.inl hx)
        have hsub : ∀ j b e, slotAt j (setNth i none st.r) = some (b, e) → slotAt j st.r = some (b, e) := fun j b e z => by
          simp only [slotAt_set] at z
          split at z
          · split at z <;> cases z
          · exact z
        have R1 : Rel Y G (setSlot i none st) σ H := R.sub (st := st) (setNth_len _ _ _) hsub
        have nO : ¬ Owned G (setSlot i none st) σ ad := not_owned_slotF (d := .non) R qs e (fun z => nofun)
        refine ⟨ad, rfl, ⟨xs, sq⟩, p G H _ [(ad, .lst xs)] R1 (Ext.sub hsub) (.slot e r (fun p hp => by cases hp) .nil) (fun q hq => ?_) (fun q hq _ => ?_) (it_seq r (.inr (List.mem_singleton.mpr rfl))) (by rw [r.length]; exact sz.1 _ _ sq)⟩
        · cases List.mem_singleton.mp hq
          exact ⟨hx, fun _ => ⟨f, nO⟩⟩
        · cases List.mem_singleton.mp hq
          exact .inl ⟨.slot i, _, qs, e⟩
      | dct ks vs =>
        simp only [lendS, qs, Out.of] at p
        obtain ⟨o, ho, hr⟩ := c.ho
        have r := hr f rfl
        have R1 : Rel Y G (setSlot i none st) σ H := R.sub (st := st) (setNth_len _ _ _) fun j b e z => by
          simp only [slotAt_set] at z
          split at z
          · split at z <;> cases z
          · exact z
        have nO : ¬ Owned G (setSlot i none st) σ ad := not_owned_slotF (d := .non) R qs e (fun z => nofun)
        have R2 := (R1.put ho f nO).slotF e r
        have es : setSlot i (some (false, D.dct ks vs)) (setSlot i none st) = setSlot i (some (false, D.dct ks vs)) st := by
          simp only [setSlot, St.mk.injEq, and_true]
          apply List.ext_getElem?
          intro j
          simp only [setNth_get, setNth_len]
          split <;> simp
        rw [es] at R2
        have E2 : Ext G st σ H (G.put ad o) (setSlot i (some (false, D.dct ks vs)) st) H := ⟨fun _ _ _ h => h, Gh.put_sub f, fun _ _ h => h, fun _ _ h _ _ => h, fun _ h => h, fun b h => .inl (owned_slotF (owned_put.mp h)), fun b h => by
          by_cases z : b = ad
          · subst z; exact .inr (.inr ⟨.slot i, _, qs, e⟩)
          · exact .inl (by simpa [Gh.put, z] using h)⟩
        refine .inr (.inr (.inr ⟨_, e, fun sz => ?_⟩))
        obtain ⟨a, kvs, ev, rd, hl, k⟩ := walk_dct (ds := ks) (ls := []) R2 r rfl
        have hz := sz.2.2 _ _ rd
        rcases k with ⟨od, hd, k⟩ | ⟨hd, k⟩
        · exact .inl ⟨a, od, ev, .inl ⟨kvs, hd, PostI.walk (st2 := setSlot i (some (false, D.dct ks vs)) st) p E2 k (by rw [← hl]; exact hz)⟩⟩
        · refine .inr ⟨a, _, hd, trivial, fun od => ⟨a, od, ev, .inl ⟨kvs, (k od).1, PostI.walk (st2 := setSlot i (some (false, D.dct ks vs)) st) p E2 (k od).2 (by rw [← hl]; exact hz)⟩⟩⟩
      | _ => simp only [lendS, qs, Out.of] at p; exact p.elim
/-! ### range -/
theorem PostI.rng {G : Gh} {st : St} {σ : L2.St} {H : Hp} {Q : L2.It → Hp → Prop} {x y : D} (R : Rel Y G st σ H) (p : PostI Y W G st σ H ((Out.of (rgD x y)).bind fun l => .ok ((l, []), st)) Q) : ∃ i j, x = .int i ∧ y = .int j ∧ (i.natAbs ≤ 1000000000000 ∧ j.natAbs ≤ 1000000000000) ∧ Q (Itr i (j - i).toNat) H := by
  cases q : rgD x y with
  | none => rw [q] at p; exact p.elim
  | some l =>
    rw [q] at p
    unfold rgD at q
    split at q
    · rename_i i j
      split at q
      · rename_i h
        cases q
        simp only [Bool.and_eq_true, Nat.ble_eq] at h
        refine ⟨i, j, rfl, rfl, ⟨h.1.1, h.1.2⟩, p G H _ [] R .refl .nil .nil (fun p hp => by cases hp) it_rng ?_⟩
        rw [rangeD_len]
        exact h.2
      · cases q
    · cases q
theorem si_rg1 (hg : Gl X "range") (hm : X.mg "range" = none) (ha : SL Y W X [a] (evs I [ma])) (hs : starEach [a] X.env = [(false, eval a X.env)]) : SI Y W X tg (.Call (.Name "range" p) [a] [] pos) (evsrc I (.rg1 ma)) := by
  refine PI.imp (pi_range1 hg hm ha hs) fun σ H Q ⟨G, st, R, p⟩ => ⟨G, st, R, ?_⟩
  simp only [evsrc] at p
  simp only [evs]
  cases q : ev I ma st with
  | stuck => rw [q] at p; exact p
  | exc c s => rw [q] at p; exact p
  | ok r =>
    obtain ⟨⟨d, fr⟩, st1⟩ := r
    rw [q] at p
    intro G1 H1 vs R1 E1 rs
    simp only [RVs] at rs
    obtain ⟨v, r, e, rv, rs⟩ := rs
    subst e
    subst rs
    have p : PostI Y W G st σ H ((Out.of (rgD (.int 0) d)).bind fun l => .ok ((l, []), st1)) Q := p
    have p' : PostI Y W G1 st1 σ H1 ((Out.of (rgD (.int 0) d)).bind fun l => .ok ((l, []), st1)) Q := by
      cases hq : rgD (.int 0) d with
      | none => rw [hq] at p; exact p
      | some l =>
        rw [hq] at p
        exact fun G' H' J B R' E' L hB fB K z => p G' H' J B R' (E1.trans E') L hB (fun q hq' n => (fB q hq' n).elim (fun o => E1.own _ o) fun h => .inr (by
          cases hh : H q.1 with
          | none => rfl
          | some o => exact absurd h (E1.there _ (by rw [hh]; exact fun z => nomatch z)))) K z
    obtain ⟨i, j, e1, e2, hb, qq⟩ := p'.rng R1
    cases e1
    subst e2
    simp only [RV] at rv
    subst rv
    refine ⟨j, rfl, ?_, ?_, by simpa using qq⟩
    · have := hb.2; omega
    · have := hb.2; omega
theorem si_rg2 (hg : Gl X "range") (hm : X.mg "range" = none) (ha : SL Y W X [a, b] (evs I [ma, mb])) (hs : starEach [a, b] X.env = [(false, eval a X.env), (false, eval b X.env)]) (hs2 : starEach [b] X.env = [(false, eval b X.env)]) : SI Y W X tg (.Call (.Name "range" p) [a, b] [] pos) (evsrc I (.rg2 ma mb)) := by
  refine PI.imp (pi_range2 hg hm ha hs hs2) fun σ H Q ⟨G, st, R, p⟩ => ⟨G, st, R, ?_⟩
  simp only [evsrc] at p
  simp only [evs]
  cases q : ev I ma st with
  | stuck => rw [q] at p; exact p
  | exc c s => rw [q] at p; exact p
  | ok r =>
    obtain ⟨⟨d, fr⟩, st1⟩ := r
    rw [q] at p
    dsimp only [Out.bind] at p ⊢
    cases q2 : ev I mb st1 with
    | stuck => rw [q2] at p; exact p
    | exc c s => rw [q2] at p; exact p
    | ok r2 =>
    obtain ⟨⟨d2, fr2⟩, st2⟩ := r2
    rw [q2] at p
    intro G1 H1 vs R1 E1 rs
    simp only [RVs] at rs
    obtain ⟨v, r, e, rv, v2, r2, e2, rv2, rs⟩ := rs
    subst e
    subst e2
    subst rs
    have p : PostI Y W G st σ H ((Out.of (rgD d d2)).bind fun l => .ok ((l, []), st2)) Q := p
    have p' : PostI Y W G1 st2 σ H1 ((Out.of (rgD d d2)).bind fun l => .ok ((l, []), st2)) Q := by
      cases hq : rgD d d2 with
      | none => rw [hq] at p; exact p
      | some l =>
        rw [hq] at p
        exact fun G' H' J B R' E' L hB fB K z => p G' H' J B R' (E1.trans E') L hB (fun q hq' n => (fB q hq' n).elim (fun o => E1.own _ o) fun h => .inr (by
          cases hh : H q.1 with
          | none => rfl
          | some o => exact absurd h (E1.there _ (by rw [hh]; exact fun z => nomatch z)))) K z
    obtain ⟨i, j, e1, e2, hb, qq⟩ := p'.rng R1
    subst e1
    subst e2
    simp only [RV] at rv rv2
    subst rv
    subst rv2
    refine ⟨i, j, rfl, ⟨?_, ?_, ?_, ?_⟩, qq⟩ <;> (have := hb.1; have := hb.2; omega)
end
end Mi

set_option Elab.async false
set_option linter.all false
set_option maxRecDepth 100000
namespace Mi
open PySem PySem.Spec PyProof.Rows L2
/-! ### the block's own names -/
theorem slotAt_wipe : ∀ (own : List Nat) (r : List Slot) (i : Nat), slotAt i (Mi.wipe own r) = if i ∈ own then none else slotAt i r
  | [], r, i => by simp [Mi.wipe]
  | v :: vs, r, i => by
    have e : Mi.wipe (v :: vs) r = Mi.wipe vs (setNth v none r) := rfl
    rw [e, slotAt_wipe vs, slotAt_set]
    by_cases h : i = v
    · subst h
      by_cases h2 : i ∈ vs <;> simp [h2]
    · simp [h]
theorem wipe_len : ∀ (own : List Nat) (r : List Slot), (Mi.wipe own r).length = r.length
  | [], r => rfl
  | v :: vs, r => by
    have e : Mi.wipe (v :: vs) r = Mi.wipe vs (setNth v none r) := rfl
    rw [e, wipe_len vs, setNth_len]
def oldF (r0 : List Slot) (i : Nat) : Slot := match slotAt i r0 with
  | some (false, d) => some (false, d)
  | _ => none
theorem unwipe_len (r0 : List Slot) : ∀ (own : List Nat) (r : List Slot), (unwipe own r0 r).length = r.length
  | [], r => rfl
  | v :: vs, r => by
    have e : unwipe (v :: vs) r0 r = unwipe vs r0 (setNth v (oldF r0 v) r) := rfl
    rw [e, unwipe_len r0 vs, setNth_len]
theorem slotAt_unwipe (r0 : List Slot) : ∀ (own : List Nat) (r : List Slot) (i : Nat), slotAt i (unwipe own r0 r) = if i ∈ own then (if i < r.length then oldF r0 i else none) else slotAt i r
  | [], r, i => by simp [unwipe]
  | v :: vs, r, i => by
    have e : unwipe (v :: vs) r0 r = unwipe vs r0 (setNth v (oldF r0 v) r) := rfl
    rw [e, slotAt_unwipe r0 vs, slotAt_set, setNth_len]
    by_cases h : i = v
    · subst h
      by_cases h2 : i ∈ vs <;> simp [h2]
    · simp [h]
theorem wipeL_out {σ : L2.St} {i : Nat} : ∀ {vs : List Nat}, i ∉ vs → (L2.wipe σ vs)[i]? = σ[i]?
  | [], _ => rfl
  | v :: vs, h => by
    have h1 : v ≠ i := fun e => h (by rw [e]; exact List.mem_cons_self)
    have h2 : i ∉ vs := fun m => h (List.mem_cons_of_mem _ m)
    unfold L2.wipe
    rw [List.getElem?_set_ne h1]
    exact wipeL_out h2
theorem wipeL_in {σ : L2.St} {i : Nat} : ∀ {vs : List Nat}, i ∈ vs → (L2.wipe σ vs)[i]? = if i < σ.length then some none else none
  | v :: vs, h => by
    unfold L2.wipe
    by_cases e : v = i
    · subst e
      by_cases hl : v < σ.length
      · rw [List.getElem?_set_self (by rw [L2.wipe_length]; exact hl), if_pos hl]
      · rw [if_neg hl, List.getElem?_eq_none (by rw [List.length_set, L2.wipe_length]; omega)]
    · rw [List.getElem?_set_ne e]
      exact wipeL_in ((List.mem_cons.mp h).resolve_left fun z => e z.symm)
/-- states that differ at the block's names alone -/
theorem wipeL_same {σ σ' : L2.St} {vs ws : List Nat} (h : Same ws (L2.wipe σ vs) σ') (hs : ∀ j ∈ ws, j ∈ vs) : L2.wipe σ' vs = L2.wipe σ vs := by
  have hl : σ'.length = σ.length := by rw [h.1, L2.wipe_length]
  apply List.ext_getElem?
  intro j
  by_cases hj : j ∈ vs
  · rw [wipeL_in hj, wipeL_in hj, hl]
  · rw [wipeL_out hj, h.2 j (fun z => hj (hs j z))]
section
variable {Y : Wd} {G G1 : Gh} {st st1 st2 : St} {σ σ' : L2.St} {H H1 : Hp} {vs : List Nat}
theorem owns_wipe (hw : L2.wipe σ' vs = L2.wipe σ vs) {t : OT} {a : Addr} (o : owns G ⟨Mi.wipe vs st.r, st.s⟩ (L2.wipe σ vs) t a) : owns G st σ' t a := by
  cases t with
  | cell n => exact o
  | slot i =>
    obtain ⟨d, q, e⟩ := o
    rw [slotAt_wipe] at q
    by_cases hi : i ∈ vs
    · rw [if_pos hi] at q; cases q
    · rw [if_neg hi] at q
      refine ⟨d, q, ?_⟩
      rw [← hw, wipeL_out hi] at e
      exact e
theorem Rel.wipe (R : Rel Y G st σ' H) (hw : L2.wipe σ' vs = L2.wipe σ vs) : Rel Y G ⟨Mi.wipe vs st.r, st.s⟩ (L2.wipe σ vs) H ∧ ES G st σ' H G ⟨Mi.wipe vs st.r, st.s⟩ (L2.wipe σ vs) H := by
  refine ⟨⟨R.fzi, R.fz, R.dom, R.cells, fun i b d q => ?_, fun t t' a o o' => R.inj t t' a (owns_wipe hw o) (owns_wipe hw o'), ?_⟩, ⟨fun _ _ _ h => h, fun _ _ h => h, fun _ _ h => h, fun _ _ h _ _ => h, fun _ h => h, fun a ⟨t, o⟩ => .inl ⟨t, owns_wipe hw o⟩, fun _ h => .inl h⟩⟩
  · rw [slotAt_wipe] at q
    by_cases hi : i ∈ vs
    · rw [if_pos hi] at q; cases q
    · rw [if_neg hi] at q
      obtain ⟨v, e, h1, h2⟩ := R.slots i b d q
      refine ⟨v, ?_, h1, h2⟩
      rw [← hw, wipeL_out hi]
      exact e
  · have e1 : (L2.wipe σ' vs).length = σ'.length := L2.wipe_length _ _
    rw [wipe_len, ← hw, e1]
    exact R.len
theorem Rel.unwiped (R1 : Rel Y G1 st1 σ H1) (R : Rel Y G ⟨Mi.wipe vs st.r, st.s⟩ (L2.wipe σ vs) H) (E : ES G1 st1 σ H1 G ⟨Mi.wipe vs st.r, st.s⟩ (L2.wipe σ vs) H) :
    Rel Y G ⟨unwipe vs st1.r st.r, st.s⟩ σ H ∧ ES G1 st1 σ H1 G ⟨unwipe vs st1.r st.r, st.s⟩ σ H ∧ ∀ a, Owned G ⟨unwipe vs st1.r st.r, st.s⟩ σ a → Owned G ⟨Mi.wipe vs st.r, st.s⟩ (L2.wipe σ vs) a := by
  have key : ∀ {t : OT} {a : Addr}, owns G ⟨unwipe vs st1.r st.r, st.s⟩ σ t a → owns G ⟨Mi.wipe vs st.r, st.s⟩ (L2.wipe σ vs) t a := fun {t a} o => by
    cases t with
    | cell n => exact o
    | slot i =>
      obtain ⟨d, q, e⟩ := o
      rw [slotAt_unwipe] at q
      by_cases hi : i ∈ vs
      · rw [if_pos hi] at q
        split at q
        · unfold oldF at q
          split at q <;> cases q
        · cases q
      · rw [if_neg hi] at q
        exact ⟨d, by rw [slotAt_wipe, if_neg hi]; exact q, by rw [wipeL_out hi]; exact e⟩
  refine ⟨⟨R.fzi, R.fz, R.dom, R.cells, fun i b d q => ?_, fun t t' a o o' => R.inj t t' a (key o) (key o'), ?_⟩, ⟨E.lk, E.F, E.al, E.keep, E.there, fun a ⟨t, o⟩ => E.own a ⟨t, key o⟩, E.frz⟩, fun a ⟨t, o⟩ => ⟨t, key o⟩⟩
  · rw [slotAt_unwipe] at q
    by_cases hi : i ∈ vs
    · rw [if_pos hi] at q
      split at q
      · unfold oldF at q
        split at q
        · rename_i d' q'
          cases q
          obtain ⟨v, e, h1, _⟩ := R1.slots i false d q'
          exact ⟨v, e, fun _ => (h1 rfl).mono E.F E.al, fun z => nomatch z⟩
        · cases q
      · cases q
    · rw [if_neg hi] at q
      obtain ⟨v, e, h1, h2⟩ := R.slots i b d (by rw [slotAt_wipe, if_neg hi]; exact q)
      rw [wipeL_out hi] at e
      exact ⟨v, e, h1, h2⟩
  · have h := R.len
    rw [wipe_len, L2.wipe_length] at h
    rw [unwipe_len]
    exact h
theorem ES.ext {G' : Gh} {st' : St} {H' : Hp} (x : ES G st σ H G' st' σ H') : Ext G st σ H G' st' H' := ⟨x.lk, x.F, x.al, x.keep, x.there, x.own, x.frz⟩
/-- a thing of nobody is changed -/
theorem Rel.at (R : Rel Y G st σ H) {D : Addr} {o : HO} (hF : G.F D = none) (hO : ¬ Owned G st σ D) : Rel Y G st σ (upd H D o) where
  fzi := fun a u h i => by
    have z : a ≠ D := fun z => by rw [z, hF] at h; cases h
    rw [upd_ne z]; exact R.fzi a u h i
  fz := fun a u h => by
    have z : a ≠ D := fun z => by rw [z, hF] at h; cases h
    rcases R.fz a u h with q | ⟨od, q⟩
    · exact .inl (by rw [upd_ne z]; exact q)
    · exact .inr ⟨od, by rw [upd_ne z]; exact q⟩
  dom := R.dom
  cells := fun n d h => by
    obtain ⟨b, e, f, c⟩ := R.cells n d h
    have z : b ≠ D := fun z => hO ⟨.cell n, ⟨d, h⟩, by rw [← z]; exact e⟩
    exact ⟨b, e, f, c.mono (fun _ _ h => h) (fun _ _ h => h) fun u q => by rw [upd_ne z]; exact q⟩
  slots := fun i b d h => by
    obtain ⟨v, e, h1, h2⟩ := R.slots i b d h
    refine ⟨v, e, h1, fun z => ?_⟩
    obtain ⟨x, e2, f, c⟩ := h2 z
    have z : x ≠ D := fun q => hO ⟨.slot i, d, by rw [h, z], by rw [e, e2, q]⟩
    exact ⟨x, e2, f, c.mono (fun _ _ h => h) (fun _ _ h => h) fun u q => by rw [upd_ne z]; exact q⟩
  inj := R.inj
  len := R.len
theorem ES.at {G' : Gh} {st' : St} {H' : Hp} (x : ES G st σ H G' st' σ' H') {D : Addr} {o : HO} (hD : H D = none) : ES G st σ H G' st' σ' (upd H' D o) where
  lk := fun a od u h => by rw [upd_ne (fun z => by rw [z, hD] at h; cases h)]; exact x.lk a od u h
  F := x.F
  al := x.al
  keep := fun a u h n f => by rw [upd_ne (fun z => by rw [z, hD] at h; cases h)]; exact x.keep a u h n f
  there := fun a h => by rw [upd_ne (fun z => by rw [z] at h; exact h hD)]; exact x.there a h
  own := x.own
  frz := x.frz
end
/-! ### [e for t in s if ..] -/
def WF : WX := fun _ _ _ _ => False
section
variable {Y : Wd} {W : WX} {X : Cx} {I : Info} {elt tg iter : Expr} {t : Tg} {src : Src} {ifs : List Expr} {mifs : List Ex} {me : Ex} {scope : Scope} {own : List (Str × Nat)} {pos : Pos} {vs : List Nat}
/-- a turn of a comprehension of one clause -/
def turn1 (I : Info) (t : Tg) (vs : List Nat) (mifs : List Ex) (me : Ex) : D → List D × St → Out (List D × St) := fun d (acc, st) => match asgT t d ⟨Mi.wipe vs st.r, st.s⟩ with
  | some st' => (evAnd I mifs st').bind fun (b, st2) => match b with
    | true => (ev I me st2).bind fun ((y, _), st') => .ok (acc ++ [y], st')
    | false => .ok (acc, st2)
  | none => .stuck
theorem lc_tr (hsub : ∀ j ∈ Tg.own t, j ∈ vs) : ∀ σ H Q, rE Y W (ev I (.lc vs [.mk t src mifs] me)) σ H Q → tLc (rI Y W (evsrc I src)) (rG Y t) (rT Y WF (evAnd I mifs)) (rE Y WF (ev I me)) vs σ H Q := by
  rintro σ H Q ⟨G, st, R, p⟩
  refine ⟨G, st, R, ?_⟩
  simp only [ev, evgens] at p
  cases q : evsrc I src st with
  | stuck => rw [q] at p; exact p
  | exc c s => rw [q] at p; exact p
  | ok r =>
    obtain ⟨⟨ds, br⟩, st1⟩ := r
    rw [q] at p
    have p1 : PostE Y W G st σ H ((compGo (turn1 I t vs mifs me) ds ([], st1)).bind fun (acc, st2) => .ok ((.lst acc, true), give br ⟨unwipe vs st1.r st2.r, st2.s⟩)) Q := p
    clear p
    intro G1 H1 J B R1 E1 LO hB fB K hz D hD
    have hBD : ∀ p ∈ B, p.1 ≠ D := fun p hp z => by have := (hB p hp).1; rw [z, hD] at this; cases this
    generalize ho : compGo (turn1 I t vs mifs me) ds ([], st1) = o at p1
    have nst : o ≠ .stuck := fun z => by rw [z] at p1; exact p1
    refine ⟨fun i m H' => m = ds.length - i ∧ i ≤ ds.length ∧ ∃ G' st' acc xs, Rel Y G' ⟨Mi.wipe vs st'.r, st'.s⟩ (L2.wipe σ vs) H' ∧ ES G1 st1 σ H1 G' ⟨Mi.wipe vs st'.r, st'.s⟩ (L2.wipe σ vs) H' ∧ Held G' ⟨Mi.wipe vs st'.r, st'.s⟩ (L2.wipe σ vs) H' ((D, .lst xs) :: B) ∧ RVs Y G'.F G'.al acc xs ∧ xs.length ≤ i ∧
      compGo (turn1 I t vs mifs me) (ds.drop i) (acc, st') = o, ⟨_, rfl, Nat.zero_le _, G1, st1, [], [], ?_⟩, ?_⟩
    · have nO := R1.notOwned hD
      have R2 := (R1.at (o := .lst []) (R1.fresh hD) nO).wipe (vs := vs) rfl
      have E2 := (ES.refl (G := G1) (st := st1) (σ := σ) (H := H1)).at (D := D) (o := .lst []) hD
      refine ⟨R2.1, ?_, ?_, RVs.nil, Nat.zero_le _, ho⟩
      · exact (E2.trans R2.2)
      · refine Held.es (σ := σ) (H := upd H1 D (.lst [])) (st := st1) (G := G1) (fun p hp => ?_) R2.2
        rcases List.mem_cons.mp hp with z | z
        · subst z
          exact ⟨upd_same, fun _ => ⟨R1.fresh hD, nO⟩⟩
        · obtain ⟨h1, h2⟩ := hB p z
          exact ⟨by rw [upd_ne (hBD p z)]; exact h1, h2⟩
    · rintro i m H' ⟨rfl, hi, G', st', acc, xs, R', E', hH, rs, hx, hgo⟩
      have hHB : Held G' ⟨Mi.wipe vs st'.r, st'.s⟩ (L2.wipe σ vs) H' B := fun p hp => hH p (List.mem_cons_of_mem _ hp)
      by_cases hlt : i < ds.length
      · refine .inr ⟨K.go R' E'.gs hHB hlt, _, fun H2 n => ⟨ds.length - (i + 1), by omega, n⟩, fun x H2 y => ?_⟩
        have hd : ds[i]? = some ds[i] := List.getElem?_eq_getElem hlt
        obtain ⟨G2, R2, E2, rv⟩ := K.yld R' E'.gs hHB hd y
        have ES2 := E'.trans E2.es
        have hH2 := hH.es E2.es
        rw [List.drop_eq_getElem_cons hlt] at hgo
        simp only [compGo] at hgo
        refine ⟨G2, _, _, R2, rv, ?_⟩
        have et : turn1 I t vs mifs me ds[i] (acc, st') = match asgT t ds[i] ⟨Mi.wipe vs st'.r, st'.s⟩ with
          | some st' => (evAnd I mifs st').bind fun (b, st2) => match b with
            | true => (ev I me st2).bind fun ((y, _), st') => .ok (acc ++ [y], st')
            | false => .ok (acc, st2)
          | none => .stuck := rfl
        rw [et] at hgo
        cases q1 : asgT t ds[i] ⟨Mi.wipe vs st'.r, st'.s⟩ with
        | none => rw [q1] at hgo; exact absurd hgo.symm nst
        | some st3 =>
          rw [q1] at hgo
          intro G3 σ3 H3 R3 E3 S3
          have hw := wipeL_same S3 hsub
          refine ⟨hw, G3, st3, R3, ?_⟩
          have ES3 := ES2.trans E3
          have hH3 := hH2.es E3
          dsimp only at hgo
          cases q2 : evAnd I mifs st3 with
          | stuck => rw [q2] at hgo; exact absurd hgo.symm nst
          | exc c s => rw [q2] at hgo; exact absurd hgo.symm nst
          | ok r =>
            obtain ⟨b, st4⟩ := r
            rw [q2] at hgo
            intro G4 H4 R4 E4
            have ES4 := ES3.trans E4.es
            have hH4 := hH3.es E4.es
            cases b with
            | false =>
              rw [if_neg Bool.false_ne_true]
              obtain ⟨R5, E5⟩ := R4.wipe hw
              exact ⟨rfl, hlt, G4, st4, acc, xs, R5, ES4.trans E5, hH4.es E5, rs.mono (E2.gs.trans (E3.gs.trans E4.gs)).1 (E2.gs.trans (E3.gs.trans E4.gs)).2, by omega, hgo⟩
            | true =>
              rw [if_pos rfl]
              refine ⟨G4, st4, R4, ?_⟩
              dsimp only [Out.bind] at hgo
              cases q3 : ev I me st4 with
              | stuck => rw [q3] at hgo; exact absurd hgo.symm nst
              | exc c s => rw [q3] at hgo; exact absurd hgo.symm nst
              | ok r =>
                obtain ⟨⟨y, fr⟩, st5⟩ := r
                rw [q3] at hgo
                intro G5 H5 v R5 E5 r5
                obtain ⟨G6, R6, E6, rv6⟩ := RR.shut R5 E5 r5
                have ES6 := ES4.trans E6.es
                have hH6 := hH4.es E6.es
                obtain ⟨hDx, hDn⟩ := hH6 (D, .lst xs) List.mem_cons_self
                obtain ⟨hDF, hDO⟩ := hDn rfl
                refine ⟨xs, hDx, by omega, rfl, hlt, G6, st5, acc ++ [y], xs ++ [v], ?_⟩
                obtain ⟨R7, E7⟩ := (R6.at (o := .lst (xs ++ [v])) hDF hDO).wipe hw
                have g6 : GS G' G6 := E2.gs.trans (E3.gs.trans (E4.gs.trans E6.gs))
                refine ⟨R7, (ES6.at (o := .lst (xs ++ [v])) hD).trans E7, ?_, (rs.mono g6.1 g6.2).app (RVs.cons rv6 RVs.nil), by rw [List.length_append]; simp; omega, hgo⟩
                refine Held.es (σ := σ3) (H := upd H5 D (.lst (xs ++ [v]))) (st := st5) (G := G6) (fun p hp => ?_) E7
                rcases List.mem_cons.mp hp with z | z
                · subst z
                  exact ⟨upd_same, fun _ => ⟨hDF, hDO⟩⟩
                · obtain ⟨h1, h2⟩ := hH6 p (List.mem_cons_of_mem _ z)
                  exact ⟨by rw [upd_ne (hBD p z)]; exact h1, h2⟩
      · have e : i = ds.length := by omega
        subst e
        refine .inl ⟨K.stop R' E'.gs hHB (Nat.le_refl _), ?_⟩
        rw [List.drop_length] at hgo
        simp only [compGo] at hgo
        subst hgo
        obtain ⟨R2, E2, ow⟩ := R1.unwiped R' E'
        have hHu : Held G' ⟨unwipe vs st1.r st'.r, st'.s⟩ σ H' ((D, .lst xs) :: B) := fun p hp => by
          obtain ⟨h1, h2⟩ := hH p hp
          exact ⟨h1, fun z => ⟨(h2 z).1, fun o => (h2 z).2 (ow _ o)⟩⟩
        have hHuB : Held G' ⟨unwipe vs st1.r st'.r, st'.s⟩ σ H' B := fun p hp => hHu p (List.mem_cons_of_mem _ hp)
        obtain ⟨hDx, hDn⟩ := hHu (D, .lst xs) List.mem_cons_self
        obtain ⟨hDF, hDO⟩ := hDn rfl
        have x := (E1.es.trans E2).gives R2 (LO.mono E2.gs) hHuB fB
        have ow2 := (R2.gives (LO.mono E2.gs) hHuB).2
        refine p1 G' H' (.ref D) x.1 x.2.ext ?_
        unfold RR
        rw [if_pos (by rfl)]
        refine ⟨D, rfl, hDF, fun o => (ow2 D o).elim hDO fun ⟨p, hp, z, _⟩ => hBD p hp z, ⟨xs, hDx, rs⟩, .inl ?_⟩
        cases hh : H D with
        | none => rfl
        | some u => exact absurd hD (E1.there _ (by rw [hh]; exact fun z => nomatch z))
/-- as a value -/
theorem se_lc (hc : X.calm = true) (hN : X.N.Nodup) (hi : SI Y W X tg iter (evsrc I src)) (ok : BlkOk X.N X.env.scope scope own) (hv : own.map (·.2) = vs) (hsub : ∀ j ∈ Tg.own t, j ∈ vs)
    (hg : ∀ (s : Shared) (H : Hp) (C : Addr) (cl : List (Str × Addr)) (fp : List Addr), SG Y (X.blk s H scope (compEnvC scope cl C X.env) fp) tg t)
    (ht : ∀ (s : Shared) (H : Hp) (C : Addr) (cl : List (Str × Addr)) (fp : List Addr), PTs (X.blk s H scope (compEnvC scope cl C X.env) fp) ifs (rT Y WF (evAnd I mifs)))
    (he : ∀ (s : Shared) (H : Hp) (C : Addr) (cl : List (Str × Addr)) (fp : List Addr), SE Y WF (X.blk s H scope (compEnvC scope cl C X.env) fp) elt (ev I me)) (hs : ∀ x, foldedSetIterable iter X.env x = pure x) :
    SE Y W X (.ListComp elt [⟨tg, iter, ifs, 0⟩] scope pos) (ev I (.lc vs [.mk t src mifs] me)) := by
  subst hv
  exact PE.imp (pe_lc hc hN hi ok hg ht he hs) (lc_tr hsub)
/-- name = [..] on one line -/
theorem ss_setLc {i : Nat} {y : Str} {py spos : Pos} (hc : X.calm = true) (hN : X.N.Nodup) (hy : X.N[i]? = some y) (hyl : X.env.scope.names.lookup y = some .local)
    (hsw : swapsWith (.ListComp elt [⟨tg, iter, ifs, 0⟩] scope pos) (some (.Name y py)) spos.line X.env = pure true) (hi : SI Y W X tg iter (evsrc I src)) (ok : BlkOk X.N X.env.scope scope own) (hv : own.map (·.2) = vs) (hsub : ∀ j ∈ Tg.own t, j ∈ vs)
    (hg : ∀ (s : Shared) (H : Hp) (C : Addr) (cl : List (Str × Addr)) (fp : List Addr), SG Y (X.blk s H scope (compEnvC scope cl C X.env) fp) tg t)
    (ht : ∀ (s : Shared) (H : Hp) (C : Addr) (cl : List (Str × Addr)) (fp : List Addr), PTs (X.blk s H scope (compEnvC scope cl C X.env) fp) ifs (rT Y WF (evAnd I mifs)))
    (he : ∀ (s : Shared) (H : Hp) (C : Addr) (cl : List (Str × Addr)) (fp : List Addr), SE Y WF (X.blk s H scope (compEnvC scope cl C X.env) fp) elt (ev I me)) (hs : ∀ x, foldedSetIterable iter X.env x = pure x) :
    SS Y W X (.Assign [.Name y py] (.ListComp elt [⟨tg, iter, ifs, 0⟩] scope pos) spos) (exS I (.asg (.nm i) (.lc vs [.mk t src mifs] me))) := by
  subst hv
  refine PS.imp (ps_setLc hc hN hy hyl hsw hi ok hg ht he hs) fun D0 σ H ⟨G, st, R, p⟩ => ?_
  refine lc_tr hsub σ H _ ⟨G, st, R, ?_⟩
  simp only [exS, asgO] at p
  refine (PostE.bindS p).mono fun v H1 ⟨d, fr, st1, G1, _, R1, E1, r1, p1⟩ => ?_
  unfold RR at r1
  have hl := R1.len
  refine p1 G1 (σ.set i (some v)) H1 ?_ ?_
  · refine R1.store (fun z => ?_) fun z => ?_
    · rw [if_neg (by rw [z]; exact Bool.false_ne_true)] at r1
      exact r1
    · rw [if_pos z] at r1
      obtain ⟨a, e, f, n, c, _⟩ := r1
      exact ⟨a, e, f, n, c⟩
  · refine ES.store hl E1 fun z => ?_
    rw [if_pos z] at r1
    obtain ⟨a, e, f, n, c, y⟩ := r1
    exact ⟨a, e, y⟩
/-- the tests -/
theorem pts0 : PTs X [] (rT Y W (evAnd I [])) := by
  refine ⟨fun pins s σ H Q I' h => pts_nil.run pins s σ H Q I' ?_⟩
  obtain ⟨G, st, R, p⟩ := h
  simp only [evAnd] at p
  exact p G H R .refl
theorem pts1 {c : Expr} {mc : Ex} (h : SB Y W X c (tst mc (ev I mc))) : PTs X [c] (rT Y W (evAnd I [mc])) := by
  refine ⟨fun pins s σ H Q I' q => (pts_one h).run pins s σ H Q I' ?_⟩
  obtain ⟨G, st, R, p⟩ := q
  refine ⟨G, st, R, ?_⟩
  simp only [evAnd] at p
  cases q : tst mc (ev I mc) st with
  | ok r => obtain ⟨b, st1⟩ := r; rw [q] at p; cases b <;> exact p
  | exc c s => rw [q] at p; exact p
  | stuck => rw [q] at p; exact p
end
end Mi

set_option Elab.async false
set_option linter.all false
set_option maxRecDepth 100000
namespace Mi
open PySem PySem.Spec PyProof.Rows L2
section
variable {Y : Wd} {W : WX} {X : Cx} {I : Info} {e : Expr} {m : Ex} {pos p : Pos} {x : Str}
/-- one operand as an argument list -/
theorem so_pa {f : St → Out (Ov × St)} (h : SO Y W X e f) (hs : starEach [e] X.env = [(false, eval e X.env)]) : PA X [e] (fun σ H Q => rO Y W f σ H fun v H1 => Q [v] H1) := by
  refine PA.imp (pa_cons h pa_nil hs) fun σ H Q ⟨G, st, R, p⟩ => ⟨G, st, R, ?_⟩
  exact p
theorem se_call1 {id : String} {r : List V → Hp → VK → Prop} {k : D → St → Out ((D × Bool) × St)} (h : SO Y W X e (opd m (ev I m))) (hs : starEach [e] X.env = [(false, eval e X.env)])
    (hc : CallR X (.builtin id) r) (hg : Gl X x) (hm : X.mg x = none) (hv : bootBuiltins x = some (.builtin id)) (hn : x ≠ "__name__") (hdb : (x == ("__debug__" : Str)) = false) {me : Ex} (he : ev I me = one k (opd m (ev I m)))
    (hr : ∀ v H Q, rOne Y W k v H Q → r [v] H Q) : SE Y W X (.Call (.Name x p) [e] [] pos) (ev I me) := by
  rw [SE, he]
  refine PE.imp (pe_callB hc hg hm hv (so_pa h hs) hn hdb hs rfl) fun σ H Q hh => ?_
  obtain ⟨G, st, R, q⟩ := one_read σ H Q hh
  exact ⟨G, st, R, q.mono fun v H1 z => hr v H1 Q z⟩
theorem se_callT1 {T : String} {r : List V → Hp → VK → Prop} {k : D → St → Out ((D × Bool) × St)} (h : SO Y W X e (opd m (ev I m))) (hs : starEach [e] X.env = [(false, eval e X.env)])
    (hc : CallR X (.type T) r) (hg : Gl X x) (hm : X.mg x = none) (hv : bootBuiltins x = some (.type T)) (hn : x ≠ "__name__") (hdb : (x == ("__debug__" : Str)) = false) {me : Ex} (he : ev I me = one k (opd m (ev I m)))
    (hr : ∀ v H Q, rOne Y W k v H Q → r [v] H Q) : SE Y W X (.Call (.Name x p) [e] [] pos) (ev I me) := by
  rw [SE, he]
  refine PE.imp (pe_callTy hc hg hm hv (so_pa h hs) hn hdb hs rfl) fun σ H Q hh => ?_
  obtain ⟨G, st, R, q⟩ := one_read σ H Q hh
  exact ⟨G, st, R, q.mono fun v H1 z => hr v H1 Q z⟩
/-! ### len -/
theorem call_lenD : CallR X (.builtin "len") (fun xs H Q => ∃ (a : Addr) (kvs : List (Key × V)), xs = [.ref a] ∧ Rd H a (.dK kvs) ∧ Q (.int kvs.length) H) := by
  intro pins s σ H xs us Q I r h
  obtain ⟨a, kvs, rfl, e, q⟩ := h
  rw [Vals.ref1 r]
  exact d_len I e fun t s' I' => ⟨.int kvs.length, H, I', ⟨t, rfl⟩, q⟩
def kF1 (f : F1) (d : D) (st : St) : Out ((D × Bool) × St) := ans (f1D f d) st
theorem ev_f1 {f : F1} : ev I (.f1 f m) = one (kF1 f) (opd m (ev I m)) := by funext st; simp only [ev]; rfl
theorem len_ok {v : V} {H : Hp} {Q : VK} (hK : X.K = Y.K) : rOne Y W (kF1 .len) v H Q → (∃ x n, [v] = [x] ∧ LenV X.K x H n ∧ Q (.int n) H) ∨ ∃ (a : Addr) (kvs : List (Key × V)), [v] = [.ref a] ∧ Rd H a (.dK kvs) ∧ Q (.int kvs.length) H := by
  rintro ⟨G, st, σ, dx, R, vx, p⟩
  obtain ⟨d, fr, e, p⟩ := ans_ok p
  simp only [f1D, Option.map_eq_some_iff] at e
  obtain ⟨n, hn, e⟩ := e
  cases e
  have q : Q (.int n) H := p.flat R (by simp) (by simp only [RV])
  cases dx with
  | str s =>
    simp only [lenD] at hn
    split at hn
    · rename_i z
      cases hn
      simp only [VV] at vx
      rw [vx.1]
      refine .inl ⟨_, s.length, rfl, ⟨?_, ?_⟩, q⟩
      · rw [stOf_len]; exact Nat.le_of_ble_eq_true z
      · rw [stOf_len]
    · cases hn
  | tup l =>
    obtain ⟨a, xs, ev, t, r⟩ := vx
    cases hn
    subst ev
    refine .inl ⟨_, _, rfl, .inr ⟨xs, ?_, r.length⟩, q⟩
    rw [hK]; exact t.sq R
  | lst l =>
    obtain ⟨a, xs, ev, t, r⟩ := vx
    cases hn
    subst ev
    exact .inl ⟨_, _, rfl, .inl ⟨xs, .inl (.inl t), r.length⟩, q⟩
  | dct ks vs =>
    obtain ⟨a, xs, ys, ev, t, r, _⟩ := vx
    cases hn
    subst ev
    cases t with
    | dK kvs t =>
      have hl := r.length
      rw [List.length_map] at hl
      rw [hl] at q
      exact .inr ⟨a, kvs, rfl, t, q⟩
  | _ => simp [lenD] at hn
theorem se_len (hK : X.K = Y.K) (h : SO Y W X e (opd m (ev I m))) (hs : starEach [e] X.env = [(false, eval e X.env)]) (hg : Gl X "len") (hm : X.mg "len" = none) : SE Y W X (.Call (.Name "len" p) [e] [] pos) (ev I (.f1 .len m)) :=
  se_call1 h hs (call_len.or call_lenD) hg hm (by decide +kernel) (by decide) (by decide) ev_f1 fun v H Q => len_ok hK
/-! ### all, any -/
theorem boolsOf_ok {F : Hp} {al : Nat → Option Addr} : ∀ {l : List D} {xs : List V} {bs : List Bool}, RVs Y F al l xs → boolsOf l = some bs → xs = bs.map V.bl
  | [], xs, bs, r, h => by simp only [boolsOf] at h; cases h; simp only [RVs] at r; rw [r]; rfl
  | d :: l, xs, bs, r, h => by
    simp only [RVs] at r
    obtain ⟨x, r', e, rd, rl⟩ := r
    cases d with
    | bl b =>
      simp only [boolsOf, Option.map_eq_some_iff] at h
      obtain ⟨bs', h1, h2⟩ := h
      subst h2
      simp only [RV] at rd
      rw [e, rd, boolsOf_ok rl h1, List.map_cons]
    | _ => simp [boolsOf] at h
theorem intsOf_ok {F : Hp} {al : Nat → Option Addr} : ∀ {l : List D} {xs : List V} {bs : List Int}, RVs Y F al l xs → intsOf l = some bs → xs = bs.map V.int
  | [], xs, bs, r, h => by simp only [intsOf] at h; cases h; simp only [RVs] at r; rw [r]; rfl
  | d :: l, xs, bs, r, h => by
    simp only [RVs] at r
    obtain ⟨x, r', e, rd, rl⟩ := r
    cases d with
    | int b =>
      simp only [intsOf, Option.map_eq_some_iff] at h
      obtain ⟨bs', h1, h2⟩ := h
      subst h2
      simp only [RV] at rd
      rw [e, rd, intsOf_ok rl h1, List.map_cons]
    | _ => simp [intsOf] at h
theorem boolsL {f : F1} {g : List Bool → Bool} (hf : ∀ dx d fr, f1D f dx = some (d, fr) → ∃ l bs, dx = .lst l ∧ boolsOf l = some bs ∧ d = .bl (g bs) ∧ fr = false) {v : V} {H : Hp} {Q : VK} (hK : X.K = Y.K) (h : rOne Y W (kF1 f) v H Q) :
    ∃ (a : Addr) (bs : List Bool), [v] = [V.ref a] ∧ SqL X.K H a (bs.map V.bl) ∧ Q (.bl (g bs)) H := by
  obtain ⟨G, st, σ, dx, R, vx, p⟩ := h
  obtain ⟨d, fr, e, p⟩ := ans_ok p
  obtain ⟨l, bs, rfl, hb, rfl, rfl⟩ := hf _ _ _ e
  obtain ⟨a, xs, ev, t, r⟩ := vx
  have := boolsOf_ok r hb
  subst this
  subst ev
  exact ⟨a, bs, rfl, .inl (.inl t), p.flat R (by simp) (by simp only [RV])⟩
theorem se_all (hK : X.K = Y.K) (hc : X.calm = true) (h : SO Y W X e (opd m (ev I m))) (hs : starEach [e] X.env = [(false, eval e X.env)]) (hg : Gl X "all") (hm : X.mg "all" = none) : SE Y W X (.Call (.Name "all" p) [e] [] pos) (ev I (.f1 .all m)) :=
  se_call1 h hs (cr_all hc) hg hm (by decide +kernel) (by decide) (by decide) ev_f1 fun v H Q hh => boolsL (f := .all) (g := fun bs => bs.all id) (fun dx d fr e => by
    cases dx with
    | lst l =>
      simp only [f1D, Option.map_eq_some_iff] at e
      obtain ⟨bs, h1, h2⟩ := e
      cases h2
      exact ⟨l, bs, rfl, h1, rfl, rfl⟩
    | _ => simp [f1D] at e) hK hh
theorem se_any (hK : X.K = Y.K) (hc : X.calm = true) (h : SO Y W X e (opd m (ev I m))) (hs : starEach [e] X.env = [(false, eval e X.env)]) (hg : Gl X "any") (hm : X.mg "any" = none) : SE Y W X (.Call (.Name "any" p) [e] [] pos) (ev I (.f1 .any m)) :=
  se_call1 h hs (cr_any hc) hg hm (by decide +kernel) (by decide) (by decide) ev_f1 fun v H Q hh => boolsL (f := .any) (g := fun bs => bs.any id) (fun dx d fr e => by
    cases dx with
    | lst l =>
      simp only [f1D, Option.map_eq_some_iff] at e
      obtain ⟨bs, h1, h2⟩ := e
      cases h2
      exact ⟨l, bs, rfl, h1, rfl, rfl⟩
    | _ => simp [f1D] at e) hK hh
/-! ### sum, max, min -/
theorem maxI_ok : ∀ (ns : List Int) (a : Int), maxI a ns ∈ a :: ns ∧ ∀ y ∈ a :: ns, y ≤ maxI a ns
  | [], a => by simp [maxI]
  | i :: r, a => by
    obtain ⟨h1, h2⟩ := maxI_ok r (if i > a then i else a)
    simp only [maxI]
    refine ⟨?_, fun y hy => ?_⟩
    · rcases List.mem_cons.mp h1 with z | z
      · rw [z]; split <;> simp
      · exact List.mem_cons_of_mem _ (List.mem_cons_of_mem _ z)
    · have h0 := h2 _ (List.mem_cons_self ..)
      rcases List.mem_cons.mp hy with z | z
      · subst z; refine Int.le_trans ?_ h0; split <;> omega
      · rcases List.mem_cons.mp z with z | z
        · subst z; refine Int.le_trans ?_ h0; split <;> omega
        · exact h2 _ (List.mem_cons_of_mem _ z)
theorem minI_ok : ∀ (ns : List Int) (a : Int), minI a ns ∈ a :: ns ∧ ∀ y ∈ a :: ns, minI a ns ≤ y
  | [], a => by simp [minI]
  | i :: r, a => by
    obtain ⟨h1, h2⟩ := minI_ok r (if i < a then i else a)
    simp only [minI]
    refine ⟨?_, fun y hy => ?_⟩
    · rcases List.mem_cons.mp h1 with z | z
      · rw [z]; split <;> simp
      · exact List.mem_cons_of_mem _ (List.mem_cons_of_mem _ z)
    · have h0 := h2 _ (List.mem_cons_self ..)
      rcases List.mem_cons.mp hy with z | z
      · subst z; refine Int.le_trans h0 ?_; split <;> omega
      · rcases List.mem_cons.mp z with z | z
        · subst z; refine Int.le_trans h0 ?_; split <;> omega
        · exact h2 _ (List.mem_cons_of_mem _ z)
theorem se_sum (hK : X.K = Y.K) (hc : X.calm = true) (h : SO Y W X e (opd m (ev I m))) (hs : starEach [e] X.env = [(false, eval e X.env)]) (hg : Gl X "sum") (hm : X.mg "sum" = none) : SE Y W X (.Call (.Name "sum" p) [e] [] pos) (ev I (.f1 .sum m)) :=
  se_call1 h hs (cr_sum hc) hg hm (by decide +kernel) (by decide) (by decide) ev_f1 fun v H Q ⟨G, st, σ, dx, R, vx, p⟩ => by
    obtain ⟨d, fr, e, p⟩ := ans_ok p
    cases dx with
    | lst l =>
      simp only [f1D, Option.map_eq_some_iff] at e
      obtain ⟨ns, h1, h2⟩ := e
      cases h2
      obtain ⟨a, xs, ev, t, r⟩ := vx
      have := intsOf_ok r h1
      subst this
      subst ev
      exact ⟨a, ns, rfl, .inl (.inl t), p.flat R (by simp) (by simp only [RV])⟩
    | _ => simp [f1D] at e
theorem se_max (hK : X.K = Y.K) (hc : X.calm = true) (h : SO Y W X e (opd m (ev I m))) (hs : starEach [e] X.env = [(false, eval e X.env)]) (hg : Gl X "max") (hm : X.mg "max" = none) : SE Y W X (.Call (.Name "max" p) [e] [] pos) (ev I (.f1 .max m)) :=
  se_call1 h hs (cr_max hc) hg hm (by decide +kernel) (by decide) (by decide) ev_f1 fun v H Q ⟨G, st, σ, dx, R, vx, p⟩ => by
    obtain ⟨d, fr, e, p⟩ := ans_ok p
    cases dx with
    | lst l =>
      cases l with
      | nil => simp [f1D] at e
      | cons d0 l =>
        cases d0 with
        | int i =>
          simp only [f1D, Option.map_eq_some_iff] at e
          obtain ⟨ns, h1, h2⟩ := e
          cases h2
          obtain ⟨a, xs, ev, t, r⟩ := vx
          have := intsOf_ok (bs := i :: ns) r (by simp [intsOf, h1])
          subst this
          subst ev
          obtain ⟨m1, m2⟩ := maxI_ok ns i
          refine ⟨a, i :: ns, rfl, .inl (.inl t), by simp, fun m hm hle => ?_⟩
          have : m = maxI i ns := Int.le_antisymm (m2 _ hm) (hle _ m1)
          subst this
          exact p.flat R (by simp) (by simp only [RV])
        | _ => simp [f1D] at e
    | _ => simp [f1D] at e
theorem se_min (hK : X.K = Y.K) (hc : X.calm = true) (h : SO Y W X e (opd m (ev I m))) (hs : starEach [e] X.env = [(false, eval e X.env)]) (hg : Gl X "min") (hm : X.mg "min" = none) : SE Y W X (.Call (.Name "min" p) [e] [] pos) (ev I (.f1 .min m)) :=
  se_call1 h hs (cr_min hc) hg hm (by decide +kernel) (by decide) (by decide) ev_f1 fun v H Q ⟨G, st, σ, dx, R, vx, p⟩ => by
    obtain ⟨d, fr, e, p⟩ := ans_ok p
    cases dx with
    | lst l =>
      cases l with
      | nil => simp [f1D] at e
      | cons d0 l =>
        cases d0 with
        | int i =>
          simp only [f1D, Option.map_eq_some_iff] at e
          obtain ⟨ns, h1, h2⟩ := e
          cases h2
          obtain ⟨a, xs, ev, t, r⟩ := vx
          have := intsOf_ok (bs := i :: ns) r (by simp [intsOf, h1])
          subst this
          subst ev
          obtain ⟨m1, m2⟩ := minI_ok ns i
          refine ⟨a, i :: ns, rfl, .inl (.inl t), by simp, fun m hm hle => ?_⟩
          have : m = minI i ns := Int.le_antisymm (hle _ m1) (m2 _ hm)
          subst this
          exact p.flat R (by simp) (by simp only [RV])
        | _ => simp [f1D] at e
    | _ => simp [f1D] at e
/-! ### int, list, tuple -/
theorem se_int (h : SO Y W X e (opd m (ev I m))) (hs : starEach [e] X.env = [(false, eval e X.env)]) (hg : Gl X "int") (hm : X.mg "int" = none) : SE Y W X (.Call (.Name "int" p) [e] [] pos) (ev I (.f1 .int m)) :=
  se_callT1 h hs call_int1 hg hm (by decide +kernel) (by decide) (by decide) ev_f1 fun v H Q ⟨G, st, σ, dx, R, vx, p⟩ => by
    obtain ⟨d, fr, e, p⟩ := ans_ok p
    cases dx with
    | int i =>
      simp only [f1D, Option.some.injEq, Prod.mk.injEq] at e
      obtain ⟨rfl, rfl⟩ := e
      simp only [VV] at vx
      subst vx
      exact .inl ⟨i, rfl, p.flat R (by simp) (by simp only [RV])⟩
    | bl b =>
      simp only [f1D, Option.some.injEq, Prod.mk.injEq] at e
      obtain ⟨rfl, rfl⟩ := e
      simp only [VV] at vx
      subst vx
      exact .inr ⟨b, rfl, p.flat R (by simp) (by simp only [RV])⟩
    | _ => simp [f1D] at e
theorem se_list (hK : X.K = Y.K) (hc : X.calm = true) (h : SO Y W X e (opd m (ev I m))) (hs : starEach [e] X.env = [(false, eval e X.env)]) (hg : Gl X "list") (hm : X.mg "list" = none) : SE Y W X (.Call (.Name "list" p) [e] [] pos) (ev I (.f1 .list m)) :=
  se_callT1 h hs (call_list_of.or (call_listD hc)) hg hm (by decide +kernel) (by decide) (by decide) ev_f1 fun v H Q ⟨G, st, σ, dx, R, vx, p⟩ => by
    obtain ⟨d, fr, e, p⟩ := ans_ok p
    cases dx with
    | lst l =>
      simp only [f1D, Option.some.injEq, Prod.mk.injEq] at e
      obtain ⟨rfl, rfl⟩ := e
      obtain ⟨a, xs, ev, t, r⟩ := vx
      subst ev
      exact .inl ⟨a, xs, rfl, .inl (.inl (.inl t)), p.newL R r⟩
    | tup l =>
      simp only [f1D, Option.some.injEq, Prod.mk.injEq] at e
      obtain ⟨rfl, rfl⟩ := e
      obtain ⟨a, xs, ev, t, r⟩ := vx
      subst ev
      exact .inl ⟨a, xs, rfl, .inr (by rw [hK]; exact t.sq R), p.newL R r⟩
    | dct ks vs =>
      simp only [f1D, Option.some.injEq, Prod.mk.injEq] at e
      obtain ⟨rfl, rfl⟩ := e
      obtain ⟨a, xs, ys, ev, t, r, _⟩ := vx
      subst ev
      cases t with
      | dK kvs t => exact .inr ⟨a, kvs, rfl, t, p.newL R r⟩
    | _ => simp [f1D] at e
theorem se_tuple (hK : X.K = Y.K) (hc : X.calm = true) (h : SO Y W X e (opd m (ev I m))) (hs : starEach [e] X.env = [(false, eval e X.env)]) (hg : Gl X "tuple") (hm : X.mg "tuple" = none) : SE Y W X (.Call (.Name "tuple" p) [e] [] pos) (ev I (.f1 .tuple m)) :=
  se_callT1 h hs call_tuple_of hg hm (by decide +kernel) (by decide) (by decide) ev_f1 fun v H Q ⟨G, st, σ, dx, R, vx, p⟩ => by
    obtain ⟨d, fr, e, p⟩ := ans_ok p
    cases dx with
    | lst l =>
      simp only [f1D, Option.some.injEq, Prod.mk.injEq] at e
      obtain ⟨rfl, rfl⟩ := e
      obtain ⟨a, xs, ev, t, r⟩ := vx
      subst ev
      exact ⟨a, xs, rfl, .inl ⟨.inl (.inl t), p.newT R r⟩⟩
    | tup l =>
      simp only [f1D, Option.some.injEq, Prod.mk.injEq] at e
      obtain ⟨rfl, rfl⟩ := e
      obtain ⟨a, xs, ev, t, r⟩ := vx
      subst ev
      refine ⟨a, xs, rfl, .inr ⟨by rw [hK]; exact t.sq R, p.flat R (by simp) ?_⟩⟩
      simp only [RV]
      exact ⟨a, xs, rfl, t, r⟩
    | _ => simp [f1D] at e
end
end Mi

set_option Elab.async false
set_option linter.all false
set_option maxRecDepth 100000
namespace Mi
open PySem PySem.Spec PyProof.Rows L2
/-! ### keys -/
def keyOf : D → Option Key
  | .int i => some (.inl i)
  | .str s => some (.inr (stOf s))
  | _ => none
theorem isKey_of {d : D} (h : d.isKey = true) : ∃ k, keyOf d = some k := by
  cases d <;> first | exact ⟨_, rfl⟩ | (simp [D.isKey] at h)
section
variable {Y : Wd} {F : Hp} {al : Nat → Option Addr}
theorem keyOf_V {d : D} {k : Key} {v : V} (h : keyOf d = some k) (r : RV Y F al d v) : v = kV k := by
  cases d with
  | int i => cases h; simp only [RV] at r; exact r
  | str s => cases h; simp only [RV] at r; exact r.1
  | _ => cases h
theorem keyOf_R {d : D} {k : Key} (r : RV Y F al d (kV k)) : keyOf d = some k := by
  cases k with
  | inl i =>
    cases d with
    | int j => simp only [RV] at r; cases r; rfl
    | str s => simp only [RV] at r; cases r.1
    | bl b => simp only [RV] at r; cases r
    | non => simp only [RV] at r; cases r
    | tup l => simp only [RV] at r; obtain ⟨_, _, e, _⟩ := r; cases e
    | lst l => simp only [RV] at r; obtain ⟨_, _, e, _⟩ := r; cases e
    | dct l m => simp only [RV] at r; obtain ⟨_, _, _, e, _⟩ := r; cases e
    | obj c n l => simp only [RV] at r; obtain ⟨_, _, _, e, _⟩ := r; cases e
    | ref n => simp only [RV] at r; obtain ⟨_, e, _⟩ := r; cases e
    | err n o => simp only [RV] at r; obtain ⟨_, e, _⟩ := r; cases e
    | scr n => simp only [RV] at r; obtain ⟨_, e, _⟩ := r; cases e
  | inr x =>
    cases d with
    | int j => simp only [RV] at r; cases r
    | str s => simp only [RV] at r; obtain ⟨e, _⟩ := r; cases e; rfl
    | bl b => simp only [RV] at r; cases r
    | non => simp only [RV] at r; cases r
    | tup l => simp only [RV] at r; obtain ⟨_, _, e, _⟩ := r; cases e
    | lst l => simp only [RV] at r; obtain ⟨_, _, e, _⟩ := r; cases e
    | dct l m => simp only [RV] at r; obtain ⟨_, _, _, e, _⟩ := r; cases e
    | obj c n l => simp only [RV] at r; obtain ⟨_, _, _, e, _⟩ := r; cases e
    | ref n => simp only [RV] at r; obtain ⟨_, e, _⟩ := r; cases e
    | err n o => simp only [RV] at r; obtain ⟨_, e, _⟩ := r; cases e
    | scr n => simp only [RV] at r; obtain ⟨_, e, _⟩ := r; cases e
theorem keq_ok {a b : D} {j k : Key} (ha : keyOf a = some j) (hb : keyOf b = some k) : D.keq a b = decide (j = k) := by
  cases a with
  | int i => cases b with
    | int i' =>
      cases ha; cases hb
      simp only [D.keq, D.eq]
      by_cases h : i = i'
      · subst h; simp
      · have h' : ¬ ((Sum.inl i : Key) = Sum.inl i') := fun z => h (Sum.inl.inj z)
        simp [h, h']
    | str s => cases ha; cases hb; simp [D.keq, D.eq]
    | _ => cases hb
  | str s => cases b with
    | int i => cases ha; cases hb; simp [D.keq, D.eq]
    | str s' =>
      cases ha; cases hb
      simp only [D.keq, D.eq]
      by_cases h : s = s'
      · subst h; simp
      · have h' : ¬ ((Sum.inr (stOf s) : Key) = Sum.inr (stOf s')) := fun z => h (stOf_inj.mp (Sum.inr.inj z))
        simp [h, h']
    | _ => cases hb
  | _ => cases ha
def RK (Y : Wd) (F : Hp) (al : Nat → Option Addr) (ks vs : List D) (kvs : List (Key × V)) : Prop := RVs Y F al ks (kvs.map fun p => kV p.1) ∧ RVs Y F al vs (kvs.map (·.2))
theorem RK.cons_inv {ks vs : List D} {p : Key × V} {kvs : List (Key × V)} (h : RK Y F al ks vs (p :: kvs)) : ∃ k ks' v vs', ks = k :: ks' ∧ vs = v :: vs' ∧ keyOf k = some p.1 ∧ RV Y F al k (kV p.1) ∧ RV Y F al v p.2 ∧ RK Y F al ks' vs' kvs := by
  obtain ⟨h1, h2⟩ := h
  simp only [List.map_cons] at h1 h2
  cases ks with
  | nil => simp only [RVs] at h1; cases h1
  | cons k ks =>
    cases vs with
    | nil => simp only [RVs] at h2; cases h2
    | cons v vs =>
      simp only [RVs] at h1 h2
      obtain ⟨x, r, e, rk, rks⟩ := h1
      obtain ⟨y, r2, e2, rv, rvs⟩ := h2
      cases e; cases e2
      exact ⟨k, ks, v, vs, rfl, rfl, keyOf_R rk, rk, rv, rks, rvs⟩
theorem RK.nil_inv {ks vs : List D} (h : RK Y F al ks vs []) : ks = [] ∧ vs = [] := by
  obtain ⟨h1, h2⟩ := h
  have e1 := h1.length
  have e2 := h2.length
  simp at e1 e2
  exact ⟨e1, e2⟩
theorem RK.len {ks vs : List D} {kvs : List (Key × V)} (h : RK Y F al ks vs kvs) : ks.length = kvs.length ∧ vs.length = kvs.length := by
  have e1 := h.1.length
  have e2 := h.2.length
  simp at e1 e2
  exact ⟨e1, e2⟩
theorem getK_ok {d : D} {k : Key} (hk : keyOf d = some k) : ∀ {kvs : List (Key × V)} {ks vs : List D}, RK Y F al ks vs kvs → (∀ x, getK d ks vs = some x → ∃ v, valV kvs k = some v ∧ RV Y F al x v) ∧ (getK d ks vs = none → valV kvs k = none)
  | [], ks, vs, h => by
    obtain ⟨rfl, rfl⟩ := h.nil_inv
    exact ⟨fun x h => by simp [getK] at h, fun _ => rfl⟩
  | p :: kvs, ks, vs, h => by
    obtain ⟨k', ks', v', vs', rfl, rfl, hk', rk, rv, hr⟩ := h.cons_inv
    simp only [getK, keq_ok hk' hk]
    by_cases e : p.1 = k
    · rw [decide_eq_true e, if_pos rfl, valV_pos e]
      exact ⟨fun x h => by cases h; exact ⟨_, rfl, rv⟩, fun h => by cases h⟩
    · rw [decide_eq_false e, if_neg Bool.false_ne_true, valV_neg e]
      exact getK_ok hk hr
theorem hasK_ok {d : D} {k : Key} (hk : keyOf d = some k) : ∀ {kvs : List (Key × V)} {ks vs : List D}, RK Y F al ks vs kvs → hasK d ks = (kvs.any fun kv => decide (kv.1 = k))
  | [], ks, vs, h => by
    obtain ⟨rfl, rfl⟩ := h.nil_inv
    rfl
  | p :: kvs, ks, vs, h => by
    obtain ⟨k', ks', v', vs', rfl, rfl, hk', rk, rv, hr⟩ := h.cons_inv
    have ih := hasK_ok hk hr
    unfold hasK at ih ⊢
    rw [List.any_cons, List.any_cons, keq_ok hk' hk, ih]
theorem putV_ok {d x : D} {k : Key} {v : V} (hk : keyOf d = some k) (rx : RV Y F al x v) : ∀ {kvs : List (Key × V)} {ks vs : List D}, RK Y F al ks vs kvs → RK Y F al ks (putV d x ks vs) (kvs.map fun kv => if kv.1 = k then (kv.1, v) else kv)
  | [], ks, vs, h => by
    obtain ⟨rfl, rfl⟩ := h.nil_inv
    exact ⟨RVs.nil, RVs.nil⟩
  | p :: kvs, ks, vs, h => by
    obtain ⟨k', ks', v', vs', rfl, rfl, hk', rk, rv, hr⟩ := h.cons_inv
    obtain ⟨i1, i2⟩ := putV_ok hk rx hr
    simp only [putV, keq_ok hk' hk, List.map_cons]
    by_cases e : p.1 = k
    · simp only [e, decide_true, if_true]
      subst e
      exact ⟨RVs.cons rk i1, RVs.cons rx i2⟩
    · simp only [e, decide_false, if_false]
      exact ⟨RVs.cons rk i1, RVs.cons rv i2⟩
theorem putK_ok {d x : D} {k : Key} {v : V} (hk : keyOf d = some k) (rd : RV Y F al d (kV k)) (rx : RV Y F al x v) {kvs : List (Key × V)} {ks vs : List D} (h : RK Y F al ks vs kvs) : RK Y F al (putK d x ks vs).1 (putK d x ks vs).2 (L2.putK kvs k v) := by
  unfold Mi.putK L2.putK
  rw [hasK_ok hk h]
  by_cases e : (kvs.any fun kv => decide (kv.1 = k)) = true
  · rw [if_pos e, if_pos e]
    exact putV_ok hk rx h
  · rw [if_neg e, if_neg e]
    exact ⟨by rw [List.map_append]; exact h.1.app (RVs.cons rd RVs.nil), by rw [List.map_append]; exact h.2.app (RVs.cons rx RVs.nil)⟩
theorem dropK_ok {d : D} {k : Key} (hk : keyOf d = some k) : ∀ {kvs : List (Key × V)} {ks vs : List D}, RK Y F al ks vs kvs → RK Y F al (dropK d ks vs).1 (dropK d ks vs).2 (L2.dropK kvs k)
  | [], ks, vs, h => by
    obtain ⟨rfl, rfl⟩ := h.nil_inv
    exact ⟨RVs.nil, RVs.nil⟩
  | p :: kvs, ks, vs, h => by
    obtain ⟨k', ks', v', vs', rfl, rfl, hk', rk, rv, hr⟩ := h.cons_inv
    have ih := dropK_ok hk hr
    unfold L2.dropK at ih ⊢
    simp only [Mi.dropK, keq_ok hk' hk, List.filter_cons]
    by_cases e : p.1 = k
    · simp only [e, decide_true, if_true, ne_eq, not_true_eq_false, decide_false, Bool.false_eq_true, if_false]
      exact ih
    · simp only [e, decide_false, Bool.false_eq_true, if_false, ne_eq, not_false_eq_true, decide_true, if_true]
      exact ⟨RVs.cons rk ih.1, RVs.cons rv ih.2⟩
end
end Mi

set_option Elab.async false
set_option linter.all false
set_option maxRecDepth 100000
namespace Mi
open PySem PySem.Spec PyProof.Rows L2
section
variable {Y : Wd} {W : WX} {X : Cx} {I : Info} {a b e : Expr} {ma mb m : Ex} {pos p : Pos} {G : Gh} {st : St} {σ : L2.St} {H : Hp}
theorem VV.key {d : D} {v : V} (h : VV Y G H d v) (hk : d.isKey = true) : ∃ k, keyOf d = some k ∧ v = kV k ∧ RV Y G.F G.al d v := by
  cases d with
  | int i => simp only [VV] at h; exact ⟨_, rfl, h, by simpa only [RV] using h⟩
  | str s => simp only [VV] at h; exact ⟨_, rfl, h.1, by simpa only [RV] using h⟩
  | _ => simp [D.isKey] at hk
/-- a dict that is read, by a key -/
theorem dget_ok {d : D} {ks vs : List D} {y x : V} (hx : VV Y G H d y) (hk : d.isKey = true) (h : VV Y G H (.dct ks vs) x) : ∃ a k kvs, x = .ref a ∧ keyOf d = some k ∧ y = kV k ∧ Rd H a (.dK kvs) ∧ RK Y G.F G.al ks vs kvs := by
  obtain ⟨k, h1, h2, _⟩ := hx.key hk
  obtain ⟨ad, xs, ys, e, t, r1, r2⟩ := h
  cases t with
  | dK kvs t => exact ⟨ad, k, kvs, e, h1, h2, t, r1, r2⟩
theorem dcIn (hu : X.A.units + 1 < cLine) : DcIn Y X := by
  intro neg pins s σ' H x y v u Q I rx ry ⟨G, st, σ, dx, ks, vs, R, vx, vy, hk, q⟩
  obtain ⟨ad, k, kvs, rfl, h1, rfl, rd, rk⟩ := dget_ok vx hk vy
  cases ry
  have e : (getK dx ks vs).isSome = (valV kvs k).isSome := by
    obtain ⟨g1, g2⟩ := getK_ok h1 rk
    cases hg : getK dx ks vs with
    | none => rw [g2 hg]; rfl
    | some z => obtain ⟨v', hv, _⟩ := g1 z hg; rw [hv]; rfl
  rw [e] at q
  cases neg with
  | false => exact d_in hu I (.inl ⟨kvs, k, rd, rfl, rfl⟩) rx fun s' I' => ⟨.bl _, H, I', rfl, by simpa using q⟩
  | true => exact d_notIn hu I (.inl ⟨kvs, k, rd, rfl, rfl⟩) rx fun s' I' => ⟨.bl _, H, I', rfl, by simpa using q⟩
/-! ### a[b] -/
theorem ix_dct (hu : X.A.units + 1 < cLine) : IxR X (fun x y H Q => ∃ a v, x = .ref a ∧ DGet H a y (some v) ∧ Q v H) := by
  intro value slice pins s σ H x y v u Q I rx ry ⟨ad, z, ex, g, q⟩ hs
  subst ex
  obtain rfl : v = Value.ref ad := rx
  unfold subscriptTail
  have hT := dict_typeIs I g
  refine wpAny_bind ?_
  rw [getitemInPython_of_ne hT.not_modules]
  refine wpAny_bind (wpAny_specialOf hT PySem.F.slot_dict_getitem.lookup ?_)
  have fin : wpAny (model X.prog X.w) X.A (subscripted slice false (.ref ad) u) (fun r s₃ => wpAny (model X.prog X.w) X.A (letTemporaryGo value (.ref ad) r >>= fun _ => pure r) (EP X pins σ Q) X.xe s₃) X.xe s := by
    rw [hs]
    exact wpAny_operating (d_getItem hu I g ry fun w' s3 I3 rw' => wpAny_bind (wpAny_letTemporaryGo (wpAny_pure ⟨z, H, I3, rw', q⟩)))
  first
    | exact wpAny_pure (wpAny_bind fin)
    | exact wpAny_bind (wpAny_pure (wpAny_bind fin))
    | exact wpAny_bind fin
theorem seqIx_ixN {i : Int} {n k : Nat} (h : seqIx i n = some k) : ixN n i = some k ∧ k < n := by
  unfold seqIx at h
  unfold ixN
  by_cases h0 : 0 ≤ i
  · rw [if_pos h0] at h ⊢
    by_cases h1 : i < n
    · rw [if_pos h1] at h ⊢; cases h; exact ⟨rfl, by omega⟩
    · rw [if_neg h1] at h; cases h
  · rw [if_neg h0] at h ⊢
    by_cases h1 : 0 ≤ i + n
    · rw [if_pos h1] at h; cases h
      rw [if_pos (by omega)]
      exact ⟨rfl, by omega⟩
    · rw [if_neg h1] at h; cases h
theorem atI_of {l : List D} {xs : List V} {i : Int} {d : D} (r : RVs Y G.F G.al l xs) (h : ((seqIx i l.length).bind fun k => l[k]?) = some d) : ∃ v, atI xs i = some v ∧ RV Y G.F G.al d v := by
  cases hs : seqIx i l.length with
  | none => rw [hs] at h; cases h
  | some k =>
    rw [hs] at h
    obtain ⟨h1, h2⟩ := seqIx_ixN hs
    obtain ⟨v, hv, rv⟩ := r.get h
    refine ⟨v, ?_, rv⟩
    unfold atI
    rw [← r.length, h1]
    exact hv
def kIx (x y : D) (st : St) : Out ((D × Bool) × St) := ans ((ixD x y).map fun d => (d, false)) st
theorem se_ix (hK : X.K = Y.K) (hu : X.A.units + 1 < cLine) (ha : SO Y W X a (opd ma (ev I ma))) (hb : SO Y W X b (opd mb (ev I mb))) (hs : PlainIx b) : SE Y W X (.Subscript a b pos) (ev I (.ix ma mb)) := by
  have e : ev I (.ix ma mb) = two kIx (opd ma (ev I ma)) (opd mb (ev I mb)) := by funext st; simp only [ev]; rfl
  rw [SE, e]
  refine PE.imp (pe_ix (ix_seq.or (ix_dct hu)) ha hb hs) fun σ H Q hh => ?_
  obtain ⟨G, st, R, q⟩ := two_read σ H Q hh
  refine ⟨G, st, R, q.mono fun x H1 ⟨G1, st1, R1, q1⟩ => ⟨G1, st1, R1, q1.mono fun y H2 z => ?_⟩⟩
  obtain ⟨G2, st2, σ2, dx, dy, R2, vx, vy, p⟩ := z
  obtain ⟨d, fr, e, p⟩ := ans_ok p
  simp only [Option.map_eq_some_iff] at e
  obtain ⟨d', h, e⟩ := e
  cases e
  have fin : ∀ {v : V}, RV Y G2.F G2.al d v → Q v H2 := fun r => p.flat R2 (by simp) r
  cases dx with
  | tup l =>
    obtain ⟨ad, xs, ev, t, r⟩ := vx
    have sq : SqT X.K H2 ad xs := by rw [hK]; exact t.sq R2
    cases dy with
    | int i =>
      simp only [VV] at vy
      obtain ⟨v, hv, rv⟩ := atI_of r h
      exact .inl (.inr (.inl ⟨ad, xs, i, v, ev, vy, sq, hv, fin rv⟩))
    | _ => simp [ixD] at h
  | lst l =>
    obtain ⟨ad, xs, ev, t, r⟩ := vx
    cases dy with
    | int i =>
      simp only [VV] at vy
      obtain ⟨v, hv, rv⟩ := atI_of r h
      exact .inl (.inl ⟨ad, xs, i, v, ev, vy, .inl (.inl t), hv, fin rv⟩)
    | _ => simp [ixD] at h
  | str s =>
    simp only [VV] at vx
    cases dy with
    | int i =>
      simp only [VV] at vy
      simp only [ixD] at h
      split at h
      · rename_i hz
        cases hs : seqIx i s.length with
        | none => rw [hs] at h; cases h
        | some k =>
          rw [hs] at h
          simp only [Option.bind_some, Option.map_eq_some_iff] at h
          obtain ⟨c, hc, hd⟩ := h
          obtain ⟨h1, h2⟩ := seqIx_ixN hs
          refine .inl (.inr (.inr ⟨stOf s, i, c, vx.1, vy, ?_, ?_, fin ?_⟩))
          · rw [stOf_len]; exact Nat.le_of_ble_eq_true hz
          · have e1 : (stOf s).cps.toList = s := by simp [stOf]
            unfold atI
            rw [e1, h1]
            exact hc
          · rw [← hd]
            simp only [RV]
            have := List.all_eq_true.mp vx.2 c (List.mem_of_getElem? hc)
            exact ⟨rfl, by simpa using this⟩
      · cases h
    | _ => simp [ixD] at h
  | dct ks vs =>
    simp only [ixD] at h
    split at h
    · rename_i hk
      obtain ⟨ad, k, kvs, ex, h1, ey, rd, rk⟩ := dget_ok vy hk vx
      obtain ⟨v, hv, rv⟩ := (getK_ok h1 rk).1 d h
      exact .inr ⟨ad, v, ex, .inl ⟨kvs, k, rd, ey, hv.symm⟩, fin rv⟩
    · cases h
  | _ => simp [ixD] at h
end
end Mi

set_option Elab.async false
set_option linter.all false
set_option maxRecDepth 100000
namespace Mi
open PySem PySem.Spec PyProof.Rows L2
theorem sIx_eq (n d : Nat) (o : Option Int) : Mi.sIx n d o = HT.sIx n d o := by cases o <;> rfl
theorem RVs.take {Y : Wd} {F : Hp} {al : Nat → Option Addr} : ∀ {n : Nat} {l : List D} {xs : List V}, RVs Y F al l xs → RVs Y F al (l.take n) (xs.take n)
  | 0, l, xs, r => by simp only [List.take_zero]; exact RVs.nil
  | n + 1, [], xs, r => by simp only [RVs] at r; subst r; simp only [List.take_nil]; exact RVs.nil
  | n + 1, d :: l, xs, r => by
    simp only [RVs] at r
    obtain ⟨x, r', e, a, b⟩ := r
    subst e
    simp only [List.take_succ_cons]
    exact RVs.cons a (RVs.take b)
theorem RVs.drop {Y : Wd} {F : Hp} {al : Nat → Option Addr} : ∀ {n : Nat} {l : List D} {xs : List V}, RVs Y F al l xs → RVs Y F al (l.drop n) (xs.drop n)
  | 0, l, xs, r => r
  | n + 1, [], xs, r => by simp only [RVs] at r; subst r; simp only [List.drop_nil]; exact RVs.nil
  | n + 1, d :: l, xs, r => by
    simp only [RVs] at r
    obtain ⟨x, r', e, a, b⟩ := r
    subst e
    simp only [List.drop_succ_cons]
    exact RVs.drop b
theorem RVs.cut {Y : Wd} {F : Hp} {al : Nat → Option Addr} {l : List D} {xs : List V} {lo hi : Option Int} (r : RVs Y F al l xs) : RVs Y F al (Mi.cut l lo hi) (cutV xs lo hi) := by
  unfold Mi.cut cutV
  simp only [sIx_eq, r.length]
  exact RVs.take (RVs.drop r)
section
variable {Y : Wd} {W : WX} {X : Cx} {I : Info} {a b e : Expr} {ma mb m : Ex} {pos p p2 : Pos} {G : Gh} {st : St} {σ : L2.St} {H : Hp}
def PostP (Y : Wd) (W : WX) (G : Gh) (st : St) (σ : L2.St) (H : Hp) (o : Out (Option Int × St)) (Q : Option Int → Hp → Prop) : Prop := match o with
  | .ok (x, st') => ∀ G' H', Rel Y G' st' σ H' → Ext G st σ H G' st' H' → Q x H'
  | .exc c s => ∀ G' H', Rel Y G' ⟨[], s⟩ [] H' → Ext G st σ H G' ⟨[], s⟩ H' → W (.ref (Y.eA c)) none σ H'
  | .stuck => False
def SP (Y : Wd) (W : WX) (X : Cx) (e : Option Expr) (f : St → Out (Option Int × St)) : Prop := PO X e (fun σ H Q => ∃ G st, Rel Y G st σ H ∧ PostP Y W G st σ H (f st) Q)
theorem PO.imp {e : Option Expr} {t t' : TO} (h : PO X e t) (i : ∀ σ H Q, t' σ H Q → t σ H Q) : PO X e t' := ⟨fun pins s σ H Q I q => h.run pins s σ H Q I (i σ H Q q)⟩
theorem sp_none : SP Y W X none (evp I none) := by
  refine PO.imp po_none fun σ H Q ⟨G, st, R, p⟩ => ?_
  simp only [evp] at p
  exact p G H R .refl
theorem sp_some (h : SO Y W X e (opd m (ev I m))) : SP Y W X (some e) (evp I (some m)) := by
  refine PO.imp (po_some h) fun σ H Q ⟨G, st, R, p⟩ => ⟨G, st, R, ?_⟩
  simp only [evp] at p
  cases q : opd m (ev I m) st with
  | stuck => rw [q] at p; exact p
  | exc c s => rw [q] at p; exact p
  | ok r =>
    obtain ⟨x, st1⟩ := r
    rw [q] at p
    intro G1 H1 v R1 E1 o1
    have p1 : PostP Y W G st σ H (match rdo st1 x with
      | some (.int i) => .ok (some i, st1)
      | _ => .stuck) Q := p
    cases q1 : rdo st1 x with
    | none => rw [q1] at p1; exact p1.elim
    | some d =>
      rw [q1] at p1
      have vv := VV.ov R1 o1 q1
      cases d with
      | int i => simp only [VV] at vv; exact ⟨i, vv, p1 G1 H1 R1 E1⟩
      | _ => exact p1.elim
theorem PostP.bindE {o : Out (Option Int × St)} {k : Option Int × St → Out ((D × Bool) × St)} {Q : VK} (h : PostE Y W G st σ H (o.bind k) Q) :
    PostP Y W G st σ H o fun i H1 => ∃ st1 G1, o = .ok (i, st1) ∧ Rel Y G1 st1 σ H1 ∧ Ext G st σ H G1 st1 H1 ∧ PostE Y W G1 st1 σ H1 (k (i, st1)) Q := by
  cases o with
  | ok a => obtain ⟨x, st'⟩ := a; exact fun G' H' R E => ⟨st', G', rfl, R, E, PostE.on E h⟩
  | exc c s => exact h
  | stuck => exact h
theorem PostP.mono {o : Out (Option Int × St)} {Q Q' : Option Int → Hp → Prop} (h : PostP Y W G st σ H o Q) (i : ∀ x H, Q x H → Q' x H) : PostP Y W G st σ H o Q' := by
  cases o with
  | ok a => obtain ⟨x, st'⟩ := a; exact fun G' H' R E => i _ _ (h G' H' R E)
  | exc c s => exact h
  | stuck => exact h
theorem se_sl {lo hi : Option Expr} {mlo mhi : Option Ex} (hK : X.K = Y.K) (ha : SO Y W X a (opd ma (ev I ma))) (hl : SP Y W X lo (evp I mlo)) (hh : SP Y W X hi (evp I mhi)) : SE Y W X (.Subscript a (.Slice lo hi none p2) pos) (ev I (.sl ma mlo mhi)) := by
  refine PE.imp (pe_slice (sl_list.or (sl_tupA.or sl_str)) ha hl hh) fun σ H Q ⟨G, st, R, p⟩ => ⟨G, st, R, ?_⟩
  simp only [ev] at p
  refine (PostO.bind p).mono fun v H1 ⟨x, st1, G1, _, R1, E1, o1, p1⟩ => ⟨G1, st1, R1, (PostP.bindE p1).mono fun i H2 ⟨st2, G2, _, R2, E2, p2⟩ => ⟨G2, st2, R2, (PostP.bindE p2).mono fun j H3 ⟨st3, G3, _, R3, E3, p3⟩ => ?_⟩⟩
  have o3 : OV Y G3 st3 σ x v := OV.mono (H' := H3) (E2.trans E3) o1
  dsimp only at p3
  cases q1 : rdo st3 x with
  | none => rw [q1] at p3; exact p3.elim
  | some d =>
    rw [q1] at p3
    have vv := VV.ov R3 o3 q1
    obtain ⟨d', fr, e, p4⟩ := ans_ok p3
    cases d with
    | lst l =>
      simp only [slD, Option.some.injEq, Prod.mk.injEq] at e
      obtain ⟨rfl, rfl⟩ := e
      obtain ⟨ad, xs, ev, t, r⟩ := vv
      exact .inl ⟨ad, xs, ev, .inl (.inl t), p4.newL R3 r.cut⟩
    | scr l =>
      simp only [slD, Option.some.injEq, Prod.mk.injEq] at e
      obtain ⟨rfl, rfl⟩ := e
      obtain ⟨ad, ev, t⟩ := vv
      exact .inl ⟨ad, _, ev, by rw [hK]; exact t.sq R3, p4.newL R3 (RVs.cut RVs.ints)⟩
    | tup l =>
      simp only [slD, Option.some.injEq, Prod.mk.injEq] at e
      obtain ⟨rfl, rfl⟩ := e
      obtain ⟨ad, xs, ev, t, r⟩ := vv
      refine .inr (.inl ⟨ad, xs, ev, by rw [hK]; exact t.sq R3, fun hw => p4.flat R3 (by simp [isMutD]) ?_, fun _ => p4.newT R3 r.cut⟩)
      have ec : Mi.cut l i j = l := by
        unfold Mi.cut
        simp only [sIx_eq, r.length]
        rw [hw.1, hw.2, List.drop_zero, Nat.sub_zero, ← r.length, List.take_length]
      rw [ec]
      simp only [RV]
      exact ⟨ad, xs, rfl, t, r⟩
    | str s =>
      simp only [slD] at e
      split at e
      · rename_i hz
        simp only [Option.some.injEq, Prod.mk.injEq] at e
        obtain ⟨rfl, rfl⟩ := e
        simp only [VV] at vv
        refine .inr (.inr ⟨stOf s, vv.1, by rw [stOf_len]; exact Nat.le_of_ble_eq_true hz, p4.flat R3 (by simp) ?_⟩)
        simp only [RV]
        refine ⟨?_, List.all_eq_true.mpr fun c hc => List.all_eq_true.mp vv.2 c ?_⟩
        · unfold Mi.cut cutS stOf
          simp [sIx_eq, Str.length]
        · unfold Mi.cut at hc
          exact List.mem_of_mem_drop (List.mem_of_mem_take hc)
      · cases e
    | _ => simp [slD] at e
end
end Mi

set_option Elab.async false
set_option linter.all false
set_option maxRecDepth 100000
namespace Mi
open PySem PySem.Spec PyProof.Rows L2
section
variable {Y : Wd} {W : WX} {X : Cx} {I : Info} {e : Expr} {es : List Expr} {m : Ex} {ls : List El} {pos p : Pos} {G : Gh} {st : St} {σ : L2.St} {H : Hp}
def SEl (Y : Wd) (W : WX) (X : Cx) (I : Info) (es : List Expr) (ls : List El) : Prop := SL Y W X es (evels I ls)
theorem sel_nil : SEl Y W X I [] [] := by
  refine PA.imp pa_nil fun σ H Q ⟨G, st, R, p⟩ => ?_
  simp only [evels] at p
  exact p G H [] R .refl .nil
theorem sel_one (h : SE Y W X e (ev I m)) (hr : SEl Y W X I es ls) (hs : starEach (e :: es) X.env = (false, eval e X.env) :: starEach es X.env) : SEl Y W X I (e :: es) (.one m :: ls) := by
  refine PA.imp (pa_cons h hr hs) fun σ H Q ⟨G, st, R, p⟩ => ⟨G, st, R, ?_⟩
  simp only [evels] at p
  cases q : ev I m st with
  | ok r =>
    obtain ⟨⟨d, fr⟩, st1⟩ := r
    rw [q] at p
    intro G' H' v R' E r
    obtain ⟨G2, R2, E2, r2⟩ := RR.shut R' E r
    refine ⟨G2, st1, R2, ?_⟩
    have p : PostL Y W G st σ H ((evels I ls st1).bind fun (ds, st2) => .ok (d :: ds, st2)) Q := p
    cases q2 : evels I ls st1 with
    | ok r3 =>
      obtain ⟨ds, st2⟩ := r3
      rw [q2] at p
      intro G3 H3 vs R3 E3 r3
      exact p G3 H3 (v :: vs) R3 (E2.trans E3) (RVs.cons (r2.mono E3.F E3.al) r3)
    | exc c s => rw [q2] at p; exact fun G3 H3 R3 E3 => p G3 H3 R3 (E2.trans E3)
    | stuck => rw [q2] at p; exact p
  | exc c s => rw [q] at p; exact p
  | stuck => rw [q] at p; exact p
theorem sel_star (hK : X.K = Y.K) (h : SO Y W X e (opd m (ev I m))) (hr : SEl Y W X I es ls) : SEl Y W X I (.Starred e p :: es) (.star m :: ls) := by
  refine PA.imp (StX.pa_star h hr rfl) fun σ H Q ⟨G, st, R, p⟩ => ⟨G, st, R, ?_⟩
  simp only [evels] at p
  cases q : opd m (ev I m) st with
  | exc c s => rw [q] at p; exact p
  | stuck => rw [q] at p; exact p
  | ok r =>
    obtain ⟨x, st1⟩ := r
    rw [q] at p
    intro G1 H1 v R1 E1 o1
    have p1 : PostL Y W G st σ H (match rdo st1 x with
      | some d => (Out.of (seqD d)).bind fun l => (evels I ls st1).bind fun (ds, st2) => .ok (l ++ ds, st2)
      | none => .stuck) Q := p
    cases q1 : rdo st1 x with
    | none => rw [q1] at p1; exact p1.elim
    | some d =>
      rw [q1] at p1
      have vv := VV.ov R1 o1 q1
      have fin : ∀ {l : List D} {xs : List V}, seqD d = some l → RVs Y G1.F G1.al l xs → ∃ G st, Rel Y G st σ H1 ∧ PostL Y W G st σ H1 (evels I ls st) fun ys H2 => Q (xs ++ ys) H2 := fun {l xs} hl r => by
        have p2 : PostL Y W G st σ H ((evels I ls st1).bind fun (ds, st2) => .ok (l ++ ds, st2)) Q := by
          dsimp only at p1
          rw [hl] at p1
          exact p1
        refine ⟨G1, st1, R1, ?_⟩
        cases q2 : evels I ls st1 with
        | ok r3 =>
          obtain ⟨ds, st2⟩ := r3
          rw [q2] at p2
          intro G3 H3 vs R3 E3 r3
          exact p2 G3 H3 (xs ++ vs) R3 (E1.trans E3) ((r.mono E3.F E3.al).app r3)
        | exc c s => rw [q2] at p2; exact fun G3 H3 R3 E3 => p2 G3 H3 R3 (E1.trans E3)
        | stuck => rw [q2] at p2; exact p2
      cases d with
      | tup l =>
        obtain ⟨ad, xs, ev, t, r⟩ := vv
        exact ⟨ad, xs, ev, .inl (by rw [hK]; exact t.sq R1), fin rfl r⟩
      | lst l =>
        obtain ⟨ad, xs, ev, t, r⟩ := vv
        exact ⟨ad, xs, ev, .inr (.inl (.inl t)), fin rfl r⟩
      | _ => dsimp only at p1; simp [seqD, Out.of, PostL] at p1
/-- a written tuple: its object is known -/
theorem pe_tupG {t : TA} {k : Nat} (h : PA X es t) : PE X (.Tuple es k pos) (fun σ H Q => t σ H fun xs H1 => xs.length ≤ sizeLine ∧ ∀ p od, H1 p = none → od.dict = none → Q (.ref p) (upd H1 p (.frz od (.tup xs)))) := by
  refine ⟨fun pins s σ H Q I hq => ?_⟩
  refine wpAny_Tuple_spliced (thn (h.run pos pins s σ H _ I hq) fun us s1 ⟨xs, H1, I1, r, z, q⟩ => ⟨by rw [← r.length]; exact z, ?_⟩)
  have hf : H1 s1.heap.objs.size = none := I1.hok.fresh (Nat.le_refl _)
  refine ⟨.ref s1.heap.objs.size, _, I1.laid (t' := s1.toks) (fun b u e => Heap.get?_push_of_some _ e) (Nat.le_refl _) ?_, rfl, q _ { cls := .type "tuple", data := .seq us.toArray } hf rfl⟩
  exact ⟨Heap.get?_push_size _ rfl, z, us, r, ⟨_, Heap.get?_push_size _ rfl, rfl, _, rfl⟩⟩
theorem se_tup {k : Nat} (h : SEl Y W X I es ls) : SE Y W X (.Tuple es k pos) (ev I (.tup ls)) := by
  refine PE.imp (pe_tupG h) fun σ H Q ⟨G, st, R, p⟩ => ⟨G, st, R, ?_⟩
  simp only [ev] at p
  refine (PostL.bind p).mono fun vs H1 ⟨ds, st1, G1, _, R1, E1, r1, p1⟩ => ?_
  dsimp only at p1
  split at p1
  · rename_i hz
    refine ⟨by rw [← r1.length]; exact Nat.le_of_ble_eq_true hz, p1.newTG R1 r1⟩
  · exact p1.elim
theorem se_lst (h : SEl Y W X I es ls) : SE Y W X (.List es pos) (ev I (.lst ls)) := by
  refine PE.imp (pe_lst h) fun σ H Q ⟨G, st, R, p⟩ => ⟨G, st, R, ?_⟩
  simp only [ev] at p
  refine (PostL.bind p).mono fun vs H1 ⟨ds, st1, G1, _, R1, E1, r1, p1⟩ => ?_
  dsimp only at p1
  split at p1
  · rename_i hz
    refine ⟨by rw [← r1.length]; exact Nat.le_of_ble_eq_true hz, p1.newL R1 r1⟩
  · exact p1.elim
end
end Mi

set_option Elab.async false
set_option linter.all false
set_option maxRecDepth 100000
namespace Mi
open PySem PySem.Spec PyProof.Rows L2
section
variable {Y : Wd} {W : WX} {G : Gh} {st : St} {σ : L2.St} {H : Hp} {a : Addr}
theorem CO.nofrz {o : HO} {d : D} (c : CO Y G o d) : isFrzO o = false := by cases o <;> first | rfl | (cases d <;> exact c.elim)
theorem CW.nofrz {d : D} (c : CW Y G H a d) {od : Obj} {u : HO} : H a ≠ some (.frz od u) := fun z => by
  obtain ⟨o, h, k⟩ := c.co
  rw [h] at z
  cases z
  exact absurd k.nofrz (by simp [isFrzO])
/-- the thing of an owner is written -/
theorem Rel.wslot (R : Rel Y G st σ H) {i : Nat} {d d' : D} {o' : HO} (hs : slotAt i st.r = some (true, d)) (hv : σ[i]? = some (some (.ref a))) (c : CO Y G o' d') : Rel Y G (setSlot i (some (true, d')) st) σ (upd H a o') ∧ Ext G st σ H G (setSlot i (some (true, d')) st) (upd H a o') := by
  have ow : owns G st σ (.slot i) a := ⟨d, hs, hv⟩
  obtain ⟨fa, th⟩ := R.owned ⟨_, ow⟩
  obtain ⟨v, e, _, h2⟩ := R.slots i true d hs
  obtain ⟨a', e2, _, cw⟩ := h2 rfl
  rw [hv] at e; cases e; cases e2
  have key : ∀ {t : OT} {b : Addr}, owns G (setSlot i (some (true, d')) st) σ t b → owns G st σ t b := fun {t b} o => by
    cases t with
    | cell n => exact o
    | slot j =>
      obtain ⟨x, q, z⟩ := o
      simp only [setSlot, slotAt_set] at q
      by_cases hj : j = i
      · subst hj; exact ⟨d, hs, z⟩
      · rw [if_neg hj] at q; exact ⟨x, q, z⟩
  have mv : ∀ {t : OT} {b : Addr} {x : D}, owns G st σ t b → t ≠ .slot i → CW Y G H b x → CW Y G (upd H a o') b x := fun {t b x} o ht cx => by
    have hb : b ≠ a := fun z => by rw [z] at o; exact ht (R.inj _ _ _ o ow)
    exact cx.mono (fun _ _ h => h) (fun _ _ h => h) fun u q => by rw [upd_ne hb]; exact q
  refine ⟨⟨fun b o h z => ?_, fun b o h => ?_, R.dom, fun n x h => ?_, fun j b x q => ?_, fun t t' b h h' => R.inj t t' b (key h) (key h'), by simp only [setSlot, setNth_len]; exact R.len⟩, ⟨fun b od u h => ?_, fun _ _ h => h, fun _ _ h => h, fun b o h n _ => ?_, fun b h => ?_, fun b ⟨t, o⟩ => .inl ⟨t, key o⟩, fun _ h => .inl h⟩⟩
  · rw [upd_ne (fun z => by rw [z, fa] at h; cases h)]; exact R.fzi b o h z
  · have hb : b ≠ a := fun z => by rw [z, fa] at h; cases h
    rcases R.fz b o h with q | ⟨od, q⟩
    · exact .inl (by rw [upd_ne hb]; exact q)
    · exact .inr ⟨od, by rw [upd_ne hb]; exact q⟩
  · obtain ⟨b, e, f, cx⟩ := R.cells n x h
    exact ⟨b, e, f, mv (t := .cell n) ⟨⟨x, h⟩, e⟩ (fun z => nomatch z) cx⟩
  · simp only [setSlot, slotAt_set] at q
    by_cases hj : j = i
    · subst hj
      rw [if_pos rfl, if_pos (slotAt_lt hs)] at q
      cases q
      exact ⟨_, hv, (fun z => nomatch z), fun _ => ⟨a, rfl, fa, CO.cw upd_same c⟩⟩
    · rw [if_neg hj] at q
      obtain ⟨v, e, h1, h2⟩ := R.slots j b x q
      refine ⟨v, e, h1, fun z => ?_⟩
      obtain ⟨y, e2, f, cx⟩ := h2 z
      subst z
      subst e2
      exact ⟨y, rfl, f, mv (t := .slot j) ⟨x, q, e⟩ (fun z => hj (by cases z; rfl)) cx⟩
  · rw [upd_ne (fun z => by rw [z] at h; exact cw.nofrz h)]; exact h
  · rw [upd_ne (fun z => by rw [z] at n; exact n ⟨_, ow⟩)]; exact h
  · by_cases z : b = a
    · subst z; rw [upd_same]; exact fun q => nomatch q
    · rw [upd_ne z]; exact h
theorem Rel.wcell (R : Rel Y G st σ H) {n : Nat} {d d' : D} {o' : HO} (hs : st.s[n]? = some (some d)) (hv : G.al n = some a) (c : CO Y G o' d') : Rel Y G (setCell n d' st) σ (upd H a o') ∧ Ext G st σ H G (setCell n d' st) (upd H a o') := by
  have ow : owns G st σ (.cell n) a := ⟨⟨d, hs⟩, hv⟩
  obtain ⟨fa, th⟩ := R.owned ⟨_, ow⟩
  obtain ⟨a', e2, _, cw⟩ := R.cells n d hs
  rw [hv] at e2; cases e2
  have key : ∀ {t : OT} {b : Addr}, owns G (setCell n d' st) σ t b → owns G st σ t b := fun {t b} o => by
    cases t with
    | slot i => exact o
    | cell m =>
      obtain ⟨⟨x, q⟩, z⟩ := o
      simp only [setCell, setNth_get] at q
      by_cases hj : m = n
      · subst hj; exact ⟨⟨d, hs⟩, z⟩
      · rw [if_neg hj] at q; exact ⟨⟨x, q⟩, z⟩
  have mv : ∀ {t : OT} {b : Addr} {x : D}, owns G st σ t b → t ≠ .cell n → CW Y G H b x → CW Y G (upd H a o') b x := fun {t b x} o ht cx => by
    have hb : b ≠ a := fun z => by rw [z] at o; exact ht (R.inj _ _ _ o ow)
    exact cx.mono (fun _ _ h => h) (fun _ _ h => h) fun u q => by rw [upd_ne hb]; exact q
  refine ⟨⟨fun b o h z => ?_, fun b o h => ?_, fun m b h => by simp only [setCell, setNth_len]; exact R.dom m b h, fun m x q => ?_, fun j b x q => ?_, fun t t' b h h' => R.inj t t' b (key h) (key h'), R.len⟩, ⟨fun b od u h => ?_, fun _ _ h => h, fun _ _ h => h, fun b o h n _ => ?_, fun b h => ?_, fun b ⟨t, o⟩ => .inl ⟨t, key o⟩, fun _ h => .inl h⟩⟩
  · rw [upd_ne (fun z => by rw [z, fa] at h; cases h)]; exact R.fzi b o h z
  · have hb : b ≠ a := fun z => by rw [z, fa] at h; cases h
    rcases R.fz b o h with q | ⟨od, q⟩
    · exact .inl (by rw [upd_ne hb]; exact q)
    · exact .inr ⟨od, by rw [upd_ne hb]; exact q⟩
  · simp only [setCell, setNth_get] at q
    by_cases hj : m = n
    · subst hj
      rw [if_pos rfl] at q
      split at q
      · cases q
        exact ⟨a, hv, fa, CO.cw upd_same c⟩
      · cases q
    · rw [if_neg hj] at q
      obtain ⟨b, e, f, cx⟩ := R.cells m x q
      exact ⟨b, e, f, mv (t := .cell m) ⟨⟨x, q⟩, e⟩ (fun z => hj (by cases z; rfl)) cx⟩
  · obtain ⟨v, e, h1, h2⟩ := R.slots j b x q
    refine ⟨v, e, h1, fun z => ?_⟩
    obtain ⟨y, e2, f, cx⟩ := h2 z
    subst z
    subst e2
    exact ⟨y, rfl, f, mv (t := .slot j) ⟨x, q, e⟩ (fun z => nomatch z) cx⟩
  · rw [upd_ne (fun z => by rw [z] at h; exact cw.nofrz h)]; exact h
  · rw [upd_ne (fun z => by rw [z] at n; exact n ⟨_, ow⟩)]; exact h
  · by_cases z : b = a
    · subst z; rw [upd_same]; exact fun q => nomatch q
    · rw [upd_ne z]; exact h
theorem lv_ok (R : Rel Y G st σ H) {x : Ov} {v : V} {d : D} {put : D → St → St} (h : OV Y G st σ x v) (e : lvGet st x = some (d, put)) :
    ∃ a, v = .ref a ∧ CW Y G H a d ∧ ∀ d' o', CO Y G o' d' → Rel Y G (put d' st) σ (upd H a o') ∧ Ext G st σ H G (put d' st) (upd H a o') := by
  have cel : ∀ {n : Nat}, (top st.s (.ref n)).map (fun d => (d, fun (d' : D) (st' : St) => setCell n d' st')) = some (d, put) → RV Y G.F G.al (.ref n) v → ∃ a, v = .ref a ∧ CW Y G H a d ∧ ∀ d' o', CO Y G o' d' → Rel Y G (put d' st) σ (upd H a o') ∧ Ext G st σ H G (put d' st) (upd H a o') := fun {n} e rv => by
    simp only [Option.map_eq_some_iff] at e
    obtain ⟨d0, e1, e2⟩ := e
    simp only [top] at e1
    split at e1
    · rename_i x q
      cases e1
      simp only [Prod.mk.injEq] at e2
      obtain ⟨rfl, rfl⟩ := e2
      simp only [RV] at rv
      obtain ⟨b, rfl, al⟩ := rv
      obtain ⟨b', al2, f, c⟩ := R.cells n _ q
      rw [al] at al2
      cases al2
      exact ⟨b, rfl, c, fun d' o' co => R.wcell q al co⟩
    · cases e1
  cases x with
  | slot i =>
    simp only [lvGet] at e
    split at e
    · rename_i d0 q
      simp only [Option.some.injEq, Prod.mk.injEq] at e
      obtain ⟨rfl, rfl⟩ := e
      obtain ⟨v', e, _, h2⟩ := R.slots i true _ q
      obtain ⟨b, e2, f, c⟩ := h2 rfl
      have hv : σ[i]? = some (some v) := h
      rw [hv] at e
      cases e
      subst e2
      exact ⟨b, rfl, c, fun d' o' co => R.wslot q hv co⟩
    · rename_i n q
      obtain ⟨v', e', h1, _⟩ := R.slots i false _ q
      have hv : σ[i]? = some (some v) := h
      rw [hv] at e'
      cases e'
      exact cel e (h1 rfl)
    · cases e
  | val d0 =>
    cases d0 with
    | ref n => simp only [lvGet] at e; exact cel e h
    | _ => simp [lvGet] at e
end
end Mi

set_option Elab.async false
set_option linter.all false
set_option maxRecDepth 100000
namespace Mi
open PySem PySem.Spec PyProof.Rows L2
section
variable {Y : Wd} {W : WX} {X : Cx} {I : Info} {o e : Expr} {es : List Expr} {m mk me : Ex} {ms : List Ex} {pos apos p : Pos} {G : Gh} {st : St} {σ : L2.St} {H : Hp}
theorem setNth_list : ∀ (i : Nat) (d : D) (l : List D), setNth i d l = l.set i d
  | _, _, [] => by simp [setNth]
  | 0, d, x :: l => by simp [setNth]
  | n + 1, d, x :: l => by simp [setNth, setNth_list n d l]
theorem RVs.set {F : Hp} {al : Nat → Option Addr} : ∀ {l : List D} {xs : List V} {i : Nat} {d : D} {v : V}, RVs Y F al l xs → RV Y F al d v → RVs Y F al (l.set i d) (xs.set i v)
  | [], xs, i, d, v, r, rv => by simp only [RVs] at r; subst r; exact RVs.nil
  | x :: l, xs, i, d, v, r, rv => by
    simp only [RVs] at r
    obtain ⟨y, r', e, a, b⟩ := r
    subst e
    cases i with
    | zero => exact RVs.cons rv b
    | succ i => exact RVs.cons a (RVs.set b rv)
/-! ### o[k] = v -/
theorem ss_seti {k v : Expr} {mv : Ex} {tpos : Pos} (hu : X.A.units + 1 < cLine) (ho : SO Y W X o (opd m (ev I m))) (hk : SO Y W X k (opd mk (ev I mk))) (hv : SE Y W X v (ev I mv))
    (ha : ∀ u, assign (.Subscript o k tpos) X.env u = (do
      let ov ← holding [u] (eval o X.env)
      let iv ← holding [u, ov] (eval k X.env)
      standAt tpos
      holding [u, ov, iv] (setItem ov iv u)
      release [u, ov, iv] []))
    (hs : swapsWithSole [.Subscript o k tpos] v pos.line X.env = pure false) (hw : swappedStores [.Subscript o k tpos] v X.env = pure none) (h1 : (assignEach [.Subscript o k tpos] X.env).map (·.2) = [assign (.Subscript o k tpos) X.env]) :
    SS Y W X (.Assign [.Subscript o k tpos] v pos) (exS I (.seti m mk mv)) := by
  have ps : PSet X (fun o i v H Q => rSetL o i v H Q ∨ rSetD o i v H Q) := fun pins s σ H o i v ov iv u Q I ro ri rv h => h.elim (set_list pins s σ H o i v ov iv u Q I ro ri rv) (set_dict hu pins s σ H o i v ov iv u Q I ro ri rv)
  refine PS.imp (ps_asg hv (pg_sub ho hk ps ha) hs hw h1) fun D0 σ H ⟨G, st, R, p⟩ => ⟨G, st, R, ?_⟩
  simp only [exS] at p
  refine (PostE.bindS p).mono fun v H1 ⟨d, fr, st1, G1, e0, R1, E1, r1, p1⟩ => ?_
  obtain ⟨G1', R1', E1', rv⟩ := RR.shut R1 E1 r1
  refine ⟨G1', st1, R1', ?_⟩
  dsimp only at p1
  cases q : opd m (ev I m) st1 with
  | stuck => rw [q] at p1; exact p1.elim
  | exc c s =>
    rw [q] at p1
    intro G' H' R' E'
    have E'' := E1'.trans E'
    refine p1 G' σ H' R' ⟨E''.lk, E''.F, E''.al, E''.keep, E''.there, fun a o => E''.own a ?_, E''.frz⟩
    obtain ⟨n, z⟩ := owned_nil o
    exact ⟨.cell n, z⟩
  | ok r =>
    obtain ⟨x, st2⟩ := r
    rw [q] at p1
    intro G2 H2 ov R2 E2 o2
    refine ⟨G2, st2, R2, ?_⟩
    dsimp only [Out.bind] at p1
    cases q2 : opd mk (ev I mk) st2 with
    | stuck => rw [q2] at p1; exact p1.elim
    | exc c s =>
      rw [q2] at p1
      intro G' H' R' E'
      have E'' := E1'.trans (E2.trans E')
      refine p1 G' σ H' R' ⟨E''.lk, E''.F, E''.al, E''.keep, E''.there, fun a o => E''.own a ?_, E''.frz⟩
      obtain ⟨n, z⟩ := owned_nil o
      exact ⟨.cell n, z⟩
    | ok r =>
      obtain ⟨y, st3⟩ := r
      rw [q2] at p1
      intro G3 H3 kv R3 E3 o3
      dsimp only at p1
      have o2' : OV Y G3 st3 σ x ov := OV.mono (H' := H3) E3 o2
      cases q3 : lvGet st3 x with
      | none => rw [q3] at p1; exact p1.elim
      | some dp =>
        obtain ⟨d0, put⟩ := dp
        cases q4 : rdo st3 y with
        | none => rw [q3, q4] at p1; exact p1.elim
        | some dk =>
          rw [q3, q4] at p1
          dsimp only at p1
          cases q5 : setD d0 dk d with
          | none => rw [q5] at p1; exact p1.elim
          | some d1 =>
            rw [q5] at p1
            obtain ⟨ad, eo, cw, wr⟩ := lv_ok R3 o2' q3
            have vk := VV.ov R3 o3 q4
            have rv3 := (rv.mono E2.F E2.al).mono E3.F E3.al
            cases d0 with
            | lst l =>
              obtain ⟨xs, hx, rs⟩ := cw
              cases dk with
              | int i =>
                simp only [VV] at vk
                simp only [setD, Option.map_eq_some_iff] at q5
                obtain ⟨j, hj, e5⟩ := q5
                obtain ⟨h1, h2⟩ := seqIx_ixN hj
                subst e5
                obtain ⟨R4, E4⟩ := wr (.lst (setNth j d l)) (.lst (xs.set j v)) (by rw [setNth_list]; exact RVs.set rs rv3)
                refine .inl ⟨ad, xs, i, j, eo, vk, hx, by rw [← rs.length]; exact h1, ?_⟩
                exact p1 G3 σ _ R4 (E1'.trans (E2.trans (E3.trans E4))).es
              | _ => simp [setD] at q5
            | dct ks vs =>
              obtain ⟨kvs, hx, rs⟩ := cw
              simp only [setD] at q5
              split at q5
              · rename_i hk
                simp only [Bool.and_eq_true] at hk
                obtain ⟨kk, k1, k2, k3⟩ := vk.key hk.1
                cases q5
                have rk : RK Y G3.F G3.al ks vs kvs := rs
                have nk := putK_ok k1 (by rw [← k2]; exact k3) rv3 rk
                obtain ⟨R4, E4⟩ := wr (.dct (Mi.putK dk d ks vs).1 (Mi.putK dk d ks vs).2) (.dK (L2.putK kvs kk v)) nk
                refine .inr ⟨ad, _, eo, .inl ⟨kvs, kk, hx, k2, ?_, rfl⟩, ?_⟩
                · rw [← rk.len.1]; exact Nat.le_of_ble_eq_true hk.2
                · exact p1 G3 σ _ R4 (E1'.trans (E2.trans (E3.trans E4))).es
              · cases q5
            | _ => simp [setD] at q5
end
end Mi
namespace Mi
open PySem PySem.Spec PyProof.Rows L2
section
variable {Y : Wd} {W : WX} {X : Cx} {I : Info} {o e : Expr} {es : List Expr} {m mk me : Ex} {ms : List Ex} {pos apos cpos p : Pos} {G : Gh} {st : St} {σ : L2.St} {H : Hp} {T id : String} {r : V → List V → Hp → VK → Prop} {name : Str} {mu : Mu}
theorem RVs.dropLast {F : Hp} {al : Nat → Option Addr} {l : List D} {xs : List V} (r : RVs Y F al l xs) : RVs Y F al l.dropLast xs.dropLast := by
  rw [List.dropLast_eq_take, List.dropLast_eq_take, r.length]
  exact RVs.take r
theorem RVs.eraseIdx {F : Hp} {al : Nat → Option Addr} : ∀ {l : List D} {xs : List V} {i : Nat}, RVs Y F al l xs → RVs Y F al (l.eraseIdx i) (xs.eraseIdx i)
  | [], xs, i, r => by simp only [RVs] at r; subst r; exact RVs.nil
  | x :: l, xs, i, r => by
    simp only [RVs] at r
    obtain ⟨y, r', e, a, b⟩ := r
    subst e
    cases i with
    | zero => exact b
    | succ i => exact RVs.cons a (RVs.eraseIdx b)
/-- what the rule of a changing method must say -/
def MuR (Y : Wd) (W : WX) (mu : Mu) (r : V → List V → Hp → VK → Prop) (kd : D → Bool) : Prop :=
  ∀ (G : Gh) (st : St) (σ : L2.St) (H : Hp) (v : V) (a : Addr) (d d' y : D) (put : D → St → St) (ds : List D) (vs : List V) (Q : VK), Rel Y G st σ H → v = .ref a → CW Y G H a d → (∀ d' o', CO Y G o' d' → Rel Y G (put d' st) σ (upd H a o') ∧ Ext G st σ H G (put d' st) (upd H a o')) →
    RVs Y G.F G.al ds vs → kd d = true → muD mu d ds = some (d', y) → PostE Y W G st σ H (.ok ((y, false), put d' st)) Q → r v vs H Q
theorem PostE.put {d' : D} {y : D} {put : D → St → St} {Q : VK} {o' : HO} {v : V} {a : Addr} (wr : ∀ d' o', CO Y G o' d' → Rel Y G (put d' st) σ (upd H a o') ∧ Ext G st σ H G (put d' st) (upd H a o')) (c : CO Y G o' d') (rv : RV Y G.F G.al y v)
    (p : PostE Y W G st σ H (.ok ((y, false), put d' st)) Q) : Q v (upd H a o') := by
  obtain ⟨R, E⟩ := wr d' o' c
  refine p G _ v R E ?_
  unfold RR
  rw [if_neg (by simp)]
  exact rv
theorem mur_append : MuR Y W .append rAppend isLstD := by
  intro G st σ H v a d d' y put ds vs Q R ev cw wr rs kd h p
  cases d with
  | lst l =>
    obtain ⟨xs, hx, rl⟩ := cw
    cases ds with
    | nil => simp [muD] at h
    | cons x ds =>
      cases ds with
      | cons _ _ => simp [muD] at h
      | nil =>
        simp only [muD] at h
        split at h
        · rename_i hz
          simp only [Option.some.injEq, Prod.mk.injEq] at h
          obtain ⟨rfl, rfl⟩ := h
          simp only [RVs] at rs
          obtain ⟨w, r', e1, rx, e2⟩ := rs
          subst e1
          subst e2
          refine ⟨a, xs, w, ev, rfl, hx, by rw [← rl.length]; exact Nat.le_of_ble_eq_true hz, ?_⟩
          exact p.put wr (show CO Y G (.lst (xs ++ [w])) (.lst (l ++ [x])) from rl.app (RVs.cons rx RVs.nil)) (by simp only [RV])
        · cases h
  | _ => cases kd
theorem mur_extend : MuR Y W .extend rExtend isLstD := by
  intro G st σ H v a d d' y put ds vs Q R ev cw wr rs kd h p
  cases d with
  | lst l =>
    obtain ⟨xs, hx, rl⟩ := cw
    cases ds with
    | nil => simp [muD] at h
    | cons x ds =>
      cases ds with
      | cons _ _ => simp [muD] at h
      | nil =>
        cases x with
        | lst mm =>
          simp only [muD] at h
          split at h
          · rename_i hz
            simp only [Option.some.injEq, Prod.mk.injEq] at h
            obtain ⟨rfl, rfl⟩ := h
            simp only [RVs] at rs
            obtain ⟨w, r', e1, rx, e2⟩ := rs
            subst e1
            subst e2
            simp only [RV] at rx
            obtain ⟨b, zs, ew, t, rz⟩ := rx
            subst ew
            refine ⟨a, b, xs, zs, ev, rfl, hx, R.fzi _ _ t rfl, by rw [← rl.length, ← rz.length]; exact Nat.le_of_ble_eq_true hz, ?_⟩
            exact p.put wr (show CO Y G (.lst (xs ++ zs)) (.lst (l ++ mm)) from rl.app rz) (by simp only [RV])
          · cases h
        | _ => simp [muD] at h
  | _ => cases kd
theorem mur_insert : MuR Y W .insert (fun x vs H Q => ∃ (l : Addr) (xs : List V) (i : Int) (y : V), x = .ref l ∧ vs = [.int i, y] ∧ H l = some (.lst xs) ∧ xs.length < sizeLine ∧ 0 ≤ i ∧ i < 2 ^ 63 ∧
    Q .non (upd H l (.lst (xs.take i.toNat ++ [y] ++ xs.drop i.toNat)))) isLstD := by
  intro G st σ H v a d d' y put ds vs Q R ev cw wr rs kd h p
  cases d with
  | lst l =>
    obtain ⟨xs, hx, rl⟩ := cw
    cases ds with
    | nil => simp [muD] at h
    | cons x ds =>
      cases ds with
      | nil => cases x <;> simp [muD] at h
      | cons x2 ds =>
        cases ds with
        | cons _ _ => cases x <;> simp [muD] at h
        | nil =>
          cases x with
          | int i =>
            simp only [muD] at h
            split at h
            · rename_i hz
              simp only [Option.some.injEq, Prod.mk.injEq] at h
              obtain ⟨rfl, rfl⟩ := h
              simp only [RVs] at rs
              obtain ⟨w, r', e1, rx, w2, r2', e2, rx2, e3⟩ := rs
              subst e1
              subst e2
              subst e3
              simp only [RV] at rx
              subst rx
              simp only [Bool.and_eq_true, decide_eq_true_eq] at hz
              refine ⟨a, xs, i, w2, ev, rfl, hx, by rw [← rl.length]; exact Nat.le_of_ble_eq_true hz.1.1, hz.1.2, by have := hz.2; omega, ?_⟩
              exact p.put wr (show CO Y G (.lst (xs.take i.toNat ++ [w2] ++ xs.drop i.toNat)) (.lst (l.take i.toNat ++ [x2] ++ l.drop i.toNat)) from ((RVs.take rl).app (RVs.cons rx2 RVs.nil)).app (RVs.drop rl)) (by simp only [RV])
            · cases h
          | _ => simp [muD] at h
  | _ => cases kd
theorem mur_pop0 : MuR Y W .pop (fun v vs H Q => vs = [] → rPop v vs H Q) isLstD := by
  intro G st σ H v a d d' y put ds vs Q R ev cw wr rs kd h p ez
  cases d with
  | lst l =>
    obtain ⟨xs, hx, rl⟩ := cw
    subst ez
    have := rs.length
    cases ds with
    | cons _ _ => simp at this
    | nil =>
      simp only [muD, Option.map_eq_some_iff] at h
      obtain ⟨z, hz, h⟩ := h
      simp only [Prod.mk.injEq] at h
      obtain ⟨rfl, rfl⟩ := h
      obtain ⟨w, hw, rw'⟩ := rl.get hz
      refine ⟨a, xs, w, ev, rfl, hx, by rw [← rl.length]; exact hw, ?_⟩
      exact p.put wr (show CO Y G (.lst xs.dropLast) (.lst l.dropLast) from RVs.dropLast rl) rw'
  | _ => cases kd
theorem seqIx_seqIndex {i : Int} {n k : Nat} (h : seqIx i n = some k) : seqIndex? i n = some k := (ixN_seq (seqIx_ixN h).1).1
theorem mur_pop1 : MuR Y W .pop (fun v vs H Q => vs ≠ [] → rPopAt v vs H Q) isLstD := by
  intro G st σ H v a d d' y put ds vs Q R ev cw wr rs kd h p ez
  cases d with
  | lst l =>
    obtain ⟨xs, hx, rl⟩ := cw
    cases ds with
    | nil => simp only [RVs] at rs; exact absurd rs ez
    | cons x ds =>
      cases ds with
      | cons _ _ => cases x <;> simp [muD] at h
      | nil =>
        cases x with
        | int i =>
          simp only [muD] at h
          split at h
          · rename_i hsz
            split at h
            · rename_i k hk
              simp only [Option.map_eq_some_iff] at h
              obtain ⟨z, hz, h⟩ := h
              simp only [Prod.mk.injEq] at h
              obtain ⟨rfl, rfl⟩ := h
              simp only [RVs] at rs
              obtain ⟨w, r', e1, rx, e2⟩ := rs
              subst e1
              subst e2
              simp only [RV] at rx
              subst rx
              obtain ⟨w, hw, rw'⟩ := rl.get hz
              have hb := ixN_seq (seqIx_ixN hk).1
              have hn : l.length ≤ 16777216 := Nat.le_of_ble_eq_true hsz
              refine ⟨a, xs, i, k, w, ev, rfl, hx, ?_, ?_, by rw [← rl.length]; exact seqIx_seqIndex hk, hw, ?_⟩
              · have := hb.2.2.1; omega
              · have := hb.2.2.2; omega
              · exact p.put wr (show CO Y G (.lst (xs.eraseIdx k)) (.lst (l.eraseIdx k)) from RVs.eraseIdx rl) rw'
            · cases h
          · cases h
        | _ => simp [muD] at h
  | _ => cases kd
theorem mur_clear : MuR Y W .clear (fun v vs H Q => vs = [] → rClear v vs H Q) isLstD := by
  intro G st σ H v a d d' y put ds vs Q R ev cw wr rs kd h p ez
  cases d with
  | lst l =>
    obtain ⟨xs, hx, rl⟩ := cw
    subst ez
    have := rs.length
    cases ds with
    | cons _ _ => simp at this
    | nil =>
      simp only [muD, Option.some.injEq, Prod.mk.injEq] at h
      obtain ⟨rfl, rfl⟩ := h
      refine ⟨a, xs, ev, rfl, hx, ?_⟩
      exact p.put wr (show CO Y G (.lst []) (.lst []) by simp only [CO, RVs]) (by simp only [RV])
  | _ => cases kd
theorem mur_dclear : MuR Y W .clear (fun v vs H Q => vs = [] → rDClear v vs H Q) isDctD := by
  intro G st σ H v a d d' y put ds vs Q R ev cw wr rs kd h p ez
  cases d with
  | dct ks us =>
    obtain ⟨kvs, hx, rl⟩ := cw
    subst ez
    have := rs.length
    cases ds with
    | cons _ _ => simp at this
    | nil =>
      simp only [muD, Option.some.injEq, Prod.mk.injEq] at h
      obtain ⟨rfl, rfl⟩ := h
      refine ⟨a, kvs, ev, rfl, hx, ?_⟩
      exact p.put wr (show CO Y G (.dK []) (.dct [] []) by simp only [CO, RVs, List.map_nil, and_self]) (by simp only [RV])
  | _ => cases kd

/-- the kind of the receiver, as its type -/
theorem tyV_ok {K : PySem.W.Frag} (R : Rel Y G st σ H) {x : Ov} {v : V} (h : OV Y G st σ x v) {b : Bool} (hk : muKind mu (lvGet st x) = some b) : tyV K (if b then "list" else "dict") v H := by
  cases e : lvGet st x with
  | none => rw [e] at hk; simp [muKind] at hk
  | some dp =>
    obtain ⟨d, put⟩ := dp
    rw [e] at hk
    obtain ⟨a, ev, cw, _⟩ := lv_ok R h e
    subst ev
    cases d with
    | lst l =>
      simp only [muKind] at hk
      split at hk
      · cases hk
      · cases hk
        obtain ⟨xs, hx, _⟩ := cw
        exact .inl ⟨rfl, xs, .inl (.inl hx)⟩
    | dct ks vs =>
      simp only [muKind] at hk
      split at hk
      · cases hk
        obtain ⟨kvs, hx, _⟩ := cw
        exact .inr (.inr (.inl ⟨rfl, .inl ⟨kvs, hx⟩⟩))
      · cases hk
    | _ => simp [muKind] at hk
/-- behind the receiver -/
theorem mu_read {Q : VK} (b : Bool) (R : Rel Y G st σ H) (p : PostE Y W G st σ H (ev I (.mu mu m ms) st) Q) (hb : ∀ x st1, opd m (ev I m) st = .ok (x, st1) → muKind mu (lvGet st1 x) = some b) {K : PySem.W.Frag} (hr : MuR Y W mu r (fun d => isLstD d == b)) :
    PostO Y W G st σ H (opd m (ev I m) st) fun v H1 => tyV K (if b then "list" else "dict") v H1 ∧ rL Y W (evs I ms) σ H1 fun vs H2 => r v vs H2 Q := by
  simp only [ev] at p
  cases q : opd m (ev I m) st with
  | stuck => rw [q] at p; exact p
  | exc c s => rw [q] at p; exact p
  | ok z =>
    obtain ⟨x, st1⟩ := z
    have hk := hb x st1 q
    rw [q] at p
    intro G1 H1 v R1 E1 o1
    refine ⟨tyV_ok R1 o1 hk, G1, st1, R1, ?_⟩
    have p1 := PostE.on E1 p
    dsimp only [Out.bind] at p1
    rw [hk] at p1
    refine (PostL.bind p1).mono fun vs H2 ⟨ds, st2, G2, _, R2, E2, r2, p2⟩ => ?_
    have o2 : OV Y G2 st2 σ x v := OV.mono (H' := H2) E2 o1
    dsimp only at p2
    cases q3 : lvGet st2 x with
    | none => rw [q3] at p2; exact p2.elim
    | some dp =>
      obtain ⟨d, put⟩ := dp
      rw [q3] at p2
      dsimp only at p2
      split at p2
      · rename_i hd
        cases q4 : muD mu d ds with
        | none => rw [q4] at p2; exact p2.elim
        | some dy =>
          obtain ⟨d', y⟩ := dy
          rw [q4] at p2
          obtain ⟨a, ev, cw, wr⟩ := lv_ok R2 o2 q3
          exact hr G2 st2 σ H2 v a d d' y put ds vs Q R2 ev cw wr r2 hd q4 p2
      · exact p2.elim
/-- the receiver's kind is settled by the evaluator -/
theorem mu_kind {Q : VK} (R : Rel Y G st σ H) (p : PostE Y W G st σ H (ev I (.mu mu m ms) st) Q) : ∃ b, ∀ x st1, opd m (ev I m) st = .ok (x, st1) → muKind mu (lvGet st1 x) = some b := by
  simp only [ev] at p
  cases q : opd m (ev I m) st with
  | stuck => exact ⟨true, fun x st1 z => by cases z⟩
  | exc c s => exact ⟨true, fun x st1 z => by cases z⟩
  | ok z =>
    obtain ⟨x, st1⟩ := z
    rw [q] at p
    have p : PostE Y W G st σ H (match muKind mu (lvGet st1 x) with
      | some b => (evs I ms st1).bind fun (ds, st2) => (match lvGet st2 x with
        | some (d, put) => if isLstD d == b then (match muD mu d ds with
          | some (d', y) => .ok ((y, false), put d' st2)
          | none => .stuck) else .stuck
        | none => .stuck)
      | none => .stuck) Q := p
    cases hk : muKind mu (lvGet st1 x) with
    | none => rw [hk] at p; exact p.elim
    | some b => exact ⟨b, fun x' st1' z => by cases z; exact hk⟩
theorem MuR.lst {r : V → List V → Hp → VK → Prop} (h : MuR Y W mu r isLstD) : MuR Y W mu r (fun d => isLstD d == true) := fun G st σ H v a d d' y put ds vs Q R ev cw wr rs kd => h G st σ H v a d d' y put ds vs Q R ev cw wr rs (by simpa using kd)
/-- what only lists have -/
def onlyL (mu : Mu) : Bool := mu == .append || mu == .extend || mu == .insert
theorem onlyL_kind (h : onlyL mu = true) {o : Option (D × (D → St → St))} {b : Bool} (hk : muKind mu o = some b) : b = true := by
  cases o with
  | none => simp [muKind] at hk
  | some dp =>
    obtain ⟨d, put⟩ := dp
    cases d with
    | lst l => simp only [muKind] at hk; split at hk <;> cases hk; rfl
    | dct ks vs => cases mu <;> simp [muKind, onlyL] at hk h
    | _ => simp [muKind] at hk
theorem se_muL (ho : onlyL mu = true) (pa : PlainAttrs "list") (slot : PySem.Slot "list" name id) (hty : typeOf (.builtin id) = pure (.type "method_descriptor")) (hm : MtR X id r) (hr : MuR Y W mu r isLstD) (hO : SO Y W X o (opd m (ev I m))) (ha : SL Y W X (e :: es) (evs I ms))
    (hbase : attributeBase o name X.env (eval o X.env) = eval o X.env)
    (hfew : ((backTo cpos (starEach (e :: es) X.env)).all (fun x => !x.1) && (backToKw cpos (keywordEach [] X.env)).all (fun x => x.1.isSome)
      && decide ((e :: es).length + ([] : List Keyword).length + (if ([] : List Keyword).isEmpty then 0 else 1) < 30)) = true)
    (hline : (apos.endLine == cpos.line) = true) (hs : starEach (e :: es) X.env = (false, eval e X.env) :: starEach es X.env) (hplain : (backTo cpos (starEach es X.env)).any (·.1) = false) :
    SE Y W X (.Call (.Attribute o name apos) (e :: es) [] cpos) (ev I (.mu mu m ms)) := by
  refine PE.imp (pe_bm pa slot hty hm hO ha hbase hfew hline hs hplain) fun σ H Q ⟨G, st, R, p⟩ => ⟨G, st, R, ?_⟩
  obtain ⟨b, hb⟩ := mu_kind R p
  have hb' : ∀ x st1, opd m (ev I m) st = .ok (x, st1) → muKind mu (lvGet st1 x) = some true := fun x st1 z => by
    have := hb x st1 z
    rw [onlyL_kind ho this] at this
    exact this
  exact mu_read true R p hb' hr.lst
theorem se_append (hO : SO Y W X o (opd m (ev I m))) (ha : SL Y W X [e] (evs I ms)) (hbase : attributeBase o "append" X.env (eval o X.env) = eval o X.env) (hline : (apos.endLine == cpos.line) = true) (hs : starEach [e] X.env = [(false, eval e X.env)]) :
    SE Y W X (.Call (.Attribute o "append" apos) [e] [] cpos) (ev I (.mu .append m ms)) :=
  se_muL rfl F.plainAttrs_list F.slot_list_append F.type_list_append mt_append mur_append hO ha hbase (by rw [hs]; rfl) hline hs rfl
theorem se_extend (hO : SO Y W X o (opd m (ev I m))) (ha : SL Y W X [e] (evs I ms)) (hbase : attributeBase o "extend" X.env (eval o X.env) = eval o X.env) (hline : (apos.endLine == cpos.line) = true) (hs : starEach [e] X.env = [(false, eval e X.env)]) :
    SE Y W X (.Call (.Attribute o "extend" apos) [e] [] cpos) (ev I (.mu .extend m ms)) :=
  se_muL rfl F.plainAttrs_list F.slot_list_extend F.type_list_extend mt_extend mur_extend hO ha hbase (by rw [hs]; rfl) hline hs rfl
theorem se_insert {e2 : Expr} (hO : SO Y W X o (opd m (ev I m))) (ha : SL Y W X [e, e2] (evs I ms)) (hbase : attributeBase o "insert" X.env (eval o X.env) = eval o X.env) (hline : (apos.endLine == cpos.line) = true) (hs : starEach [e, e2] X.env = [(false, eval e X.env), (false, eval e2 X.env)]) (hs2 : starEach [e2] X.env = [(false, eval e2 X.env)]) :
    SE Y W X (.Call (.Attribute o "insert" apos) [e, e2] [] cpos) (ev I (.mu .insert m ms)) :=
  se_muL rfl F.plainAttrs_list F.slot_list_insert F.type_list_insert mt_insert mur_insert hO ha hbase (by rw [hs]; rfl) hline (by rw [hs, hs2]) (by rw [hs2]; rfl)
end
end Mi

set_option Elab.async false
set_option linter.all false
set_option maxRecDepth 100000
namespace Mi
open PySem PySem.Spec PyProof.Rows L2
section
variable {Y : Wd} {W : WX} {X : Cx} {I : Info} {o e a b c : Expr} {es rest : List Expr} {m ma mb mc mk me : Ex} {ms : List Ex} {pos apos cpos p : Pos} {G : Gh} {st : St} {σ : L2.St} {H : Hp}
/-! ### -a -/
theorem se_neg (ha : SO Y W X a (opd ma (ev I ma))) : SE Y W X (.UnaryOp .USub a pos) (ev I (.neg ma)) := by
  have e : ev I (.neg ma) = one (fun d st => ans (negD d) st) (opd ma (ev I ma)) := by funext st; simp only [ev]
  rw [SE, e]
  refine PE.imp (pe_un un_neg ha) fun σ H Q hh => ?_
  obtain ⟨G, st, R, q⟩ := one_read σ H Q hh
  refine ⟨G, st, R, q.mono fun v H1 ⟨G1, st1, σ1, dx, R1, vx, p⟩ => ?_⟩
  obtain ⟨d, fr, e, p⟩ := ans_ok p
  cases dx with
  | int i =>
    simp only [negD, Option.some.injEq, Prod.mk.injEq] at e
    obtain ⟨rfl, rfl⟩ := e
    simp only [VV] at vx
    exact ⟨i, vx, p.flat R1 (by simp) (by simp only [RV])⟩
  | _ => simp [negD] at e
/-! ### and, or as values -/
theorem RR.bl {G' : Gh} {st' : St} {H' : Hp} {fr : Bool} {k : Bool} {v : V} (r : RR Y G st σ H G' st' H' (.bl k) fr v) : v = .bl k := by
  unfold RR at r
  rw [if_neg (by simp [isMutD])] at r
  simpa only [RV] using r
def SV (Y : Wd) (W : WX) (X : Cx) (e : Expr) (f : St → Out (Bool × St)) : Prop := SE Y W X e (fun st => (f st).bind fun (b, st1) => .ok ((.bl b, false), st1))
theorem sv_and1 (h : SE Y W X a (ev I ma)) : SV Y W X (.BoolOp .And [a] pos) (evAndV I [ma]) := by
  refine PE.imp (pe_one h) fun σ H Q ⟨G, st, R, p⟩ => ⟨G, st, R, ?_⟩
  simp only [evAndV] at p
  cases q : ev I ma st with
  | stuck => rw [q] at p; exact p
  | exc c s => rw [q] at p; exact p
  | ok r =>
    obtain ⟨⟨d, fr⟩, st1⟩ := r
    rw [q] at p
    intro G1 H1 v R1 E1 r1
    cases d with
    | bl k =>
      have := r1.bl
      subst this
      cases k <;> exact p G1 H1 _ R1 E1 (by unfold RR; rw [if_neg (by simp)]; simp only [RV])
    | _ => exact p.elim
theorem sv_or1 (h : SE Y W X a (ev I ma)) : SV Y W X (.BoolOp .Or [a] pos) (evOrV I [ma]) := by
  refine PE.imp (pe_one h) fun σ H Q ⟨G, st, R, p⟩ => ⟨G, st, R, ?_⟩
  simp only [evOrV] at p
  cases q : ev I ma st with
  | stuck => rw [q] at p; exact p
  | exc c s => rw [q] at p; exact p
  | ok r =>
    obtain ⟨⟨d, fr⟩, st1⟩ := r
    rw [q] at p
    intro G1 H1 v R1 E1 r1
    cases d with
    | bl k =>
      have := r1.bl
      subst this
      cases k <;> exact p G1 H1 _ R1 E1 (by unfold RR; rw [if_neg (by simp)]; simp only [RV])
    | _ => exact p.elim
theorem sv_and (h : SE Y W X a (ev I ma)) (hr : SV Y W X (.BoolOp .And (b :: rest) pos) (evAndV I ms)) : SV Y W X (.BoolOp .And (a :: b :: rest) pos) (evAndV I (ma :: ms)) := by
  refine PE.imp (pe_and h hr) fun σ H Q ⟨G, st, R, p⟩ => ⟨G, st, R, ?_⟩
  simp only [evAndV] at p
  cases q : ev I ma st with
  | stuck => rw [q] at p; exact p
  | exc c s => rw [q] at p; exact p
  | ok r =>
    obtain ⟨⟨d, fr⟩, st1⟩ := r
    rw [q] at p
    intro G1 H1 v R1 E1 r1
    cases d with
    | bl k =>
      have := r1.bl
      subst this
      refine ⟨k, rfl, ?_⟩
      cases k with
      | true => exact ⟨G1, st1, R1, PostE.on E1 p⟩
      | false => exact p G1 H1 _ R1 E1 (by unfold RR; rw [if_neg (by simp)]; simp only [RV])
    | _ => exact p.elim
theorem sv_or (h : SE Y W X a (ev I ma)) (hr : SV Y W X (.BoolOp .Or (b :: rest) pos) (evOrV I ms)) : SV Y W X (.BoolOp .Or (a :: b :: rest) pos) (evOrV I (ma :: ms)) := by
  refine PE.imp (pe_or h hr) fun σ H Q ⟨G, st, R, p⟩ => ⟨G, st, R, ?_⟩
  simp only [evOrV] at p
  cases q : ev I ma st with
  | stuck => rw [q] at p; exact p
  | exc c s => rw [q] at p; exact p
  | ok r =>
    obtain ⟨⟨d, fr⟩, st1⟩ := r
    rw [q] at p
    intro G1 H1 v R1 E1 r1
    cases d with
    | bl k =>
      have := r1.bl
      subst this
      refine ⟨k, rfl, ?_⟩
      cases k with
      | false => exact ⟨G1, st1, R1, PostE.on E1 p⟩
      | true => exact p G1 H1 _ R1 E1 (by unfold RR; rw [if_neg (by simp)]; simp only [RV])
    | _ => exact p.elim
theorem se_andv (h : SV Y W X e (evAndV I ms)) : SE Y W X e (ev I (.bandv ms)) := by
  have : ev I (.bandv ms) = fun st => (evAndV I ms st).bind fun (b, st1) => .ok ((.bl b, false), st1) := by funext st; simp only [ev]
  rw [this]; exact h
theorem se_orv (h : SV Y W X e (evOrV I ms)) : SE Y W X e (ev I (.borv ms)) := by
  have : ev I (.borv ms) = fun st => (evOrV I ms st).bind fun (b, st1) => .ok ((.bl b, false), st1) := by funext st; simp only [ev]
  rw [this]; exact h
/-- not, as a value, of a value that is a bool -/
theorem se_not (h : SE Y W X a (ev I ma)) (hm : ∀ i, ma ≠ .pk i) (hb : ∀ st d fr st', ev I ma st = .ok ((d, fr), st') → ∃ c, d = .bl c) : SE Y W X (.UnaryOp .Not a pos) (ev I (.not ma)) := by
  refine PE.imp (pe_not h) fun σ H Q ⟨G, st, R, p⟩ => ⟨G, st, R, ?_⟩
  simp only [ev, tst] at p
  have eo : opd ma (ev I ma) st = (ev I ma st).bind fun ((d, _), st1) => .ok (.val d, st1) := by
    unfold opd
    cases ma with
    | pk i => exact absurd rfl (hm i)
    | _ => rfl
  rw [eo] at p
  cases q : ev I ma st with
  | stuck => rw [q] at p; exact p
  | exc c s => rw [q] at p; exact p
  | ok r =>
    obtain ⟨⟨d, fr⟩, st1⟩ := r
    obtain ⟨k, rfl⟩ := hb _ _ _ _ q
    rw [q] at p
    intro G1 H1 v R1 E1 r1
    have := r1.bl
    subst this
    exact ⟨k, rfl, p G1 H1 _ R1 E1 (by unfold RR; rw [if_neg (by simp)]; simp only [RV])⟩
/-! ### statements -/
theorem ss_skip : SS Y W X (.Pass pos) (exS I .skip) := by
  refine PS.imp ps_pass fun D0 σ H ⟨G, st, R, p⟩ => ?_
  simp only [exS] at p
  exact p G σ H R .refl
theorem ss_brk : SS Y W X (.Break pos) (exS I .brk) := by
  refine PS.imp ps_break fun D0 σ H ⟨G, st, R, p⟩ => ?_
  simp only [exS] at p
  exact p G σ H R .refl
theorem ss_cont : SS Y W X (.Continue pos) (exS I .cont) := by
  refine PS.imp ps_continue fun D0 σ H ⟨G, st, R, p⟩ => ?_
  simp only [exS] at p
  exact p G σ H R .refl
theorem ss_doc {x j} {pos'} {ss : List Stmt} {f : St → Out (Fl × St)} (h : SSs Y W X ss f) : SSs Y W X (.Expr (.Constant (.str x) j pos) pos' :: ss) f :=
  PSs.imp (pss_cons ps_doc h) fun D0 σ H q => q
end
end Mi

set_option Elab.async false
set_option linter.all false
set_option maxRecDepth 100000
namespace Mi
open PySem PySem.Spec PyProof.Rows L2
section
variable {Y : Wd} {W : WX} {X : Cx} {I : Info} {o e a b c : Expr} {es rest : List Expr} {m ma mb mc mk me : Ex} {ms : List Ex} {pos apos cpos p tp : Pos} {G : Gh} {st : St} {σ : L2.St} {H : Hp}
/-! ### isinstance -/
inductive Tag where | non | bl | int | str | tup | lst | dct
def tagD : D → Tag
  | .non => .non
  | .bl _ => .bl
  | .int _ => .int
  | .str _ => .str
  | .tup _ => .tup
  | .lst _ => .lst
  | .dct _ _ => .dct
  | _ => .non
def tyG : Tag → String
  | .non => "NoneType" | .bl => "bool" | .int => "int" | .str => "str" | .tup => "tuple" | .lst => "list" | .dct => "dict"
def isiG : Ty → Tag → Bool
  | .int, .int => true
  | .int, .bl => true
  | .bool, .bl => true
  | .str, .str => true
  | .tuple, .tup => true
  | .list, .lst => true
  | .dict, .dct => true
  | _, _ => false
def tyD (d : D) : String := tyG (tagD d)
def tyN : Ty → String
  | .int => "int" | .bool => "bool" | .str => "str" | .tuple => "tuple" | .list => "list" | .dict => "dict"
theorem kit_g (g : Tag) (t : Ty) : kitB (tyG g) (tyN t) = some (isiG t g) := by
  cases g <;> cases t <;> decide +kernel
theorem isi_g (d : D) (t : Ty) (h : plainD d = true) : isiD t d = isiG t (tagD d) := by
  cases d <;> first | (simp [plainD] at h; done) | (cases t <;> rfl)
theorem kit_ok (d : D) (t : Ty) (h : plainD d = true) : kitB (tyD d) (tyN t) = some (isiD t d) := by
  rw [isi_g d t h]; exact kit_g _ _
theorem tyX_ok (R : Rel Y G st σ H) {d : D} {v : V} (vx : VV Y G H d v) (h : plainD d = true) : TyX Y.K H v (.type (tyD d)) := by
  cases d with
  | obj _ _ _ => simp [plainD] at h
  | ref _ => simp [plainD] at h
  | err _ _ => simp [plainD] at h
  | scr _ => simp [plainD] at h
  | non => simp only [VV] at vx; subst vx; exact .base .non
  | bl b => simp only [VV] at vx; subst vx; exact .base (.bl b)
  | int b => simp only [VV] at vx; subst vx; exact .base (.int b)
  | str b => simp only [VV] at vx; rw [vx.1]; exact .base (.str _)
  | tup l =>
    obtain ⟨a, xs, ev, t, r⟩ := vx
    subst ev
    rcases t with t | ⟨od, _, t⟩ | ⟨o, its, n, k, cl, _⟩
    · exact .base (.tup (R.fzi _ _ t rfl))
    · exact .fTuple (R.fzi _ _ t rfl)
    · exact .kTuple k cl
  | lst l =>
    obtain ⟨a, xs, ev, t, r⟩ := vx
    subst ev
    exact .base (.lst t)
  | dct ks vs =>
    obtain ⟨a, xs, ys, ev, t, _⟩ := vx
    subst ev
    cases t with
    | dK kvs t =>
      rcases t with t | ⟨od, t⟩
      · exact .base (.dK t)
      · exact .fDict t
theorem boot_ty (t : Ty) : bootBuiltins (Str.ofString (tyN t)) = some (.type (tyN t)) := by
  cases t <;> (show bootBuiltins _ = _; decide +kernel)
theorem se_isi {t : Ty} {tn : Str} (hK : X.K = Y.K) (htn : tn = Str.ofString (tyN t)) (h : SO Y W X a (opd ma (ev I ma))) (hg : Gl X "isinstance") (hm : X.mg "isinstance" = none) (hgT : Gl X tn) (hmT : X.mg tn = none)
    (hs : starEach [a, .Name tn tp] X.env = [(false, eval a X.env), (false, eval (.Name tn tp) X.env)]) : SE Y W X (.Call (.Name "isinstance" p) [a, .Name tn tp] [] pos) (ev I (.isi ma t)) := by
  have e : ev I (.isi ma t) = one (kIsi t) (opd ma (ev I ma)) := by funext st; simp only [ev]
  rw [SE, e]
  have ht : PE X (.Name tn tp) (tC (.ty (tyN t))) := pe_bltn hgT hmT (by rw [htn]; exact boot_ty t) rfl (by rw [htn]; cases t <;> decide) (by rw [htn]; cases t <;> decide)
  have ha : PA X [a, .Name tn tp] (tCons (rO Y W (opd ma (ev I ma))) (tCons (tC (.ty (tyN t))) tNil)) := pa_cons h (pa_cons ht pa_nil rfl) hs
  refine PE.imp (pe_callB call_isi hg hm (by decide +kernel) ha (by decide) (by decide) hs rfl) fun σ H Q hh => ?_
  obtain ⟨G, st, R, q⟩ := one_read σ H Q hh
  refine ⟨G, st, R, q.mono fun v H1 ⟨G1, st1, σ1, dx, R1, vx, p⟩ => ?_⟩
  unfold kIsi at p
  split at p
  · rename_i hp
    exact ⟨v, .ty (tyN t), _, _, isiD t dx, rfl, .ty _, by rw [hK]; exact tyX_ok R1 vx hp, kit_ty (kit_ok dx t hp), p.flat R1 (by simp) (by simp only [RV])⟩
  · exact p.elim
/-! ### attributes -/
theorem fieldAt_ok {F : Hp} {al : Nat → Option Addr} (hi : ∀ i j, Y.fld i = Y.fld j → i = j) {f : Nat} : ∀ {ns : List Nat} {vs : List D} {fs : List (Str × V)} {d : D}, fs.map (·.1) = ns.map Y.fld → RVs Y F al vs (fs.map (·.2)) → fieldAt f ns vs = some d → ∃ v, fs.lookup (Y.fld f) = some v ∧ RV Y F al d v
  | [], vs, fs, d, hn, r, h => by cases vs <;> simp [fieldAt] at h
  | n :: ns, vs, fs, d, hn, r, h => by
    cases fs with
    | nil => simp at hn
    | cons q fs =>
      obtain ⟨g, w⟩ := q
      simp only [List.map_cons, List.cons.injEq] at hn
      obtain ⟨e1, e2⟩ := hn
      cases vs with
      | nil => simp [fieldAt] at h
      | cons x vs =>
        simp only [List.map_cons, RVs] at r
        obtain ⟨y, r', e, rx, rr⟩ := r
        cases e
        simp only [fieldAt] at h
        by_cases hf : n = f
        · subst hf
          simp only [beq_self_eq_true, if_true] at h
          cases h
          exact ⟨w, by subst e1; simp [List.lookup], rx⟩
        · rw [if_neg (by simpa using hf)] at h
          obtain ⟨v, hv, rv⟩ := fieldAt_ok hi e2 rr h
          refine ⟨v, ?_, rv⟩
          have : (Y.fld f == g) = false := by
            rw [e1]
            exact beq_eq_false_iff_ne.mpr fun z => hf (hi _ _ z).symm
          simp only [List.lookup, this]
          exact hv
/-- what the classes must have for an attribute -/
structure AttrOk (Y : Wd) (X : Cx) (f : Nat) : Prop where
  cls : ∀ c, Cls X.K (Y.cA c)
  no : ∀ c, NoAttr X.K (Y.cA c) (Y.fld f)
  inj : ∀ i j, Y.fld i = Y.fld j → i = j
theorem se_attr {f : Nat} {x : Str} (hx : x = Y.fld f) (hA : AttrOk Y X f) (h : SO Y W X o (opd m (ev I m))) (hb : attributeBase o x X.env (eval o X.env) = eval o X.env) : SE Y W X (.Attribute o x pos) (ev I (.attr m f)) := by
  subst hx
  have e : ev I (.attr m f) = one (fun d st => ans (attrD f d) st) (opd m (ev I m)) := by funext st; simp only [ev]
  rw [SE, e]
  refine PE.imp (pe_fld h hb) fun σ H Q hh => ?_
  obtain ⟨G, st, R, q⟩ := one_read σ H Q hh
  refine ⟨G, st, R, q.mono fun v H1 ⟨G1, st1, σ1, dx, R1, vx, p⟩ => ?_⟩
  obtain ⟨d, fr, e, p⟩ := ans_ok p
  cases dx with
  | obj c ns vs =>
    simp only [attrD, Option.map_eq_some_iff] at e
    obtain ⟨d', hd, e⟩ := e
    cases e
    obtain ⟨ad, dx, fs, ev, hh, hn, r⟩ := vx
    obtain ⟨w, hw, rw'⟩ := fieldAt_ok hA.inj hn r hd
    exact ⟨ad, Y.cA c, dx, fs, w, ev, hh, hA.cls c, hA.no c, hw, p.flat R1 (by simp) rw'⟩
  | _ => simp [attrD] at e
theorem fieldPut_ok {F : Hp} {al : Nat → Option Addr} (hi : ∀ i j, Y.fld i = Y.fld j → i = j) {f : Nat} {d : D} {v : V} (rv : RV Y F al d v) : ∀ {ns : List Nat} {vs : List D} {fs : List (Str × V)}, fs.map (·.1) = ns.map Y.fld → RVs Y F al vs (fs.map (·.2)) →
    (putF (Y.fld f) v fs).map (·.1) = (fieldPut f d ns vs).1.map Y.fld ∧ RVs Y F al (fieldPut f d ns vs).2 ((putF (Y.fld f) v fs).map (·.2))
  | [], vs, fs, hn, r => by
    simp at hn
    subst hn
    have := r.length
    simp at this
    subst this
    simp only [fieldPut, putF, List.map_cons, List.map_nil]
    exact ⟨trivial, RVs.cons rv RVs.nil⟩
  | n :: ns, vs, fs, hn, r => by
    cases fs with
    | nil => simp at hn
    | cons q fs =>
      obtain ⟨g, w⟩ := q
      simp only [List.map_cons, List.cons.injEq] at hn
      obtain ⟨e1, e2⟩ := hn
      cases vs with
      | nil => simp only [List.map_cons, RVs] at r; cases r
      | cons x vs =>
        simp only [List.map_cons, RVs] at r
        obtain ⟨y, r', e, rx, rr⟩ := r
        cases e
        have e1 : g = Y.fld n := e1
        by_cases hf : n = f
        · subst hf
          simp only [fieldPut, beq_self_eq_true, if_true, putF, e1, List.map_cons]
          exact ⟨by rw [e2], RVs.cons rv rr⟩
        · obtain ⟨i1, i2⟩ := fieldPut_ok hi rv e2 rr
          have hb : (n == f) = false := by simpa using hf
          have hg : ¬ g = Y.fld f := fun z => hf (hi _ _ (e1.symm.trans z))
          simp only [fieldPut, hb, Bool.false_eq_true, if_false, putF, if_neg hg, List.map_cons]
          exact ⟨by rw [i1, e1], RVs.cons rx i2⟩
theorem ss_seta {f : Nat} {x : Str} {value : Expr} {mv : Ex} {pos' : Pos} (hx : x = Y.fld f) (hA : AttrOk Y X f) (ho : SE Y W X o (ev I m)) (hv : SE Y W X value (ev I mv)) (hs : swapsWith value (some (.Attribute o x pos')) pos.line X.env = pure false) :
    SS Y W X (.Assign [.Attribute o x pos'] value pos) (exS I (.seta m f mv)) := by
  subst hx
  refine PS.imp (ps_fld ho hv hs) fun D0 σ H ⟨G, st, R, p⟩ => ⟨G, st, R, ?_⟩
  simp only [exS] at p
  refine (PostE.bindS p).mono fun v H1 ⟨d, fr, st1, G1, e0, R1, E1, r1, p1⟩ => ?_
  obtain ⟨G1', R1', E1', rv⟩ := RR.shut R1 E1 r1
  refine ⟨G1', st1, R1', ?_⟩
  dsimp only at p1
  cases q : ev I m st1 with
  | stuck => rw [q] at p1; exact p1.elim
  | exc c s =>
    rw [q] at p1
    intro G' H' R' E'
    have E'' := E1'.trans E'
    refine p1 G' σ H' R' ⟨E''.lk, E''.F, E''.al, E''.keep, E''.there, fun a o => E''.own a ?_, E''.frz⟩
    obtain ⟨n, z⟩ := owned_nil o
    exact ⟨.cell n, z⟩
  | ok r =>
    obtain ⟨⟨x, fx⟩, st2⟩ := r
    rw [q] at p1
    intro G2 H2 ov R2 E2 o2
    dsimp only [Out.bind] at p1
    cases x with
    | ref n =>
      simp only [top] at p1
      cases hc : st2.s[n]? with
      | none => rw [hc] at p1; exact p1.elim
      | some oc =>
        cases oc with
        | none => rw [hc] at p1; exact p1.elim
        | some dc =>
          rw [hc] at p1
          cases dc with
          | obj c ns vs =>
            dsimp only at p1
            unfold RR at o2
            rw [if_neg (by simp [isMutD])] at o2
            simp only [RV] at o2
            obtain ⟨ad, eo, al⟩ := o2
            obtain ⟨ad', al2, fa, cw⟩ := R2.cells n _ hc
            rw [al] at al2
            cases al2
            obtain ⟨dx, fs, hh, hn, rs⟩ := cw
            split at p1
            · rename_i hz
              have rv2 := rv.mono E2.F E2.al
              obtain ⟨k1, k2⟩ := fieldPut_ok hA.inj (f := f) rv2 hn rs
              obtain ⟨R3, E3⟩ := R2.wcell (d' := .obj c (fieldPut f d ns vs).1 (fieldPut f d ns vs).2) (o' := .ins (Y.cA c) dx (putF (Y.fld f) v fs)) hc al ⟨rfl, k1, k2⟩
              refine ⟨ad, Y.cA c, dx, fs, eo, hh, hA.cls c, hA.no c, ?_, p1 G2 σ _ R3 (E1'.trans (E2.trans E3)).es⟩
              have hl := congrArg List.length hn
              simp only [List.length_map] at hl
              rw [hl]
              exact Nat.le_of_ble_eq_true hz
            · exact p1.elim
          | _ => exact p1.elim
    | _ => exact p1.elim
end
end Mi

set_option Elab.async false
set_option linter.all false
set_option maxRecDepth 100000
namespace Mi
open PySem PySem.Spec PyProof.Rows L2
theorem pe_ex {ι : Type} {X : Cx} {e : Expr} {t : ι → TE} (h : ∀ i, PE X e (t i)) : PE X e (fun σ H Q => ∃ i, t i σ H Q) := ⟨fun pins s σ H Q I ⟨i, q⟩ => (h i).run pins s σ H Q I q⟩
theorem pe_if {X : Cx} {e : Expr} {P : Prop} {t : TE} (h : P → PE X e t) : PE X e (fun σ H Q => P ∧ t σ H Q) := ⟨fun pins s σ H Q I ⟨p, q⟩ => (h p).run pins s σ H Q I q⟩
def tMethE (C : Addr) (m : Str) (sp : Sp) (E : L2.St → XK) (ta : TE) (t : TA) : TE := fun σ H Q => ta σ H fun x H1 => ∃ a dx fs, x = .ref a ∧ H1 a = some (.ins C dx fs) ∧ fs.lookup m = none ∧
  t σ H1 fun vs H2 => sp (x :: vs) H2 Q (E σ)
section
variable {X : Cx} {CX : CXT} {k : Nat} {f C : Addr} {fd : FuncData} {ps : List Str} {sp : Sp} {E : L2.St → XK} {x m : Str} {p pos apos : Pos} {e o : Expr} {es : List Expr} {ta : TE} {t : TA}
theorem pe_methE {pl : Sem Bool} (he : PE X o ta) (c : Cls X.K C) (hm : Meth X.K C m f) (F : FnG X.prog X.w X.K X.mg X.base CX k f fd ps sp) (hr : Room k X.A) (hG : X.A.guards = some []) (hb : Binds X.K fd ps []) (hx : ∀ σ, PassesAt CX X σ (E σ)) (ha : PA X (e :: es) t)
    (hst : starEach (e :: es) X.env = (false, eval e X.env) :: starEach es X.env) (hpl : (backTo pos (starEach es X.env)).any (·.1) = false)
    (ht : eval (.Call (.Attribute o m apos) (e :: es) [] pos) X.env = (do
      let ov ← eval o X.env
      standAt apos.atName
      let (f, first) ← holding [ov] (getMethod ov m pl)
      callWith pos f first (backTo pos (starEach (e :: es) X.env)) (backToKw pos (keywordEach [] X.env)))) :
    PE X (.Call (.Attribute o m apos) (e :: es) [] pos) (tMethE C m sp E ta t) := by
  refine ⟨fun pins s σ H Q I h => ?_⟩
  refine PySem.W.methodCall_KW (pl := pl) (thn (he.run pins s σ H _ I h) fun u s1 ⟨x, H1, I1, rx, a, dx, fs, ex, ea, l, q⟩ => ?_) ht
  subst ex
  obtain rfl : u = Value.ref a := rx
  refine getmeth_ok I1 ea c hm l ?_
  refine PySem.W.callWith_K (first := [.ref a]) (h₀ := X.base) I.ok.mod.kin hm.kp (thn (ha.run pos pins s1 σ H1 _ I1 q) fun us s2 ⟨vs, H2, I2, r, q2⟩ => ⟨I2.kIn, ?_⟩) hst hpl
  exact run_fnG (us := .ref a :: us) (vs := .ref a :: vs) F hr hG hb (hx σ) I2 (.cons rfl r) q2
theorem pe_meth0E {pl : Sem Bool} (he : PE X o ta) (c : Cls X.K C) (hm : Meth X.K C m f) (F : FnG X.prog X.w X.K X.mg X.base CX k f fd ps sp) (hr : Room k X.A) (hG : X.A.guards = some []) (hb : Binds X.K fd ps []) (hx : ∀ σ, PassesAt CX X σ (E σ))
    (ht : eval (.Call (.Attribute o m apos) [] [] pos) X.env = (do
      let ov ← eval o X.env
      standAt apos.atName
      let (f, first) ← holding [ov] (getMethod ov m pl)
      callWith pos f first (backTo pos (starEach [] X.env)) (backToKw pos (keywordEach [] X.env)))) :
    PE X (.Call (.Attribute o m apos) [] [] pos) (tMethE C m sp E ta tNil) := by
  refine ⟨fun pins s σ H Q I h => ?_⟩
  refine PySem.W.methodCall_KW (pl := pl) (thn (he.run pins s σ H _ I h) fun u s1 ⟨x, H1, I1, rx, a, dx, fs, ex, ea, l, q⟩ => ?_) ht
  subst ex
  obtain rfl : u = Value.ref a := rx
  refine getmeth_ok I1 ea c hm l ?_
  exact PySem.W.callWith_K0 (first := [.ref a]) I1.kIn hm.kp (run_fnG (us := [.ref a]) (vs := [.ref a]) F hr hG hb (hx σ) I1 (.cons rfl .nil) q)
end
/-- the method of a class -/
structure MethAt (Y : Wd) (X : Cx) (name : Str) (c : Nat) (k np : Nat) (fn : List D → Cells → Out ((D × Bool) × Cells)) : Prop where
  cls : Cls X.K (Y.cA c)
  ok : ∃ f fd ps, Meth X.K (Y.cA c) name f ∧ FnG X.prog X.w X.K X.mg X.base (L2.CX X.prog X.w) k f fd ps (spM Y np fn) ∧ L2.Binds X.K fd ps []
  room : Room k X.A
  gd : X.A.guards = some []
section
variable {Y : Wd} {W : WX} {X : Cx} {I : Info} {o e : Expr} {es : List Expr} {m : Ex} {ms : List Ex} {pos apos : Pos} {G : Gh} {st : St} {σ : L2.St} {H : Hp} {mi k np : Nat} {name : Str}
theorem noLook {fs : List (Str × V)} {ns : List Nat} (hi : ∀ i j, Y.fld i = Y.fld j → i = j) (hn : fs.map (·.1) = ns.map Y.fld) (h : ns.any (fun n => n == mi) = false) : fs.lookup (Y.fld mi) = none := by
  induction fs generalizing ns with
  | nil => rfl
  | cons q fs ih =>
    obtain ⟨g, w⟩ := q
    cases ns with
    | nil => simp at hn
    | cons n ns =>
      simp only [List.map_cons, List.cons.injEq] at hn
      rw [List.any_cons, Bool.or_eq_false_iff] at h
      have hg : (Y.fld mi == g) = false := beq_eq_false_iff_ne.mpr fun z => by
        have h1 : g = Y.fld n := hn.1
        have : mi = n := hi _ _ (z.trans h1)
        subst this
        simp at h
      simp only [List.lookup, hg]
      exact ih hn.2 h.2
theorem clsOf_ok (hi : ∀ i j, Y.fld i = Y.fld j → i = j) (R : Rel Y G st σ H) {d : D} {v : V} (rv : RV Y G.F G.al d v) {c : Nat} (h : clsOf mi (top st.s d) = some c) : ∃ a dx fs, v = .ref a ∧ H a = some (.ins (Y.cA c) dx fs) ∧ fs.lookup (Y.fld mi) = none := by
  cases ht : top st.s d with
  | none => rw [ht] at h; cases h
  | some d' =>
    rw [ht] at h
    have vv : VV Y G H d' v := VV.ov (x := .val d) R rv ht
    cases d' with
    | obj c' ns vs =>
      simp only [clsOf] at h
      split at h
      · cases h
      · rename_i hn
        cases h
        obtain ⟨a, dx, fs, ev, hh, hf, _⟩ := vv
        exact ⟨a, dx, fs, ev, hh, noLook hi hf (by revert hn; cases (ns.any fun n => n == mi) <;> simp)⟩
    | _ => simp [clsOf] at h
theorem meth_read (hi : ∀ i j, Y.fld i = Y.fld j → i = j) {Q : VK} (R : Rel Y G st σ H) (p : PostE Y W G st σ H (ev I (.meth m mi ms) st) Q) {c f : Nat} (hc : ∀ d fr st1, ev I m st = .ok ((d, fr), st1) → clsOf mi (top st1.s d) = some c) (hf : I.mt c mi = some f) (hn : ms.length + 1 = np) :
    PostE Y W G st σ H (ev I m st) fun x H1 => ∃ a dx fs, x = .ref a ∧ H1 a = some (.ins (Y.cA c) dx fs) ∧ fs.lookup (Y.fld mi) = none ∧ rL Y W (evs I ms) σ H1 fun vs H2 => spM Y np (I.fn f) (x :: vs) H2 Q (WE W σ) := by
  simp only [ev] at p
  cases q : ev I m st with
  | stuck => rw [q] at p; exact p
  | exc c s => rw [q] at p; exact p
  | ok z =>
    obtain ⟨⟨d, fr⟩, st1⟩ := z
    have hk := hc d fr st1 q
    rw [q] at p
    intro G1 H1 v R1 E1 r1
    obtain ⟨G1', R1', E1', rv⟩ := RR.shut R1 E1 r1
    obtain ⟨a, dx, fs, ev, hh, hl⟩ := clsOf_ok hi R1' rv hk
    refine ⟨a, dx, fs, ev, hh, hl, G1', st1, R1', ?_⟩
    have p1 := PostE.on E1' p
    dsimp only [Out.bind] at p1
    rw [hk] at p1
    dsimp only at p1
    rw [hf] at p1
    refine (PostL.bind p1).mono fun vs H2 ⟨ds, st2, G2, e2, R2, E2, r2, p2⟩ => ?_
    refine ⟨G2, st2.s, d :: ds, R2.alone, RVs.cons (rv.mono E2.F E2.al) r2, ?_, PostC.of R2 p2⟩
    rw [List.length_cons, ← r2.length, evs_len e2, hn]
theorem meth_cls {Q : VK} (p : PostE Y W G st σ H (ev I (.meth m mi ms) st) Q) : (∀ d fr st1, ev I m st ≠ .ok ((d, fr), st1)) ∨ ∃ c f, (∀ d fr st1, ev I m st = .ok ((d, fr), st1) → clsOf mi (top st1.s d) = some c) ∧ I.mt c mi = some f := by
  simp only [ev] at p
  cases q : ev I m st with
  | stuck => exact .inl fun d fr st1 z => by cases z
  | exc c s => exact .inl fun d fr st1 z => by cases z
  | ok z =>
    obtain ⟨⟨d, fr⟩, st1⟩ := z
    rw [q] at p
    dsimp only [Out.bind] at p
    cases hc : clsOf mi (top st1.s d) with
    | none => rw [hc] at p; exact p.elim
    | some c =>
      rw [hc] at p
      dsimp only at p
      cases hf : I.mt c mi with
      | none => rw [hf] at p; exact p.elim
      | some f => exact .inr ⟨c, f, fun d' fr' st1' z => by cases z; exact hc, hf⟩
theorem se_meth {pl : Sem Bool} (tk : Takes X W) (hx : name = Y.fld mi) (hi : ∀ i j, Y.fld i = Y.fld j → i = j) (hM : ∀ c f, I.mt c mi = some f → MethAt Y X name c k np (I.fn f)) (h0 : ∃ c f, I.mt c mi = some f) (ho : SE Y W X o (ev I m)) (ha : SL Y W X (e :: es) (evs I ms)) (hn : ms.length + 1 = np)
    (hst : starEach (e :: es) X.env = (false, eval e X.env) :: starEach es X.env) (hpl : (backTo pos (starEach es X.env)).any (·.1) = false)
    (ht : eval (.Call (.Attribute o name apos) (e :: es) [] pos) X.env = (do
      let ov ← eval o X.env
      standAt apos.atName
      let (f, first) ← holding [ov] (getMethod ov name pl)
      callWith pos f first (backTo pos (starEach (e :: es) X.env)) (backToKw pos (keywordEach [] X.env)))) :
    SE Y W X (.Call (.Attribute o name apos) (e :: es) [] pos) (ev I (.meth m mi ms)) := by
  subst hx
  have rule : ∀ cf : { cf : Nat × Nat // I.mt cf.1 mi = some cf.2 }, PE X (.Call (.Attribute o (Y.fld mi) apos) (e :: es) [] pos) (tMethE (Y.cA cf.1.1) (Y.fld mi) (spM Y np (I.fn cf.1.2)) (WE W) (rE Y W (ev I m)) (rL Y W (evs I ms))) := fun ⟨⟨c, f⟩, hf⟩ => by
    obtain ⟨fa, fd, ps, hm, F, hb⟩ := (hM c f hf).ok
    exact pe_methE (pl := pl) ho (hM c f hf).cls hm F (hM c f hf).room (hM c f hf).gd hb (fun σ => passAt tk σ) ha hst hpl ht
  refine PE.imp (pe_ex rule) fun σ H Q ⟨G, st, R, p⟩ => ?_
  rcases meth_cls p with hno | ⟨c, f, hc, hf⟩
  · obtain ⟨c, f, hf⟩ := h0
    refine ⟨⟨(c, f), hf⟩, G, st, R, ?_⟩
    exact meth_read hi R p (c := c) (fun d fr st1 z => absurd z (hno d fr st1)) hf hn
  · exact ⟨⟨(c, f), hf⟩, G, st, R, meth_read hi R p hc hf hn⟩
theorem se_meth0 {pl : Sem Bool} (tk : Takes X W) (hx : name = Y.fld mi) (hi : ∀ i j, Y.fld i = Y.fld j → i = j) (hM : ∀ c f, I.mt c mi = some f → MethAt Y X name c k 1 (I.fn f)) (h0 : ∃ c f, I.mt c mi = some f) (ho : SE Y W X o (ev I m))
    (ht : eval (.Call (.Attribute o name apos) [] [] pos) X.env = (do
      let ov ← eval o X.env
      standAt apos.atName
      let (f, first) ← holding [ov] (getMethod ov name pl)
      callWith pos f first (backTo pos (starEach [] X.env)) (backToKw pos (keywordEach [] X.env)))) :
    SE Y W X (.Call (.Attribute o name apos) [] [] pos) (ev I (.meth m mi [])) := by
  subst hx
  have rule : ∀ cf : { cf : Nat × Nat // I.mt cf.1 mi = some cf.2 }, PE X (.Call (.Attribute o (Y.fld mi) apos) [] [] pos) (tMethE (Y.cA cf.1.1) (Y.fld mi) (spM Y 1 (I.fn cf.1.2)) (WE W) (rE Y W (ev I m)) tNil) := fun ⟨⟨c, f⟩, hf⟩ => by
    obtain ⟨fa, fd, ps, hm, F, hb⟩ := (hM c f hf).ok
    exact pe_meth0E (pl := pl) ho (hM c f hf).cls hm F (hM c f hf).room (hM c f hf).gd hb (fun σ => passAt tk σ) ht
  have nil : ∀ {σ H} {Q : List V → Hp → Prop}, rL Y W (evs I []) σ H Q → Q [] H := fun {σ H Q} ⟨G, st, R, p⟩ => by
    simp only [evs] at p
    exact p G H [] R .refl .nil
  refine PE.imp (pe_ex rule) fun σ H Q ⟨G, st, R, p⟩ => ?_
  rcases meth_cls p with hno | ⟨c, f, hc, hf⟩
  · obtain ⟨c, f, hf⟩ := h0
    refine ⟨⟨(c, f), hf⟩, G, st, R, ?_⟩
    exact (meth_read hi R p (c := c) (fun d fr st1 z => absurd z (hno d fr st1)) hf rfl).mono fun x H1 ⟨a, dx, fs, ex, hh, hl, z⟩ => ⟨a, dx, fs, ex, hh, hl, nil z⟩
  · exact ⟨⟨(c, f), hf⟩, G, st, R, (meth_read hi R p hc hf rfl).mono fun x H1 ⟨a, dx, fs, ex, hh, hl, z⟩ => ⟨a, dx, fs, ex, hh, hl, nil z⟩⟩
end
end Mi

set_option Elab.async false
set_option linter.all false
set_option maxRecDepth 100000
namespace Mi
open PySem PySem.Spec PyProof.Rows L2
def Gh.addAl (G : Gh) (n : Nat) (a : Addr) : Gh := ⟨G.F, fun m => if m = n then some a else G.al m⟩
theorem Gh.addAl_at {G : Gh} {n m : Nat} {a : Addr} : (G.addAl n a).al m = if m = n then some a else G.al m := rfl
section
variable {Y : Wd} {W : WX} {G G0 : Gh} {st st0 : St} {σ : L2.St} {H H0 : Hp} {a : Addr}
theorem Rel.alNone (R : Rel Y G st σ H) : ∀ m b, G.al m = some b → (G.addAl st.s.length a).al m = some b := fun m b h => by
  have := R.dom m b h
  rw [Gh.addAl_at, if_neg (by omega)]
  exact h
theorem get_snoc {l : Cells} {d : D} {m : Nat} {x : D} (h : (l ++ [some d])[m]? = some (some x)) : (m = l.length ∧ x = d) ∨ (m < l.length ∧ l[m]? = some (some x)) := by
  by_cases hm : m < l.length
  · rw [List.getElem?_append_left hm] at h
    exact .inr ⟨hm, h⟩
  · by_cases e : m = l.length
    · subst e
      simp at h
      exact .inl ⟨rfl, h.symm⟩
    · rw [List.getElem?_eq_none (by simp; omega)] at h
      cases h
/-- a thing of nobody becomes a cell -/
theorem Rel.addCell (R : Rel Y G st σ H) {d : D} (hF : G.F a = none) (hO : ¬ Owned G st σ a) (c : CW Y G H a d) : Rel Y (G.addAl st.s.length a) ⟨st.r, st.s ++ [some d]⟩ σ H ∧ ∀ b, Owned (G.addAl st.s.length a) ⟨st.r, st.s ++ [some d]⟩ σ b → Owned G st σ b ∨ b = a := by
  have al := R.alNone (a := a)
  have key : ∀ {t : OT} {b : Addr}, owns (G.addAl st.s.length a) ⟨st.r, st.s ++ [some d]⟩ σ t b → (t = .cell st.s.length ∧ b = a) ∨ (t ≠ .cell st.s.length ∧ owns G st σ t b) := fun {t b} o => by
    cases t with
    | slot i => exact .inr ⟨(fun z => nomatch z), o⟩
    | cell m =>
      obtain ⟨⟨x, q⟩, e⟩ := o
      rcases get_snoc q with ⟨rfl, _⟩ | ⟨hm, q⟩
      · rw [Gh.addAl_at, if_pos rfl] at e
        cases e
        exact .inl ⟨rfl, rfl⟩
      · rw [Gh.addAl_at, if_neg (by omega)] at e
        exact .inr ⟨(fun z => by cases z; omega), ⟨x, q⟩, e⟩
  refine ⟨⟨R.fzi, R.fz, fun m b h => ?_, fun m x q => ?_, fun i b x q => ?_, fun t t' b h h' => ?_, R.len⟩, fun b ⟨t, o⟩ => ?_⟩
  · rw [Gh.addAl_at] at h
    simp only [List.length_append, List.length_singleton]
    by_cases e : m = st.s.length
    · omega
    · rw [if_neg e] at h
      have := R.dom m b h
      omega
  · rcases get_snoc q with ⟨rfl, rfl⟩ | ⟨hm, q⟩
    · exact ⟨a, by simp [Gh.addAl], hF, CW.mono (G := G) (fun _ _ h => h) al (fun _ h => h) c⟩
    · obtain ⟨b, e, f, cx⟩ := R.cells m x q
      exact ⟨b, al _ _ e, f, CW.mono (G := G) (fun _ _ h => h) al (fun _ h => h) cx⟩
  · obtain ⟨v, e, h1, h2⟩ := R.slots i b x q
    refine ⟨v, e, fun z => (h1 z).mono (fun _ _ h => h) al, fun z => ?_⟩
    obtain ⟨y, e2, f, cx⟩ := h2 z
    exact ⟨y, e2, f, CW.mono (G := G) (fun _ _ h => h) al (fun _ h => h) cx⟩
  · rcases key h with ⟨e1, e2⟩ | ⟨n1, o1⟩
    · rcases key h' with ⟨e3, _⟩ | ⟨n2, o2⟩
      · rw [e1, e3]
      · rw [e2] at o2; exact absurd ⟨t', o2⟩ hO
    · rcases key h' with ⟨e3, e4⟩ | ⟨n2, o2⟩
      · rw [e4] at o1; exact absurd ⟨t, o1⟩ hO
      · exact R.inj t t' b o1 o2
  · rcases key o with ⟨_, e⟩ | ⟨_, o⟩
    · exact .inr e
    · exact .inl ⟨t, o⟩
theorem Ext.addCell (x : Ext G0 st0 σ H0 G st H) (R : Rel Y G st σ H) {d : D} (hz : H0 a = none ∨ Owned G0 st0 σ a) (ow : ∀ b, Owned (G.addAl st.s.length a) ⟨st.r, st.s ++ [some d]⟩ σ b → Owned G st σ b ∨ b = a) : Ext G0 st0 σ H0 (G.addAl st.s.length a) ⟨st.r, st.s ++ [some d]⟩ H where
  lk := x.lk
  F := x.F
  al := fun n b h => R.alNone _ _ (x.al n b h)
  keep := x.keep
  there := x.there
  own := fun b h => by
    rcases ow b h with z | z
    · exact x.own b z
    · subst z; exact hz.symm
  frz := x.frz
end
section
variable {Y : Wd} {W : WX} {X : Cx} {I : Info} {e : Expr} {m : Ex} {G : Gh} {st : St} {σ : L2.St} {H : Hp}
/-- a new thing is kept as a cell -/
theorem se_cell (h : SE Y W X e (ev I m)) : SE Y W X e (ev I (.cell m)) := by
  refine PE.imp h fun σ H Q ⟨G, st, R, p⟩ => ⟨G, st, R, ?_⟩
  simp only [ev] at p
  cases q : ev I m st with
  | stuck => rw [q] at p; exact p
  | exc c s => rw [q] at p; exact p
  | ok r =>
    obtain ⟨⟨d, fr⟩, st1⟩ := r
    rw [q] at p
    intro G1 H1 v R1 E1 r1
    dsimp only [Out.bind] at p
    cases hm : (fr && isMutD d) with
    | false => rw [hm] at p; exact p.elim
    | true =>
      rw [hm] at p
      unfold RR at r1
      rw [if_pos hm] at r1
      obtain ⟨a, ev, f, nO, c, z⟩ := r1
      obtain ⟨R2, ow⟩ := R1.addCell f nO c
      refine p _ H1 v R2 (E1.addCell R1 z ow) ?_
      unfold RR
      rw [if_neg (by simp)]
      simp only [RV]
      exact ⟨a, ev, by simp [Gh.addAl]⟩
end
/-! ### a class, called -/
section
variable {X : Cx} {CX : CXT} {k : Nat} {f C : Addr} {fd : FuncData} {ps : List Str} {sp : Sp} {E : L2.St → XK} {x : Str} {p pos : Pos} {e : Expr} {es : List Expr} {t : TA}
def tMakeE (C : Addr) (sp : Sp) (E : L2.St → XK) (t : TA) : TE := fun σ H Q => t σ H fun vs H1 => ∀ x dx, H1 x = none → H1 dx = none → dx ≠ x →
  sp (.ref x :: vs) (upd (upd H1 dx (.own x)) x (.ins C dx [])) (fun v H2 => v = .non ∧ Q (.ref x) H2) (E σ)
theorem make_guards {A : Around} {C : Addr} {us : List Value} (h : A.guards = some []) : (A.under (.builtin "type.__call__" ⟨.ref C :: us, []⟩)).guards = some [] := by
  unfold Around.under
  simp only [h]
  rfl
theorem run_makeE {pins : List (Addr × Obj)} {σ : L2.St} {H : Hp} {s : Shared} {Q : VK} {us : List Value} {vs : List V} (M : Mk X.K C f) (F : FnG X.prog X.w X.K X.mg X.base CX k f fd ps sp) (hr : Room (k + 1) X.A) (hG : X.A.guards = some []) (hb : Binds X.K fd ps [])
    (hx : PassesAt CX X σ (E σ)) (I : Inv X pins σ H s) (r : Vals vs us)
    (h : ∀ x dx, H x = none → H dx = none → dx ≠ x → sp (.ref x :: vs) (upd (upd H dx (.own x)) x (.ins C dx [])) (fun v H2 => v = .non ∧ Q (.ref x) H2) (E σ)) :
    wpAny (model X.prog X.w) X.A (call (.ref C) us) (EP X pins σ Q) X.xe s := by
  have hq := h (s.heap.objs.size + 1) s.heap.objs.size (I.hok.fresh (Nat.le_succ _)) (I.hok.fresh (Nat.le_refl _)) (Nat.ne_of_lt (Nat.lt_succ_self _))
  have I2 := Inv.made (C := C) I
  have r2 : Vals (V.ref (s.heap.objs.size + 1) :: vs) (Value.ref (s.heap.objs.size + 1) :: us) := .cons rfl r
  have hl : (Value.ref (s.heap.objs.size + 1) :: us ++ []).length = ps.length := by
    have e := r2.length
    rw [F.len _ _ _ _ hq] at e
    rw [List.append_nil]
    exact e.symm
  have b := hb _ (Value.ref (s.heap.objs.size + 1) :: us) I2.kIn hl
  rw [List.append_nil] at b
  refine wpAny_call (make_map (f := f) I.kIn M.makes M.init (beq_iff_eq.mp M.fn) (codeAny_mono (F.run _ X.stack _ _ ⟨Value.ref (s.heap.objs.size + 1) :: us, []⟩ (Value.ref (s.heap.objs.size + 1) :: us) _ _ (E σ) (hr.make C us []) (make_guards hG)
    (I2.env0.make C us []) b r2 hq) fun r s' hq' => ?_))
  cases r with
  | error e => exact hx pins _ _ e s' I2 hq'
  | ok fl =>
    cases fl with
    | ret u =>
      obtain ⟨v, H', I3, rv, ev, q3⟩ := I2.after hq'
      subst ev
      exact ⟨rv, ⟨V.ref (s.heap.objs.size + 1), H', I3, rfl, q3⟩⟩
    | next => exact False.elim hq'
    | brk => exact False.elim hq'
    | cont => exact False.elim hq'
theorem pe_makeE (M : Mk X.K C f) (F : FnG X.prog X.w X.K X.mg X.base CX k f fd ps sp) (hr : Room (k + 1) X.A) (hG : X.A.guards = some []) (hg : Gl X x) (hm : X.mg x = some (.ref C)) (hb : Binds X.K fd ps []) (hx : ∀ σ, PassesAt CX X σ (E σ))
    (ha : PA X (e :: es) t) (hdb : (x == ("__debug__" : Str)) = false) (he : starEach (e :: es) X.env = (false, eval e X.env) :: starEach es X.env) (hpl : (backTo pos (starEach es X.env)).any (·.1) = false) :
    PE X (.Call (.Name x p) (e :: es) [] pos) (tMakeE C sp E t) := by
  refine ⟨fun pins s σ H Q I h => ?_⟩
  refine wpAny_Call_Name_kw (ld_glob I hg hm ?_ hdb)
  refine PySem.W.callWith_K (h₀ := X.base) I.ok.mod.kin M.kp (thn (ha.run pos pins s σ H _ I h) fun us s1 ⟨vs, H1, I1, r, q⟩ => ⟨I1.kIn, ?_⟩) he hpl
  exact run_makeE M F hr hG hb (hx σ) I1 r q
end
/-- the class of a name, called -/
structure MkAt (Y : Wd) (X : Cx) (x : Str) (c k np : Nat) (fn : List D → Cells → Out ((D × Bool) × Cells)) : Prop where
  gl : Gl X x
  ok : ∃ f fd ps, X.mg x = some (.ref (Y.cA c)) ∧ Mk X.K (Y.cA c) f ∧ FnG X.prog X.w X.K X.mg X.base (L2.CX X.prog X.w) k f fd ps (spM Y np fn) ∧ L2.Binds X.K fd ps []
  room : Room (k + 1) X.A
  gd : X.A.guards = some []
  nd : (x == ("__debug__" : Str)) = false
section
variable {Y : Wd} {W : WX} {X : Cx} {I : Info} {e : Expr} {es : List Expr} {m : Ex} {ms : List Ex} {pos p : Pos} {x : Str} {k np c f : Nat}
theorem se_mk (tk : Takes X W) (D0 : MkAt Y X x c k np (I.fn f)) (hf : I.ini c = some f) (ha : SL Y W X (e :: es) (evs I (m :: ms))) (hn : (m :: ms).length + 1 = np)
    (he : starEach (e :: es) X.env = (false, eval e X.env) :: starEach es X.env) (hpl : (backTo pos (starEach es X.env)).any (·.1) = false) : SE Y W X (.Call (.Name x p) (e :: es) [] pos) (ev I (.mk c (m :: ms))) := by
  obtain ⟨fa, fd, ps, hm, M, F, hb⟩ := D0.ok
  refine PE.imp (pe_makeE (E := WE W) M F D0.room D0.gd D0.gl hm hb (fun σ => passAt tk σ) ha D0.nd he hpl) fun σ H Q ⟨G, st, R, p⟩ => ⟨G, st, R, ?_⟩
  simp only [ev] at p
  refine (PostL.bind p).mono fun vs H1 ⟨ds, st1, G1, e1, R1, E1, r1, p1⟩ => ?_
  dsimp only at p1
  rw [hf] at p1
  intro a dx ha hdx hne
  have R2 := (R1.new (o := .own a) hdx)
  have ha2 : upd H1 dx (.own a) a = none := by rw [upd_ne (Ne.symm hne)]; exact ha
  have R3 := R2.new (o := .ins (Y.cA c) dx []) ha2
  have E3 := (Ext.new (G := G1) (st := st1) (σ := σ) (o := .own a) hdx).trans (Ext.new (G := G1) (st := st1) (σ := σ) (o := .ins (Y.cA c) dx []) ha2)
  have hO : ¬ Owned G1 st1 σ a := R1.notOwned ha
  have cw : CW Y G1 (upd (upd H1 dx (.own a)) a (.ins (Y.cA c) dx [])) a (.obj c [] []) := ⟨dx, [], upd_same, rfl, by simp only [RVs, List.map_nil]⟩
  obtain ⟨R4, ow⟩ := R3.addCell (R1.fresh ha) hO cw
  have E4 := E3.addCell R3 (.inl ha) ow
  refine ⟨_, _, .ref st1.s.length :: ds, R4.alone, RVs.cons (by simp only [RV]; exact ⟨a, rfl, by simp [Gh.addAl]⟩) (r1.mono E4.F E4.al), ?_, ?_⟩
  · rw [List.length_cons, ← r1.length, evs_len e1, hn]
  · have p2 : PostE Y W (G1.addAl st1.s.length a) ⟨st1.r, st1.s ++ [some (.obj c [] [])]⟩ σ (upd (upd H1 dx (.own a)) a (.ins (Y.cA c) dx [])) (match I.fn f (.ref st1.s.length :: ds) (st1.s ++ [some (.obj c [] [])]) with
      | .ok ((.non, _), s) => .ok ((.ref st1.s.length, false), { st1 with s := s })
      | .ok _ => .stuck
      | .exc c s => .exc c s
      | .stuck => .stuck) Q := PostE.on E4 p1
    have key : PostE Y W (G1.addAl st1.s.length a) ⟨st1.r, st1.s ++ [some (.obj c [] [])]⟩ σ (upd (upd H1 dx (.own a)) a (.ins (Y.cA c) dx [])) (callSt (I.fn f (.ref st1.s.length :: ds) (st1.s ++ [some (.obj c [] [])])) ⟨st1.r, st1.s ++ [some (.obj c [] [])]⟩) (fun v H2 => v = .non ∧ Q (.ref a) H2) := by
      cases hq : I.fn f (.ref st1.s.length :: ds) (st1.s ++ [some (.obj c [] [])]) with
      | stuck => rw [hq] at p2; exact p2
      | exc c s => rw [hq] at p2; exact p2
      | ok z =>
        obtain ⟨⟨d, fr⟩, s⟩ := z
        rw [hq] at p2
        cases d with
        | non =>
          intro G5 H5 v R5 E5 r5
          unfold RR at r5
          rw [if_neg (by simp [isMutD])] at r5
          simp only [RV] at r5
          refine ⟨r5, p2 G5 H5 (.ref a) R5 E5 ?_⟩
          unfold RR
          rw [if_neg (by simp)]
          simp only [RV]
          exact ⟨a, rfl, E5.al _ _ (by simp [Gh.addAl])⟩
        | _ => exact p2.elim
    exact PostC.of R4 key
end
end Mi

set_option Elab.async false
set_option linter.all false
set_option maxRecDepth 100000
namespace Mi
open PySem PySem.Spec PyProof.Rows L2
section
variable {Y : Wd} {W : WX} {G : Gh} {st : St} {σ : L2.St} {H : Hp} {a : Addr} {r : List Slot}
/-- a cell is shut -/
theorem Rel.shutCell (R : Rel Y G st σ H) {n : Nat} {x : D} (q : st.s[n]? = some (some x)) : ∃ a o, G.al n = some a ∧ H a = some o ∧ CO Y G o x ∧ G.F a = none ∧ Owned G st σ a ∧ Rel Y G ⟨st.r, setNth n none st.s⟩ σ H ∧ Ext G st σ H G ⟨st.r, setNth n none st.s⟩ H ∧ ¬ Owned G ⟨st.r, setNth n none st.s⟩ σ a := by
  obtain ⟨a, al, f, c⟩ := R.cells n _ q
  obtain ⟨o, ho, co⟩ := c.co
  have ow : owns G st σ (.cell n) a := ⟨⟨_, q⟩, al⟩
  have sub : ∀ {t : OT} {b : Addr}, owns G ⟨st.r, setNth n none st.s⟩ σ t b → owns G st σ t b ∧ t ≠ .cell n := fun {t b} o => by
    cases t with
    | slot i => exact ⟨o, fun z => nomatch z⟩
    | cell m =>
      obtain ⟨⟨d, q⟩, al⟩ := o
      rw [setNth_get] at q
      by_cases z : m = n
      · rw [if_pos z] at q; split at q <;> cases q
      · rw [if_neg z] at q; exact ⟨⟨⟨d, q⟩, al⟩, fun y => z (by cases y; rfl)⟩
  refine ⟨a, o, al, ho, co, f, ⟨_, ow⟩, ⟨R.fzi, R.fz, fun m b h => by rw [setNth_len]; exact R.dom m b h, fun m d q => ?_, R.slots, fun t t' b h h' => R.inj t t' b (sub h).1 (sub h').1, R.len⟩,
    ⟨fun _ _ _ h => h, fun _ _ h => h, fun _ _ h => h, fun _ _ h _ _ => h, fun _ h => h, fun b ⟨t, o⟩ => .inl ⟨t, (sub o).1⟩, fun _ h => .inl h⟩, fun ⟨t, o⟩ => (sub o).2 (R.inj _ _ _ (sub o).1 ow)⟩
  rw [setNth_get] at q
  by_cases z : m = n
  · rw [if_pos z] at q; split at q <;> cases q
  · rw [if_neg z] at q; exact R.cells m d q
/-- a thing of nobody, whose object is known, is frozen -/
theorem CO.rv {o : HO} {x : D} (f : G.F a = none) (c : CO Y G o x) : RV Y (G.put a o).F (G.put a o).al x (.ref a) := by
  have hs := Gh.put_sub (o := o) f
  cases o with
  | lst xs => cases x with
    | lst l => simp only [RV]; exact ⟨a, xs, rfl, by simp [LstAt, Gh.put], RVs.mono hs (fun _ _ h => h) _ _ c⟩
    | _ => exact c.elim
  | dK kvs => cases x with
    | dct ks vs => simp only [RV]; exact ⟨a, _, _, rfl, .dK kvs (by simp [isAt, Gh.put]), c.1.mono hs (fun _ _ h => h), c.2.mono hs fun _ _ h => h⟩
    | _ => exact c.elim
  | ins C dx fs => cases x with
    | obj k ns vs => obtain ⟨e, n, r⟩ := c; subst e; simp only [RV]; exact ⟨a, dx, fs, rfl, by simp [Gh.put], n, r.mono hs fun _ _ h => h⟩
    | _ => exact c.elim
  | _ => cases x <;> exact c.elim
mutual
theorem freeze_ok : ∀ (f : Nat) {G : Gh} {d d' : D} {s s' : Cells} {v : V}, Rel Y G ⟨r, s⟩ σ H → RV Y G.F G.al d v → freeze f d s = some (d', s') → ∃ G', Rel Y G' ⟨r, s'⟩ σ H ∧ Ext G ⟨r, s⟩ σ H G' ⟨r, s'⟩ H ∧ RV Y G'.F G'.al d' v
  | 0, G, d, d', s, s', v, R, rv, h => by simp [freeze] at h
  | f + 1, G, .ref n, d', s, s', v, R, rv, h => by
    simp only [freeze] at h
    split at h
    · rename_i x q
      obtain ⟨a, o, al, ho, co, fa, ow, R1, E1, nO⟩ := R.shutCell q
      simp only [RV] at rv
      obtain ⟨a', ev, al'⟩ := rv
      rw [al] at al'
      cases al'
      have hel : Held G ⟨r, setNth n none s⟩ σ H [(a, o)] := fun p hp => by
        cases List.mem_singleton.mp hp
        exact ⟨ho, fun _ => ⟨fa, nO⟩⟩
      obtain ⟨G2, x', R2, E2, co2, ed⟩ := content_ok f R1 co h
      have h2 := (hel.es E2.es) (a, o) (List.mem_singleton.mpr rfl)
      obtain ⟨fa2, nO2⟩ := h2.2 co.nofrz
      refine ⟨G2.put a o, R2.put ho fa2 nO2, Ext.put fa2 (E1.trans E2) (.inr ow), ?_⟩
      rw [ev, ed]
      exact co2.rv fa2
    · cases h
  | f + 1, G, .tup l, d', s, s', v, R, rv, h => by
    simp only [freeze, Option.map_eq_some_iff] at h
    obtain ⟨⟨l', s2⟩, h1, h2⟩ := h
    cases h2
    simp only [RV] at rv
    obtain ⟨a, xs, ev, t, rs⟩ := rv
    obtain ⟨G2, R2, E2, rs2⟩ := freezeL_ok f R rs h1
    refine ⟨G2, R2, E2, ?_⟩
    simp only [RV]
    exact ⟨a, xs, ev, t.mono E2.F, rs2⟩
  | f + 1, G, .lst l, d', s, s', v, R, rv, h => by
    simp only [freeze, Option.map_eq_some_iff] at h
    obtain ⟨⟨l', s2⟩, h1, h2⟩ := h
    cases h2
    simp only [RV] at rv
    obtain ⟨a, xs, ev, t, rs⟩ := rv
    obtain ⟨G2, R2, E2, rs2⟩ := freezeL_ok f R rs h1
    refine ⟨G2, R2, E2, ?_⟩
    simp only [RV]
    exact ⟨a, xs, ev, E2.F _ _ t, rs2⟩
  | f + 1, G, .dct ks vs, d', s, s', v, R, rv, h => by
    simp only [freeze, Option.map_eq_some_iff] at h
    obtain ⟨⟨l', s2⟩, h1, h2⟩ := h
    cases h2
    simp only [RV] at rv
    obtain ⟨a, xs, ys, ev, t, rs, rs'⟩ := rv
    obtain ⟨G2, R2, E2, rs2⟩ := freezeL_ok f R rs' h1
    refine ⟨G2, R2, E2, ?_⟩
    simp only [RV]
    exact ⟨a, xs, ys, ev, t.mono fun b o h => E2.F b o h, rs.mono E2.F E2.al, rs2⟩
  | f + 1, G, .obj c ns vs, d', s, s', v, R, rv, h => by
    simp only [freeze, Option.map_eq_some_iff] at h
    obtain ⟨⟨l', s2⟩, h1, h2⟩ := h
    cases h2
    simp only [RV] at rv
    obtain ⟨a, dx, fs, ev, t, hn, rs⟩ := rv
    obtain ⟨G2, R2, E2, rs2⟩ := freezeL_ok f R rs h1
    refine ⟨G2, R2, E2, ?_⟩
    simp only [RV]
    exact ⟨a, dx, fs, ev, E2.F _ _ t, hn, rs2⟩
  | f + 1, G, .non, d', s, s', v, R, rv, h => by simp only [freeze] at h; cases h; exact ⟨G, R, .refl, rv⟩
  | f + 1, G, .bl _, d', s, s', v, R, rv, h => by simp only [freeze] at h; cases h; exact ⟨G, R, .refl, rv⟩
  | f + 1, G, .int _, d', s, s', v, R, rv, h => by simp only [freeze] at h; cases h; exact ⟨G, R, .refl, rv⟩
  | f + 1, G, .str _, d', s, s', v, R, rv, h => by simp only [freeze] at h; cases h; exact ⟨G, R, .refl, rv⟩
  | f + 1, G, .err _ _, d', s, s', v, R, rv, h => by simp only [freeze] at h; cases h; exact ⟨G, R, .refl, rv⟩
  | f + 1, G, .scr _, d', s, s', v, R, rv, h => by simp only [freeze] at h; cases h; exact ⟨G, R, .refl, rv⟩
theorem content_ok : ∀ (f : Nat) {G : Gh} {x x' : D} {s s' : Cells} {o : HO}, Rel Y G ⟨r, s⟩ σ H → CO Y G o x → freeze f x s = some (x', s') → ∃ G' x2, Rel Y G' ⟨r, s'⟩ σ H ∧ Ext G ⟨r, s⟩ σ H G' ⟨r, s'⟩ H ∧ CO Y G' o x2 ∧ x' = x2
  | 0, G, x, x', s, s', o, R, c, h => by simp [freeze] at h
  | f + 1, G, .lst l, x', s, s', o, R, c, h => by
    simp only [freeze, Option.map_eq_some_iff] at h
    obtain ⟨⟨l', s2⟩, h1, h2⟩ := h
    cases h2
    cases o with
    | lst xs =>
      obtain ⟨G2, R2, E2, rs2⟩ := freezeL_ok f (xs := xs) R c h1
      exact ⟨G2, .lst l', R2, E2, rs2, rfl⟩
    | _ => exact c.elim
  | f + 1, G, .dct ks vs, x', s, s', o, R, c, h => by
    simp only [freeze, Option.map_eq_some_iff] at h
    obtain ⟨⟨l', s2⟩, h1, h2⟩ := h
    cases h2
    cases o with
    | dK kvs =>
      obtain ⟨G2, R2, E2, rs2⟩ := freezeL_ok f R c.2 h1
      exact ⟨G2, .dct ks l', R2, E2, ⟨c.1.mono E2.F E2.al, rs2⟩, rfl⟩
    | _ => exact c.elim
  | f + 1, G, .obj k ns vs, x', s, s', o, R, c, h => by
    simp only [freeze, Option.map_eq_some_iff] at h
    obtain ⟨⟨l', s2⟩, h1, h2⟩ := h
    cases h2
    cases o with
    | ins C dx fs =>
      obtain ⟨e, n, rs⟩ := c
      obtain ⟨G2, R2, E2, rs2⟩ := freezeL_ok f R rs h1
      exact ⟨G2, .obj k ns l', R2, E2, ⟨e, n, rs2⟩, rfl⟩
    | _ => exact c.elim
  | f + 1, G, .ref n, x', s, s', o, R, c, h => by cases o <;> exact c.elim
  | f + 1, G, .tup l, x', s, s', o, R, c, h => by cases o <;> exact c.elim
  | f + 1, G, .non, x', s, s', o, R, c, h => by cases o <;> exact c.elim
  | f + 1, G, .bl _, x', s, s', o, R, c, h => by cases o <;> exact c.elim
  | f + 1, G, .int _, x', s, s', o, R, c, h => by cases o <;> exact c.elim
  | f + 1, G, .str _, x', s, s', o, R, c, h => by cases o <;> exact c.elim
  | f + 1, G, .err _ _, x', s, s', o, R, c, h => by cases o <;> exact c.elim
  | f + 1, G, .scr _, x', s, s', o, R, c, h => by cases o <;> exact c.elim
theorem freezeL_ok : ∀ (f : Nat) {G : Gh} {l l' : List D} {s s' : Cells} {xs : List V}, Rel Y G ⟨r, s⟩ σ H → RVs Y G.F G.al l xs → freezeL f l s = some (l', s') → ∃ G', Rel Y G' ⟨r, s'⟩ σ H ∧ Ext G ⟨r, s⟩ σ H G' ⟨r, s'⟩ H ∧ RVs Y G'.F G'.al l' xs
  | 0, G, l, l', s, s', xs, R, rs, h => by cases l <;> simp [freezeL] at h
  | f + 1, G, [], l', s, s', xs, R, rs, h => by simp only [freezeL] at h; cases h; exact ⟨G, R, .refl, rs⟩
  | f + 1, G, d :: l, l', s, s', xs, R, rs, h => by
    simp only [freezeL] at h
    simp only [RVs] at rs
    obtain ⟨x, r', e, rd, rl⟩ := rs
    subst e
    split at h
    · rename_i d1 s1 hd
      obtain ⟨G1, R1, E1, rv1⟩ := freeze_ok f R rd hd
      simp only [Option.map_eq_some_iff] at h
      obtain ⟨⟨l2, s2⟩, h1, h2⟩ := h
      cases h2
      obtain ⟨G2, R2, E2, rs2⟩ := freezeL_ok f R1 (rl.mono E1.F E1.al) h1
      exact ⟨G2, R2, E1.trans E2, RVs.cons (rv1.mono E2.F E2.al) rs2⟩
    · cases h
end
end
section
variable {Y : Wd} {W : WX} {X : Cx} {I : Info} {e : Expr} {m : Ex} {G : Gh} {st : St} {σ : L2.St} {H : Hp}
theorem se_frz (h : SE Y W X e (ev I m)) : SE Y W X e (ev I (.frz m)) := by
  refine PE.imp h fun σ H Q ⟨G, st, R, p⟩ => ⟨G, st, R, ?_⟩
  simp only [ev] at p
  cases q : ev I m st with
  | stuck => rw [q] at p; exact p
  | exc c s => rw [q] at p; exact p
  | ok z =>
    obtain ⟨⟨d, fr⟩, st1⟩ := z
    rw [q] at p
    intro G1 H1 v R1 E1 r1
    obtain ⟨G2, R2, E2, rv⟩ := RR.shut R1 E1 r1
    dsimp only [Out.bind] at p
    cases hq : freeze 100 d st1.s with
    | none => rw [hq] at p; exact p.elim
    | some w =>
      obtain ⟨d', s'⟩ := w
      rw [hq] at p
      obtain ⟨G3, R3, E3, rv3⟩ := freeze_ok 100 (r := st1.r) R2 rv hq
      refine p G3 H1 v R3 (E2.trans E3) ?_
      unfold RR
      rw [if_neg (by simp)]
      exact rv3
end
end Mi

set_option Elab.async false
set_option linter.all false
set_option maxRecDepth 100000
namespace Mi
open PySem PySem.Spec PyProof.Rows L2
/-! ### match of a text -/
/-- a pattern of written texts -/
inductive PatV : Pattern → List Nat → Prop
  | mk {j : Nat} {p1 pos : Pos} {s : Str} {l : List Nat} : s = stOf l → PatV (.MatchValue (.Constant (.str s) j p1) pos) l
inductive PatOk : Pattern → List (List Nat) → Prop
  | one {p : Pattern} {l : List Nat} : PatV p l → PatOk p [l]
  | many {ps : List Pattern} {ls : List (List Nat)} {pos : Pos} : Paired PatV ps ls → PatOk (.MatchOr ps pos) ls
section
variable {Y : Wd} {W : WX} {X : Cx} {I : Info} {e : Expr} {m : Ex} {pos : Pos} {pins : List (Addr × Obj)} {s : Shared} {σ : L2.St} {H : Hp}
theorem patV_names {p : Pattern} {l : List Nat} (h : PatV p l) : p.names = [] := by
  cases h; rfl
theorem patV_ok {p : Pattern} {l w : List Nat} {u : Value} (h : PatV p l) (I : Inv X pins σ H s) (r : RelV (.str (stOf w)) u) {Q : Option (List (Str × Value)) → Shared → Prop}
    (hq : ∀ s', Inv X pins σ H s' → Q (if w = l then some [] else none) s') : wpAny (model X.prog X.w) X.A (matchPattern p X.env u) Q X.xe s := by
  cases h with
  | @mk j p1 pos s0 l e =>
    obtain ⟨t, rfl⟩ := r
    refine wpAny_matchPattern_Value (thn ((pe_str (X := X) (x := s0)).run pins s σ H (fun v H' => v = .str s0 ∧ H' = H) I ⟨rfl, rfl⟩) fun x s1 ⟨v, H1, I1, rv, ev, eH⟩ => ?_)
    subst ev
    subst eH
    obtain ⟨t2, rfl⟩ := rv
    refine PyProof.Rows.eq_str ?_
    subst e
    refine wpAny_truthy_bool ?_
    have hb : (stOf w == stOf l) = decide (w = l) := by
      by_cases z : w = l
      · subst z; simp
      · have : ¬ stOf w = stOf l := fun q => z (stOf_inj.mp q)
        simp [z, this]
    rw [hb]
    by_cases z : w = l
    · rw [decide_eq_true z, if_pos rfl]
      have := hq _ I1
      rw [if_pos z] at this
      exact this
    · rw [decide_eq_false z, if_neg Bool.false_ne_true]
      have := hq _ I1
      rw [if_neg z] at this
      exact this
theorem first_ok {w : List Nat} {u : Value} (r : RelV (.str (stOf w)) u) {Q : Option (List (Str × Value)) → Shared → Prop} : ∀ {ps : List Pattern} {ls : List (List Nat)} {s : Shared}, Paired PatV ps ls → Inv X pins σ H s →
    (∀ s', Inv X pins σ H s' → Q (if matches_ w ls = true then some [] else none) s') → wpAny (model X.prog X.w) X.A (matchFirst ps X.env u) Q X.xe s
  | _, _, s, .nil, I, hq => wpAny_matchFirst_nil (by simpa [matches_] using hq s I)
  | _, _, s, @Paired.cons _ _ _ p l ps ls hp ht, I, hq => by
    refine wpAny_matchFirst_cons (patV_ok hp I r fun s' I' => ?_)
    by_cases z : w = l
    · rw [if_pos z]
      have := hq s' I'
      have hm : matches_ w (l :: ls) = true := by subst z; simp [matches_]
      rw [hm, if_pos rfl] at this
      exact this
    · rw [if_neg z]
      refine first_ok r ht I' fun s2 I2 => ?_
      have := hq s2 I2
      have hm : matches_ w (l :: ls) = matches_ w ls := by
        have : (l == w) = false := by simpa using fun q => z q.symm
        simp [matches_, this]
      rw [hm] at this
      exact this
theorem pat_ok {p : Pattern} {ls : List (List Nat)} {w : List Nat} {u : Value} (h : PatOk p ls) (I : Inv X pins σ H s) (r : RelV (.str (stOf w)) u) {Q : Option (List (Str × Value)) → Shared → Prop}
    (hq : ∀ s', Inv X pins σ H s' → Q (if matches_ w ls = true then some [] else none) s') : wpAny (model X.prog X.w) X.A (matchPattern p X.env u) Q X.xe s := by
  cases h with
  | one hv =>
    rename_i l
    refine patV_ok hv I r fun s' I' => ?_
    have := hq s' I'
    have hm : matches_ w [l] = decide (w = l) := by
      by_cases z : w = l
      · subst z; simp [matches_]
      · have h2 : (l == w) = false := by simpa using fun q => z q.symm
        simp [matches_, h2, z]
    rw [hm] at this
    simpa using this
  | @many ps ls pos hv =>
    refine wpAny_matchPattern_Or (first_ok r hv I fun s' I' => ?_)
    have := hq s' I'
    cases hm : matches_ w ls with
    | false => rw [hm] at this; simpa using this
    | true =>
      rw [hm] at this
      simp only [if_true] at this ⊢
      have hn : namesOfAll (ps.take 1) = [] := by
        cases hv with
        | nil => rfl
        | cons hp ht => simp [namesOfAll, patV_names hp]
      rw [hn]
      exact this
/-- the cases -/
inductive CasesOk (Y : Wd) (W : WX) (X : Cx) (I : Info) : List MatchCase → List (List (List Nat)) → List (List Sm) → Prop
  | nil : CasesOk Y W X I [] [] []
  | cons {p : Pattern} {body : List Stmt} {ls : List (List Nat)} {mb : List Sm} {cs : List MatchCase} {ps : List (List (List Nat))} {bs : List (List Sm)} : PatOk p ls → SSs Y W X body (exB I mb) → CasesOk Y W X I cs ps bs → CasesOk Y W X I (⟨p, none, body⟩ :: cs) (ls :: ps) (mb :: bs)
theorem cases_ok {w : List Nat} {u : Value} (r : RelV (.str (stOf w)) u) {D0 : Ends} : ∀ {cs : List MatchCase} {ps : List (List (List Nat))} {bs : List (List Sm)}, CasesOk Y W X I cs ps bs → ∀ {s : Shared} {first : Bool}, Inv X pins σ H s → rS Y W (exM I w ps bs) D0 σ H →
    wpAny (model X.prog X.w) X.A (matchCases cs X.env u first) (fun f s' => L2.SP X pins D0 f s') X.xe s := by
  intro cs ps bs h
  induction h with
  | nil =>
    intro s first I0 ⟨G, st, R, p⟩
    simp only [exM] at p
    exact wpAny_matchCases_nil ⟨σ, H, I0, p G σ H R .refl⟩
  | @cons p body ls mb cs ps bs hp hb hr ih =>
    intro s first I0 ⟨G, st, R, q⟩
    refine wpAny_matchCases_cons (pat_ok hp I0 r fun s' I' => ?_)
    simp only [exM] at q
    cases hm : matches_ w ls with
    | true =>
      rw [hm] at q
      simp only [if_true] at q ⊢
      exact wpAny_assignInOrder_none (hb.run pins s' σ H D0 I' ⟨G, st, R, q⟩)
    | false =>
      rw [hm] at q
      simp only [Bool.false_eq_true, if_false] at q ⊢
      exact ih I' ⟨G, st, R, q⟩
theorem ss_mtch {cs : List MatchCase} {ps : List (List (List Nat))} {bs : List (List Sm)} (h : SO Y W X e (opd m (ev I m))) (hc : CasesOk Y W X I cs ps bs) : SS Y W X (.Match e cs pos) (exS I (.mtch m ps bs)) := by
  refine ⟨fun pins s σ H D0 I0 ⟨G, st, R, p⟩ => ?_⟩
  simp only [exS] at p
  refine wpAny_Match (thn (h.run pins s σ H (fun v H1 => ∃ w, v = .str (stOf w) ∧ rS Y W (exM I w ps bs) D0 σ H1) I0 ⟨G, st, R, ?_⟩) fun u s1 ⟨v, H1, I1, rv, w, ev, q⟩ => ?_)
  · cases q : opd m (ev I m) st with
    | stuck => rw [q] at p; exact p
    | exc c s =>
      rw [q] at p
      intro G' H' R' E'
      refine p G' σ H' R' ⟨E'.lk, E'.F, E'.al, E'.keep, E'.there, fun a o => E'.own a ?_, E'.frz⟩
      obtain ⟨n, z⟩ := owned_nil o
      exact ⟨.cell n, z⟩
    | ok z =>
      obtain ⟨x, st1⟩ := z
      rw [q] at p
      intro G1 H1 v R1 E1 o1
      have p1 := PostS.on E1.es p
      dsimp only [Out.bind] at p1
      cases q1 : rdo st1 x with
      | none => rw [q1] at p1; exact p1.elim
      | some d =>
        rw [q1] at p1
        have vv := VV.ov R1 o1 q1
        cases d with
        | str w => simp only [VV] at vv; exact ⟨w, vv.1, G1, st1, R1, p1⟩
        | _ => exact p1.elim
  · subst ev
    exact cases_ok rv hc I1 q
end
end Mi

set_option Elab.async false
set_option linter.all false
set_option maxRecDepth 100000
namespace Mi
open PySem PySem.Spec PyProof.Rows L2
section
variable {Y : Wd} {W : WX} {X : Cx} {I : Info} {a b c e : Expr} {ma mb mc : Ex} {pos : Pos} {G : Gh} {st : St} {σ : L2.St} {H : Hp}
/-! ### a op b op c -/
theorem chain_read {o q : COp} : ∀ σ H Q, rE Y W (ev I (.chain o q ma mb mc)) σ H Q → tChain (rTwo Y W (kCmp o)) (rTwo Y W (kCmp q)) (rO Y W (opd ma (ev I ma))) (rO Y W (opd mb (ev I mb))) (rO Y W (opd mc (ev I mc))) σ H Q := by
  intro σ H Q ⟨G, st, R, p⟩
  simp only [ev] at p
  refine ⟨G, st, R, (PostO.bind p).mono fun vx H1 ⟨x, st1, G1, _, R1, E1, o1, p1⟩ => ⟨G1, st1, R1, (PostO.bind p1).mono fun vy H2 ⟨y, st2, G2, _, R2, E2, o2, p2⟩ => ?_⟩⟩
  have o1' : OV Y G2 st2 σ x vx := OV.mono (H' := H2) E2 o1
  dsimp only at p2
  cases q1 : rdo st2 x with
  | none => rw [q1] at p2; exact p2.elim
  | some dx =>
    cases q2 : rdo st2 y with
    | none => rw [q1, q2] at p2; exact p2.elim
    | some dy =>
      rw [q1, q2] at p2
      dsimp only at p2
      cases q3 : cmpD o dx dy with
      | none => rw [q3] at p2; exact p2.elim
      | some z =>
        rw [q3] at p2
        refine ⟨G2, st2, σ, dx, dy, R2, VV.ov R2 o1' q1, VV.ov R2 o2 q2, ?_⟩
        unfold kCmp ans
        rw [q3]
        intro G3 H3 v R3 E3 r3
        have hv := r3.bl
        refine ⟨z, hv, ?_⟩
        have p3 := PostE.on E3 p2
        dsimp only [Out.bind, Out.of] at p3
        cases z with
        | false =>
          rw [if_neg Bool.false_ne_true]
          refine p3 G3 H3 _ R3 .refl ?_
          unfold RR
          rw [if_neg (by simp)]
          simp only [RV]
        | true =>
          rw [if_pos rfl]
          refine ⟨G3, st2, R3, (PostO.bind p3).mono fun vu H4 ⟨u, st4, G4, _, R4, E4, o4, p4⟩ => ?_⟩
          have o2' : OV Y G4 st4 σ y vy := OV.mono (H' := H4) (E3.trans E4) o2
          dsimp only at p4
          cases q4 : rdo st4 y with
          | none => rw [q4] at p4; exact p4.elim
          | some dy' =>
            cases q5 : rdo st4 u with
            | none => rw [q4, q5] at p4; exact p4.elim
            | some du =>
              rw [q4, q5] at p4
              dsimp only at p4
              refine ⟨G4, st4, σ, dy', du, R4, VV.ov R4 o2' q4, VV.ov R4 o4 q5, ?_⟩
              dsimp only
              cases q6 : cmpD q dy' du with
              | none => rw [q6] at p4; exact p4.elim
              | some z2 => rw [q6] at p4; exact p4
theorem se_chain {o q : COp} (hK : X.K = Y.K) (hu : X.A.units + 66 < cLine) (hd : DcIn Y X) (hm : lastMarks [pyC o, pyC q] [b, c] = false) (ha : SO Y W X a (opd ma (ev I ma))) (hb : SO Y W X b (opd mb (ev I mb))) (hc : SO Y W X c (opd mc (ev I mc))) :
    SE Y W X (.Compare a [pyC o, pyC q] [b, c] pos) (ev I (.chain o q ma mb mc)) :=
  PE.imp (pe_chain (cmp_all hK hu hd o) (cmp_all hK hu hd q) ha hb hc hm) chain_read
theorem chain_bool {o q : COp} : ∀ st d fr st', ev I (.chain o q ma mb mc) st = .ok ((d, fr), st') → ∃ k, d = .bl k := by
  intro st d fr st' h
  simp only [ev] at h
  obtain ⟨⟨x, s1⟩, _, h⟩ := bind_ok h
  obtain ⟨⟨y, s2⟩, _, h⟩ := bind_ok h
  dsimp only at h
  cases e1 : rdo s2 x with
  | none => rw [e1] at h; cases h
  | some dx =>
    cases e2 : rdo s2 y with
    | none => rw [e1, e2] at h; cases h
    | some dy =>
      rw [e1, e2] at h
      dsimp only at h
      cases e3 : cmpD o dx dy with
      | none => rw [e3] at h; cases h
      | some z =>
        rw [e3] at h
        cases z with
        | false => cases h; exact ⟨_, rfl⟩
        | true =>
          obtain ⟨zz, ez, h⟩ := bind_ok h
          cases ez
          dsimp only at h
          obtain ⟨⟨u, s4⟩, _, h⟩ := bind_ok h
          dsimp only at h
          cases e4 : rdo s4 y with
          | none => rw [e4] at h; cases h
          | some dy' =>
            cases e5 : rdo s4 u with
            | none => rw [e4, e5] at h; cases h
            | some du =>
              rw [e4, e5] at h
              obtain ⟨z2, _, h⟩ := bind_ok h
              cases h
              exact ⟨_, rfl⟩
theorem sb_chain {o q : COp} (hK : X.K = Y.K) (hu : X.A.units + 66 < cLine) (hd : DcIn Y X) (hm : lastMarks [pyC o, pyC q] [b, c] = false) (ha : SO Y W X a (opd ma (ev I ma))) (hb : SO Y W X b (opd mb (ev I mb))) (hc : SO Y W X c (opd mc (ev I mc))) :
    SB Y W X (.Compare a [pyC o, pyC q] [b, c] pos) (tst (.chain o q ma mb mc) (ev I (.chain o q ma mb mc))) := by
  refine PT.imp (pt_chain (cmp_all (W := W) hK hu hd o) (cmp_all (W := W) hK hu hd q) ha hb hc hm) fun σ H Q h => ?_
  exact chain_read σ H _ (tst_bool (fun i z => by cases z) chain_bool σ H Q h)
/-! ### a, b = x, y -/
/-- what is fresh or frozen, without its past -/
def FZ (Y : Wd) (G : Gh) (st : St) (σ : L2.St) (H : Hp) (b : Bool) (d : D) (v : V) : Prop := (b = false → RV Y G.F G.al d v) ∧ (b = true → ∃ a, v = .ref a ∧ G.F a = none ∧ ¬ Owned G st σ a ∧ CW Y G H a d)
theorem RR.fz {G0 : Gh} {st0 : St} {H0 : Hp} {d : D} {fr : Bool} {v : V} (r : RR Y G0 st0 σ H0 G st H d fr v) : FZ Y G st σ H (fr && isMutD d) d v := by
  unfold RR at r
  refine ⟨fun z => ?_, fun z => ?_⟩
  · rw [if_neg (by rw [z]; exact Bool.false_ne_true)] at r
    exact r
  · rw [if_pos z] at r
    obtain ⟨a, e, f, n, c, _⟩ := r
    exact ⟨a, e, f, n, c⟩
theorem FZ.later {G' : Gh} {st' : St} {σ' : L2.St} {H' : Hp} {b : Bool} {d : D} {v : V} (h : FZ Y G st σ H b d v) (x : ES G st σ H G' st' σ' H') : FZ Y G' st' σ' H' b d v := by
  refine ⟨fun z => (h.1 z).mono x.F x.al, fun z => ?_⟩
  obtain ⟨a, e, f, n, c⟩ := h.2 z
  obtain ⟨o, ho, co⟩ := c.co
  have hel : Held G st σ H [(a, o)] := fun p hp => by
    cases List.mem_singleton.mp hp
    exact ⟨ho, fun _ => ⟨f, n⟩⟩
  obtain ⟨k1, k2⟩ := (hel.es x) (a, o) (List.mem_singleton.mpr rfl)
  obtain ⟨k3, k4⟩ := k2 co.nofrz
  exact ⟨a, e, k3, k4, CO.cw k1 (co.mono x.gs)⟩
theorem par_read {i j : Nat} {D0 : Ends} : ∀ σ H, rS Y W (exS I (.par [i, j] [ma, mb])) D0 σ H → tCons (rE Y W (ev I ma)) (tCons (rE Y W (ev I mb)) tNil) σ H fun vs H1 => ∃ v w, vs = [v, w] ∧ D0.nx ((σ.set i (some v)).set j (some w)) H1 := by
  intro σ H ⟨G, st, R, p⟩
  simp only [exS, evpar] at p
  refine ⟨G, st, R, ?_⟩
  have exc : ∀ {G0 st0 H0}, Ext G st σ H G0 st0 H0 → ∀ {c s}, PostS Y W G st σ H (.exc c s) D0 → ∀ G' H', Rel Y G' ⟨[], s⟩ [] H' → Ext G0 st0 σ H0 G' ⟨[], s⟩ H' → W (.ref (Y.eA c)) none σ H' := fun {G0 st0 H0} x {c s} p G' H' R' E0 => by
    have E' := x.trans E0
    refine p G' σ H' R' ⟨E'.lk, E'.F, E'.al, E'.keep, E'.there, fun a o => E'.own a ?_, E'.frz⟩
    obtain ⟨n, z⟩ := owned_nil o
    exact ⟨.cell n, z⟩
  cases q : ev I ma st with
  | stuck => rw [q] at p; exact p
  | exc c s => rw [q] at p; exact exc .refl p
  | ok r =>
    obtain ⟨⟨d, fr⟩, st1⟩ := r
    rw [q] at p
    dsimp only [Out.bind] at p
    intro G1 H1 v R1 E1 r1
    refine ⟨G1, st1, R1, ?_⟩
    cases q2 : ev I mb st1 with
    | stuck => rw [q2] at p; exact p
    | exc c s => rw [q2] at p; exact exc E1 p
    | ok r2 =>
      obtain ⟨⟨d2, fr2⟩, st2⟩ := r2
      rw [q2] at p
      intro G2 H2 v2 R2 E2 r2
      refine ⟨v, v2, rfl, ?_⟩
      have p : PostS Y W G st σ H (.ok (.nx, setSlot j (some (fr2 && isMutD d2, d2)) (setSlot i (some (fr && isMutD d, d)) st2))) D0 := p
      have f1 := r1.fz.later E2.es
      have f2 := r2.fz
      have z1 : (fr && isMutD d) = true → ∃ a, v = .ref a ∧ (H a = none ∨ Owned G st σ a) ∧ H1 a ≠ none ∧ ¬ Owned G1 st1 σ a := fun z => by
        unfold RR at r1
        rw [if_pos z] at r1
        obtain ⟨a, e, f, n, c, y⟩ := r1
        exact ⟨a, e, y, c.there, n⟩
      have z2 : (fr2 && isMutD d2) = true → ∃ a, v2 = .ref a ∧ (H1 a = none ∨ Owned G1 st1 σ a) := fun z => by
        unfold RR at r2
        rw [if_pos z] at r2
        obtain ⟨a, e, f, n, c, y⟩ := r2
        exact ⟨a, e, y⟩
      have R3 := R2.store (i := i) f1.1 f1.2
      have E3 := ES.store (i := i) (b := fr && isMutD d) (d := d) (v := v) R2.len (E1.trans E2) fun z => by
        obtain ⟨a, e, y, _⟩ := z1 z
        exact ⟨a, e, y⟩
      have f2' : (fr2 && isMutD d2) = true → ∃ a, v2 = .ref a ∧ G2.F a = none ∧ ¬ Owned G2 (setSlot i (some (fr && isMutD d, d)) st2) (σ.set i (some v)) a ∧ CW Y G2 H2 a d2 := fun z => by
        obtain ⟨a, e, f, n, c⟩ := f2.2 z
        refine ⟨a, e, f, fun ⟨t, o⟩ => ?_, c⟩
        rcases owns_set R2.len o with ⟨_, _, ⟨d', ed⟩, ev⟩ | ⟨_, o1⟩
        · simp only [Option.some.injEq, Prod.mk.injEq] at ed
          obtain ⟨a1, e1, _, h1, n1⟩ := z1 ed.1
          obtain ⟨a2, e2, y2⟩ := z2 z
          rw [e] at e2
          cases e2
          rw [e1] at ev
          cases ev
          exact y2.elim h1 n1
        · exact n ⟨t, o1⟩
      have R4 := R3.store (i := j) f2.1 f2'
      have x0 : ES G st σ H G2 (setSlot i (some (fr && isMutD d, d)) st2) (σ.set i (some v)) H2 := E3
      refine p G2 _ H2 R4 ⟨x0.lk, x0.F, x0.al, x0.keep, x0.there, fun b ⟨t, o⟩ => ?_, x0.frz⟩
      rcases owns_set R3.len o with ⟨_, _, ⟨d', ed⟩, ev⟩ | ⟨_, o1⟩
      · simp only [Option.some.injEq, Prod.mk.injEq] at ed
        obtain ⟨a2, e2, y2⟩ := z2 ed.1
        rw [e2] at ev
        cases ev
        rcases y2 with y2 | y2
        · right
          cases hh : H b with
          | none => rfl
          | some u => exact absurd y2 (E1.there _ (by rw [hh]; exact fun z => nomatch z))
        · exact E1.own _ y2
      · exact x0.own b ⟨t, o1⟩
theorem ss_par {i j : Nat} {x y : Str} {px py pt : Pos} {kt k2 pt2} (hc : X.calm = true) (hN : X.N.Nodup) (hi : X.N[i]? = some x) (hj : X.N[j]? = some y) (hij : i ≠ j)
    (hx : X.env.scope.names.lookup x = some .local) (hy : X.env.scope.names.lookup y = some .local) (ha : SE Y W X a (ev I ma)) (hb : SE Y W X b (ev I mb)) (hst : starEach [a, b] X.env = (false, eval a X.env) :: starEach [b] X.env) (hst2 : starEach [b] X.env = (false, eval b X.env) :: starEach [] X.env)
    (hw : swappedStores [.Tuple [.Name x px, .Name y py] kt pt] (.Tuple [a, b] k2 pt2) X.env = pure (some [x, y]))
    (hs : swapsWithSole [.Tuple [.Name x px, .Name y py] kt pt] (.Tuple [a, b] k2 pt2) pos.line X.env = pure false) :
    SS Y W X (.Assign [.Tuple [.Name x px, .Name y py] kt pt] (.Tuple [a, b] k2 pt2) pos) (exS I (.par [i, j] [ma, mb])) :=
  PS.imp (ps_par hc hN hi hj hij hx hy (pa_cons ha (pa_cons hb pa_nil hst2) hst) hw hs) fun D0 σ H h => par_read σ H h
end
end Mi

set_option Elab.async false
set_option linter.all false
set_option maxRecDepth 100000
namespace Mi
open PySem PySem.Spec PyProof.Rows L2
section
variable {Y : Wd} {W : WX} {X : Cx} {I : Info} {o a b e tg : Expr} {m ma mb : Ex} {pos apos cpos p : Pos} {G : Gh} {st : St} {σ : L2.St} {H : Hp}
/-! ### for k, v in d.items() -/
theorem pairsD_get : ∀ {ks vs : List D} {i : Nat} {d : D}, (pairsD ks vs)[i]? = some d → ∃ k v, ks[i]? = some k ∧ vs[i]? = some v ∧ d = .tup [k, v]
  | [], vs, i, d, h => by simp [pairsD] at h
  | k :: ks, [], i, d, h => by simp [pairsD] at h
  | k :: ks, v :: vs, 0, d, h => by simp [pairsD] at h; exact ⟨k, v, rfl, rfl, h.symm⟩
  | k :: ks, v :: vs, i + 1, d, h => by
    simp only [pairsD, List.getElem?_cons_succ] at h
    obtain ⟨k', v', h1, h2, h3⟩ := pairsD_get h
    exact ⟨k', v', by simpa using h1, by simpa using h2, h3⟩
theorem pairsD_len : ∀ {ks vs : List D}, ks.length = vs.length → (pairsD ks vs).length = ks.length
  | [], [], _ => rfl
  | k :: ks, v :: vs, h => by simp only [pairsD, List.length_cons]; rw [pairsD_len (by simpa using h)]
theorem it_items {B : Bor} {ks vs : List D} {ad : Addr} {od : Obj} {kvs : List (Key × V)} (r : RK Y G.F G.al ks vs kvs) (h : (ad, .frz od (.dK kvs)) ∈ B) : ItOk Y (Iti ad od kvs) G B (pairsD ks vs) := by
  obtain ⟨l1, l2⟩ := r.len
  have hl : (pairsD ks vs).length = kvs.length := by rw [pairsD_len (by omega), l1]
  refine ⟨fun {i G st σ H} R g hB hi => ⟨(hB _ h).1, by omega⟩, fun {i G st σ H} R g hB hi => ⟨(hB _ h).1, by omega⟩, fun {i G1 st1 σ1 H1 x H' d} R g hB hi y => ?_⟩
  obtain ⟨T, k, w, hk, hx, hT, eH⟩ := y
  subst hx eH
  obtain ⟨dk, dv, h1, h2, rfl⟩ := pairsD_get hi
  obtain ⟨u, hu, ru⟩ := (r.1.mono g.1 g.2).get h1
  obtain ⟨u2, hu2, ru2⟩ := (r.2.mono g.1 g.2).get h2
  rw [List.getElem?_map, hk] at hu hu2
  cases hu
  cases hu2
  have n : G1.F T = none := R.fresh hT
  refine ⟨G1.put T (.tup [kV k, w]), (R.new hT).put upd_same n (R.notOwned hT), Ext.put n (Ext.new hT) (.inl hT), ?_⟩
  simp only [RV]
  exact ⟨T, _, rfl, .inl (by simp [Gh.put]), (RVs.cons ru (RVs.cons ru2 RVs.nil)).mono (Gh.put_sub n) fun _ _ h => h⟩
theorem si_its {elts : List Expr} {kk : Nat} {tpos : Pos} (he : SE Y W X e (ev I m)) (hbase : attributeBase e "items" X.env (eval e X.env) = eval e X.env) (hline : (apos.endLine == cpos.line) = true) :
    SI Y W X (.Tuple elts kk tpos) (.Call (.Attribute e "items" apos) [] [] cpos) (evsrc I (.its m)) := by
  have hz := pe_sz he
  refine PI.imp (pi_items (elts := elts) (kk := kk) (tpos := tpos) (pe_lockD hz) hbase hline) fun σ H Q ⟨G, st, R, p⟩ => ⟨G, st, R, ?_⟩
  simp only [evsrc] at p
  cases q : ev I m st with
  | stuck => rw [q] at p; exact p
  | exc c s => rw [q] at p; exact p
  | ok r =>
    obtain ⟨⟨d, fr⟩, st1⟩ := r
    rw [q] at p
    intro G1 H1 v R1 E1 r1
    obtain ⟨G2, R2, E2, rv⟩ := RR.shut R1 E1 r1
    intro sz
    cases d with
    | dct ks vs =>
      have p2 : PostI Y W G st σ H (.ok ((pairsD ks vs, []), st1)) Q := p
      simp only [RV] at rv
      obtain ⟨ad, xs, ys, ev, t, r1', r2'⟩ := rv
      cases t with
      | dK kvs t =>
        have t : G2.F ad = some (.dK kvs) := t
        have rd := R2.fz _ _ t
        have rk : RK Y G2.F G2.al ks vs kvs := ⟨r1', r2'⟩
        have hl : (pairsD ks vs).length ≤ sizeLine := by
          obtain ⟨l1, l2⟩ := rk.len
          rw [pairsD_len (by omega), l1]
          exact sz.2.2 _ _ rd
        have fin : ∀ (od : Obj) {H' : Hp}, Rel Y G2 st1 σ H' → Ext G2 st1 σ H1 G2 st1 H' → H' ad = some (.frz od (.dK kvs)) → Q (Iti ad od kvs) H' := fun od H' R' E' e => by
          refine p2.walk E2 ⟨[(ad, .frz od (.dK kvs))], R', E', .lock .nil, fun p hp => ?_, fun p hp z => ?_, it_items rk (List.mem_singleton.mpr rfl)⟩ hl
          · cases List.mem_singleton.mp hp
            exact ⟨e, fun z => by cases z⟩
          · cases List.mem_singleton.mp hp
            cases z
        rcases rd with hd | ⟨od, hd⟩
        · exact .inr ⟨ad, _, hd, trivial, fun od => ⟨ad, od, kvs, ev, upd_same, fin od (R2.lock t hd rfl rfl od).1 (R2.lock t hd rfl rfl od).2 upd_same⟩⟩
        · exact .inl ⟨ad, od, kvs, ev, hd, fin od R2 .refl hd⟩
    | _ => exact p.elim
end
end Mi

set_option Elab.async false
set_option linter.all false
set_option maxRecDepth 100000
namespace Mi
open PySem PySem.Spec PyProof.Rows L2
section
variable {Y : Wd} {W : WX} {X : Cx} {I : Info} {o k x : Expr} {m mk mx : Ex} {pos apos cpos p : Pos} {G : Gh} {st : St} {σ : L2.St} {H : Hp}
theorem isD_ok {v : V} {d : D} (h : isDctO (some d) = true) (vv : VV Y G H d v) : ∃ a, v = .ref a ∧ IsD H a := by
  cases d with
  | dct ks vs =>
    obtain ⟨a, xs, ys, ev, t, _⟩ := vv
    cases t with
    | dK kvs t => exact ⟨a, ev, .inl ⟨kvs, t⟩⟩
  | _ => simp [isDctO] at h
theorem dgetD_ok {d dx : D} {ks vs : List D} {y z vx : V} (hx : VV Y G H d y) (hk : d.isKey = true) (h : VV Y G H (.dct ks vs) z) (rx : RV Y G.F G.al dx vx) : ∃ a o', z = .ref a ∧ DGet H a y o' ∧ RV Y G.F G.al ((getK d ks vs).getD dx) (o'.getD vx) := by
  obtain ⟨a, kk, kvs, ez, h1, ey, rd, rk⟩ := dget_ok hx hk h
  obtain ⟨g1, g2⟩ := getK_ok h1 rk
  refine ⟨a, valV kvs kk, ez, .inl ⟨kvs, kk, rd, ey, rfl⟩, ?_⟩
  cases hg : getK d ks vs with
  | none => rw [g2 hg]; exact rx
  | some w => obtain ⟨v', hv, rv⟩ := g1 w hg; rw [hv]; exact rv
theorem se_get2 (hu : X.A.units + 1 < cLine) (ho : SO Y W X o (opd m (ev I m))) (hk : SO Y W X k (opd mk (ev I mk))) (hx : SE Y W X x (ev I mx)) (mm : L2.M2 X o "get" apos k x cpos) : SE Y W X (.Call (.Attribute o "get" apos) [k, x] [] cpos) (ev I (.get2 m mk mx)) := by
  refine PE.imp (pe_dget2 hu ho hk hx mm) fun σ H Q ⟨G, st, R, p⟩ => ⟨G, st, R, ?_⟩
  simp only [ev] at p
  refine (PostO.bind p).mono fun v H1 ⟨a, st1, G1, _, R1, E1, o1, p1⟩ => ?_
  dsimp only at p1
  cases q1 : rdo st1 a with
  | none => rw [q1] at p1; exact p1.elim
  | some d1 =>
    rw [q1] at p1
    cases hd : isDctO (some d1) with
    | false => rw [hd] at p1; exact p1.elim
    | true =>
      rw [hd] at p1
      obtain ⟨ad, ev, isd⟩ := isD_ok hd (VV.ov R1 o1 q1)
      refine ⟨ad, ev, isd, G1, st1, R1, (PostO.bind p1).mono fun vy H2 ⟨b, st2, G2, _, R2, E2, o2, p2⟩ => ⟨G2, st2, R2, (PostE.bind p2).mono fun vz H3 ⟨dx, fr, st3, G3, _, R3, E3, r3, p3⟩ => ?_⟩⟩
      obtain ⟨G4, R4, E4, rv⟩ := RR.shut R3 E3 r3
      have p4 : PostE Y W G2 st2 σ H2 (match rdo st3 a, rdo st3 b with
        | some (.dct ks vs), some dk => if dk.isKey then .ok (((getK dk ks vs).getD dx, false), st3) else .stuck
        | _, _ => .stuck) Q := by
        rename_i e3
        rw [e3] at p2
        exact p2
      have oa : OV Y G4 st3 σ a v := OV.mono (H' := H3) (E2.trans E4) o1
      have ob : OV Y G4 st3 σ b vy := OV.mono (H' := H3) E4 o2
      cases q2 : rdo st3 a with
      | none => rw [q2] at p4; exact p4.elim
      | some da =>
        cases q3 : rdo st3 b with
        | none => rw [q2, q3] at p4; cases da <;> exact p4.elim
        | some dk =>
          rw [q2, q3] at p4
          cases da with
          | dct ks vs =>
            dsimp only at p4
            split at p4
            · rename_i hk'
              obtain ⟨a', o', ez, dg, rr⟩ := dgetD_ok (VV.ov R4 ob q3) hk' (VV.ov R4 oa q2) rv
              rw [ev] at ez
              cases ez
              refine ⟨o', dg, p4 G4 H3 _ R4 E4 ?_⟩
              unfold RR
              rw [if_neg (by simp)]
              exact rr
            · exact p4.elim
          | _ => exact p4.elim
theorem se_get1 (hu : X.A.units + 1 < cLine) (ho : SO Y W X o (opd m (ev I m))) (hk : SO Y W X k (opd mk (ev I mk))) (mm : L2.M1 X o "get" apos k cpos) : SE Y W X (.Call (.Attribute o "get" apos) [k] [] cpos) (ev I (.get1 m mk)) := by
  refine PE.imp (pe_dget1 hu ho hk mm) fun σ H Q ⟨G, st, R, p⟩ => ⟨G, st, R, ?_⟩
  simp only [ev] at p
  refine (PostO.bind p).mono fun v H1 ⟨a, st1, G1, _, R1, E1, o1, p1⟩ => ?_
  dsimp only at p1
  cases q1 : rdo st1 a with
  | none => rw [q1] at p1; exact p1.elim
  | some d1 =>
    rw [q1] at p1
    cases hd : isDctO (some d1) with
    | false => rw [hd] at p1; exact p1.elim
    | true =>
      rw [hd] at p1
      obtain ⟨ad, ev, isd⟩ := isD_ok hd (VV.ov R1 o1 q1)
      refine ⟨ad, ev, isd, G1, st1, R1, (PostO.bind p1).mono fun vy H2 ⟨b, st2, G2, _, R2, E2, o2, p2⟩ => ?_⟩
      have oa : OV Y G2 st2 σ a v := OV.mono (H' := H2) E2 o1
      dsimp only at p2
      cases q2 : rdo st2 a with
      | none => rw [q2] at p2; exact p2.elim
      | some da =>
        cases q3 : rdo st2 b with
        | none => rw [q2, q3] at p2; cases da <;> exact p2.elim
        | some dk =>
          rw [q2, q3] at p2
          cases da with
          | dct ks vs =>
            dsimp only at p2
            split at p2
            · rename_i hk'
              obtain ⟨a', o', ez, dg, rr⟩ := dgetD_ok (dx := .non) (vx := .non) (VV.ov R2 o2 q3) hk' (VV.ov R2 oa q2) (by simp only [RV])
              rw [ev] at ez
              cases ez
              exact ⟨o', dg, p2.flat R2 (by simp) rr⟩
            · exact p2.elim
          | _ => exact p2.elim
end
end Mi

set_option Elab.async false
set_option linter.all false
set_option maxRecDepth 100000
namespace Mi
open PySem PySem.Spec PyProof.Rows L2
/-- a constant of the module -/
structure GlAt (Y : Wd) (X : Cx) (x : Str) (d : D) : Prop where
  gl : Gl X x
  ok : ∃ (u : Value) (v : V), X.mg x = some u ∧ RelV v u ∧ ∀ F al, RV Y F al d v
  nd : (x == ("__debug__" : Str)) = false
section
variable {Y : Wd} {W : WX} {X : Cx} {I : Info} {a b : Expr} {ma mb : Ex} {pos p : Pos} {x : Str} {G : Gh} {st : St} {σ : L2.St} {H : Hp}
theorem se_gl {g : Nat} {d : D} (h : GlAt Y X x d) (hg : I.gl g = some d) : SE Y W X (.Name x pos) (ev I (.gl g)) := by
  obtain ⟨u, v, hm, r, rv⟩ := h.ok
  exact se_c (d := d) (pe_glob h.gl hm r h.nd) (fun st => by simp only [ev]; rw [hg]) rv
/-! ### max, min of two -/
theorem max2_read {gt : Bool} : ∀ {v w : V} {H : Hp} {Q : VK}, rTwo Y W (fun x y st => ans (f2D gt x y) st) v w H Q → ∃ i j : Int, [v, w] = [.int i, .int j] ∧ Q (.int (if gt then (if j > i then j else i) else (if j < i then j else i))) H := by
  rintro v w H Q ⟨G, st, σ, dx, dy, R, vx, vy, p⟩
  obtain ⟨d, fr, e, p⟩ := ans_ok p
  cases dx with
  | int i =>
    cases dy with
    | int j =>
      simp only [f2D, Option.some.injEq, Prod.mk.injEq] at e
      obtain ⟨rfl, rfl⟩ := e
      simp only [VV] at vx vy
      subst vx
      subst vy
      exact ⟨i, j, rfl, p.flat R (by simp) (by simp only [RV])⟩
    | _ => simp [f2D] at e
  | _ => cases dy <;> simp [f2D] at e
theorem se_max2 (hc : X.calm = true) (ha : SO Y W X a (opd ma (ev I ma))) (hb : SO Y W X b (opd mb (ev I mb))) (hs : starEach [a, b] X.env = (false, eval a X.env) :: starEach [b] X.env) (hs2 : starEach [b] X.env = [(false, eval b X.env)]) (hg : Gl X "max") (hm : X.mg "max" = none) : SE Y W X (.Call (.Name "max" p) [a, b] [] pos) (ev I (.f2 true ma mb)) := by
  have e : ev I (.f2 true ma mb) = two (fun x y st => ans (f2D true x y) st) (opd ma (ev I ma)) (opd mb (ev I mb)) := by funext st; simp only [ev]
  rw [SE, e]
  refine PE.imp (pe_callB (call_max2 hc) hg hm (by decide +kernel) (pa_cons ha (pa_cons hb pa_nil hs2) hs) (by decide) (by decide) hs (by rw [hs2]; rfl)) fun σ H Q hh => ?_
  obtain ⟨G, st, R, q⟩ := two_read σ H Q hh
  exact ⟨G, st, R, q.mono fun v H1 ⟨G1, st1, R1, q1⟩ => ⟨G1, st1, R1, q1.mono fun w H2 z => by simpa [tNil] using max2_read z⟩⟩
theorem se_min2 (hc : X.calm = true) (ha : SO Y W X a (opd ma (ev I ma))) (hb : SO Y W X b (opd mb (ev I mb))) (hs : starEach [a, b] X.env = (false, eval a X.env) :: starEach [b] X.env) (hs2 : starEach [b] X.env = [(false, eval b X.env)]) (hg : Gl X "min") (hm : X.mg "min" = none) : SE Y W X (.Call (.Name "min" p) [a, b] [] pos) (ev I (.f2 false ma mb)) := by
  have e : ev I (.f2 false ma mb) = two (fun x y st => ans (f2D false x y) st) (opd ma (ev I ma)) (opd mb (ev I mb)) := by funext st; simp only [ev]
  rw [SE, e]
  refine PE.imp (pe_callB (call_min2 hc) hg hm (by decide +kernel) (pa_cons ha (pa_cons hb pa_nil hs2) hs) (by decide) (by decide) hs (by rw [hs2]; rfl)) fun σ H Q hh => ?_
  obtain ⟨G, st, R, q⟩ := two_read σ H Q hh
  exact ⟨G, st, R, q.mono fun v H1 ⟨G1, st1, R1, q1⟩ => ⟨G1, st1, R1, q1.mono fun w H2 z => by simpa [tNil] using max2_read z⟩⟩
end
end Mi

set_option Elab.async false
set_option linter.all false
set_option maxRecDepth 100000
namespace Mi
open PySem PySem.Spec PyProof.Rows L2
section
variable {Y : Wd} {W : WX} {X : Cx} {I : Info} {a b e : Expr} {ma mb m : Ex} {pos p apos cpos : Pos} {x : Str} {G : Gh} {st : St} {σ : L2.St} {H : Hp}
/-- code that is never reached -/
theorem se_never : SE Y W X e (ev I .never) := ⟨fun pins s σ H Q I0 ⟨G, st, R, p⟩ => by simp only [ev] at p; exact p.elim⟩
theorem ss_never {s : Stmt} : SS Y W X s (exS I .never) := ⟨fun pins sh σ H D0 I0 ⟨G, st, R, p⟩ => by simp only [exS] at p; exact p.elim⟩
/-- a new dict -/
theorem PostE.newD {ks vs : List D} {Q : VK} (R : Rel Y G st σ H) (h : PostE Y W G st σ H (.ok ((.dct ks vs, true), st)) Q) {kvs : List (Key × V)} (r : RK Y G.F G.al ks vs kvs) : ∀ p, H p = none → Q (.ref p) (upd H p (.dK kvs)) := fun p hp => by
  refine h G _ _ (R.new hp) (Ext.new hp) ?_
  unfold RR
  rw [if_pos (by rfl)]
  exact ⟨p, rfl, R.fresh hp, R.notOwned hp, ⟨kvs, upd_same, r⟩, .inl hp⟩
theorem se_dct0 : SE Y W X (.Dict [] [] pos) (ev I (.dct [])) := by
  refine PE.imp pe_dnewK fun σ H Q ⟨G, st, R, p⟩ => ?_
  simp only [ev, evits] at p
  exact p.newD R (kvs := []) ⟨RVs.nil, RVs.nil⟩
/-! ### dict(d), dict of a list of pairs -/
theorem pairs_ok (R : Rel Y G st σ H) : ∀ {l : List D} {xs : List V} {ks0 vs0 ks vs : List D} {kvs0 : List (Key × V)}, RVs Y G.F G.al l xs → RK Y G.F G.al ks0 vs0 kvs0 → dictOf ks0 vs0 l = some (ks, vs) →
    ∃ ps kvs, xs = ps.map V.ref ∧ Paired (fun p (kv : Key × V) => SqT Y.K H p [kV kv.1, kv.2]) ps kvs ∧ RK Y G.F G.al ks vs (mergeK kvs0 kvs)
  | [], xs, ks0, vs0, ks, vs, kvs0, rs, rk, h => by
    simp only [dictOf, Option.some.injEq, Prod.mk.injEq] at h
    obtain ⟨rfl, rfl⟩ := h
    simp only [RVs] at rs
    exact ⟨[], [], rs, .nil, rk⟩
  | d :: l, xs, ks0, vs0, ks, vs, kvs0, rs, rk, h => by
    simp only [RVs] at rs
    obtain ⟨x, r', e, rd, rl⟩ := rs
    subst e
    cases d with
    | tup tl =>
      cases tl with
      | nil => simp [dictOf] at h
      | cons dk tl =>
        cases tl with
        | nil => simp [dictOf] at h
        | cons dv tl =>
          cases tl with
          | cons _ _ => simp [dictOf] at h
          | nil =>
            simp only [dictOf] at h
            split at h
            · rename_i hk
              simp only [RV] at rd
              obtain ⟨p, ys, ev, t, ry⟩ := rd
              simp only [RVs] at ry
              obtain ⟨y1, r1, e1, rk1, y2, r2, e2, rv2, e3⟩ := ry
              subst e1
              subst e2
              subst e3
              obtain ⟨k, hk1⟩ := isKey_of hk
              have ek := keyOf_V hk1 rk1
              subst ek
              have nk := putK_ok hk1 rk1 rv2 rk
              obtain ⟨ps, kvs, ep, pp, rr⟩ := pairs_ok R rl nk h
              refine ⟨p :: ps, (k, y2) :: kvs, by rw [ev, ep, List.map_cons], .cons (t.sq R) pp, rr⟩
            · cases h
    | _ => simp [dictOf] at h
theorem se_dict (hK : X.K = Y.K) (hc : X.calm = true) (h : SO Y W X e (opd m (ev I m))) (hs : starEach [e] X.env = [(false, eval e X.env)]) (hg : Gl X "dict") (hm : X.mg "dict" = none) : SE Y W X (.Call (.Name "dict" p) [e] [] pos) (ev I (.f1 .dict m)) :=
  se_callT1 h hs (call_dictD.or (call_dictP hc)) hg hm (by decide +kernel) (by decide) (by decide) ev_f1 fun v H Q ⟨G, st, σ, dx, R, vx, p⟩ => by
    obtain ⟨d, fr, e, p⟩ := ans_ok p
    cases dx with
    | dct ks vs =>
      simp only [f1D, Option.some.injEq, Prod.mk.injEq] at e
      obtain ⟨rfl, rfl⟩ := e
      obtain ⟨ad, xs, ys, ev, t, r1, r2⟩ := vx
      cases t with
      | dK kvs t => exact .inl ⟨ad, kvs, by rw [ev], t, p.newD R ⟨r1, r2⟩⟩
    | lst l =>
      simp only [f1D, Option.map_eq_some_iff] at e
      obtain ⟨⟨ks, vs⟩, h1, h2⟩ := e
      simp only [Prod.mk.injEq] at h2
      obtain ⟨rfl, rfl⟩ := h2
      obtain ⟨ad, xs, ev, t, r⟩ := vx
      obtain ⟨ps, kvs, ep, pp, rr⟩ := pairs_ok R (kvs0 := []) r ⟨RVs.nil, RVs.nil⟩ h1
      subst ep
      refine .inr ⟨ad, ps, kvs, by rw [ev], .inl (.inl t), by rw [hK]; exact pp, p.newD R rr⟩
    | _ => simp [f1D] at e
end
end Mi

set_option Elab.async false
set_option linter.all false
set_option maxRecDepth 100000
namespace Mi
open PySem PySem.Spec PyProof.Rows L2
/-! ### exceptions that are held -/
def tT : Heap → Prop := fun _ => True
section
variable {X : Cx} {pins : List (Addr × Obj)} {σ : L2.St} {H : Hp} {s : Shared}
/-- X(e), an own exception class without own __init__: a new object, known -/
theorem pe_mkx {C : Addr} {bmB : List Value} {B newId initId : String} {x : Str} {e : Expr} {ta : TE} {p pos : Pos} (F : ExcBaseFacts B newId initId bmB) (q : PySem.W.excIn X.K C bmB newId = true) (gC : X.mg x = some (.ref C)) (kC : PySem.W.keepIn X.K (.ref C) = true) (hg : Gl X x)
    (he : PE X e ta) (hs : starEach [e] X.env = (false, eval e X.env) :: starEach [] X.env) (hdb : (x == ("__debug__" : Str)) = false) :
    PE X (.Call (.Name x p) [e] [] pos) (fun σ H Q => ta σ H fun _ H1 => ∀ a od, H1 a = none → od.cls = .ref C → od.dict = none → (∃ vs, od.data = .fields vs) → Q (.ref a) (upd H1 a (.frz od (.ext fun _ => True)))) := by
  refine ⟨fun pins s σ H Q I h => ?_⟩
  refine wpAny_Call_Name_kw (ld_glob I hg gC ?_ hdb)
  refine PySem.W.callWith_K (h₀ := X.base) I.ok.mod.kin kC ?_ hs (by rfl)
  rw [hs]
  show wpAny _ _ (spliced ((false, eval e X.env) :: backTo pos (starEach [] X.env))) _ _ s
  refine Calls.spliced_cons (thn (he.run pins s σ H _ I h) fun u s1 ⟨v, H1, I1, r1, q1⟩ => ?_)
  refine Calls.spliced_nil ⟨I1.kIn, ?_⟩
  show wpAny _ _ (call (.ref C) [u]) _ _ _
  obtain ⟨bm, N, nm, qn, bs, hdct, sn, sub, ab, col, dd, k0, k1, k2, k3, k5, mN, hC, hN, hni, T⟩ := exc_obj I1.kIn q
  refine wpAny_call_exc_subT F T hC hN hni (fun h' a hm => ?_) (by show 1 ≤ sizeLine; rw [sizeLine_eq]; omega)
  have hn : H1 a = none := I1.hok.gone hm.new
  obtain ⟨t, ht, _, _⟩ := hm.there
  have go : ∀ od : Obj, h'.get? a = some od → od.cls = .ref C → od.dict = none → (∃ vs, od.data = .fields vs) → EP X pins σ Q (.ref a) { s1 with heap := h' } := fun od e h1 h2 h3 => by
    have new : ObjOk X.prog X.w (upd H1 a (.frz od (.ext fun _ => True))) h' a (.frz od (.ext fun _ => True)) := ⟨e, trivial, ⟨_, e⟩, fun _ _ _ _ => trivial⟩
    exact ⟨.ref a, _, I1.laidN (t' := s1.toks) hm.keeps hm.new hn new, rfl, q1 a od hn h1 h2 h3⟩
  exact go _ ht rfl rfl ⟨_, rfl⟩
/-- isinstance(x, c), x such an exception -/
def rIsx (K : PySem.W.Frag) : List V → Hp → VK → Prop := fun xs H Q => ∃ (a D : Addr) (od : Obj) (c : V) (cv : Value) (b : Bool), xs = [.ref a, c] ∧ H a = some (.frz od (.ext fun _ => True)) ∧ od.cls = .ref D ∧ (∃ vs, od.data = .fields vs) ∧ (od.dict = none ∨ ∃ d fs, od.dict = some d ∧ H d = some (.xd fs)) ∧
  ExcC K D ∧ (∀ u, RelV c u → u = cv) ∧ PySem.W.kitOne K (.ref D) cv = some b ∧ Q (.bl b) H
theorem call_isx : CallR X (.builtin "isinstance") (rIsx X.K) := by
  intro pins s σ H xs us Q I r h
  obtain ⟨a, D, od, c, cv, b, rfl, ha, h1, ⟨vs, h2⟩, h3, C, hcv, e, q⟩ := h
  cases r with
  | cons rx rr =>
    cases rr with
    | cons rt rr =>
      cases rr
      cases rx
      have ec := hcv _ rt
      subst ec
      obtain ⟨hget, _⟩ : ObjOk X.prog X.w H s.heap a (.frz od (.ext fun _ => True)) := I.hok a _ ha
      have J : ∃ odx, PySem.W.InstAt s.heap a od D odx := by
        obtain ⟨oc, odc, oda, osl⟩ := od
        dsimp only at h1 h2 h3
        subst h1 h2
        rcases h3 with h3 | ⟨d, fs, h3, h4⟩
        · subst h3
          exact ⟨none, hget, rfl, rfl, trivial⟩
        · subst h3
          obtain ⟨mA, ⟨oo, es, ep, e1, _⟩, _⟩ : ObjOk X.prog X.w H s.heap d (.xd fs) := I.hok d _ h4
          exact ⟨some oo, hget, rfl, rfl, e1⟩
      obtain ⟨odx, J⟩ := J
      have hcl : (PySem.W.clsIn X.K D).isSome = true := by
        obtain ⟨cd, hc, _⟩ := PySem.W.any_some C.hd
        rw [hc]; rfl
      exact PySem.W.kia_one (PySem.W.kitx_exc (od := odx) hcl C.hg C.hk C.hs C.ha C.hn C.ht C.hm) I.kIn J e (fun z => nomatch z) fun tk => ⟨.bl b, H, I.kept (t' := tk) fun _ _ z => z, rfl, q⟩
end
section
variable {Y : Wd} {W : WX} {X : Cx} {I : Info} {o e a b c : Expr} {es rest : List Expr} {m ma mb mc mk me : Ex} {ms : List Ex} {pos apos cpos p tp : Pos} {G : Gh} {st : St} {σ : L2.St} {H : Hp}
/-- the name x is the exception class c, that can be made -/
structure XcAt (Y : Wd) (X : Cx) (x : Str) (c : Nat) : Prop where
  gl : Gl X x
  mg : X.mg x = some (.ref (Y.eA c))
  nd : (x == ("__debug__" : Str)) = false
structure XmAt (Y : Wd) (X : Cx) (c : Nat) : Prop where
  kp : PySem.W.keepIn X.K (.ref (Y.eA c)) = true
  ex : PySem.W.excIn X.K (Y.eA c) He.veBase "ValueError.__new__" = true
theorem PostE.newX {c : Nat} {fr : Bool} {Q : VK} (R : Rel Y G st σ H) (h : PostE Y W G st σ H (.ok ((.err c none, fr), st)) Q) : ∀ p od, H p = none → od.cls = .ref (Y.eA c) → od.dict = none → (∃ vs, od.data = .fields vs) → Q (.ref p) (upd H p (.frz od (.ext fun _ => True))) := fun p od hp h1 h2 ⟨vs, h3⟩ => by
  have n : G.F p = none := R.fresh hp
  have R2 : Rel Y (G.put p (.frz od (.ext fun _ => True))) st σ (upd H p (.frz od (.ext fun _ => True))) := (R.new hp).put upd_same n (R.notOwned hp)
  refine h _ _ _ R2 (Ext.put n (Ext.new hp) (.inl hp)) ?_
  unfold RR
  rw [if_neg (by simp [isMutD])]
  simp only [RV]
  exact ⟨p, rfl, od, vs, by simp [Gh.put], h1, h3, h2⟩
theorem se_mkx {x : Str} {k : Nat} (N : XcAt Y X x k) (M : XmAt Y X k) (ha : SE Y W X a (ev I ma)) (hs : starEach [a] X.env = (false, eval a X.env) :: starEach [] X.env) :
    SE Y W X (.Call (.Name x p) [a] [] pos) (ev I (.mkx k ma)) := by
  refine PE.imp (pe_mkx PySem.F.excBase_ValueError M.ex N.mg M.kp N.gl ha hs N.nd) fun σ H Q ⟨G, st, R, p⟩ => ⟨G, st, R, ?_⟩
  simp only [ev] at p
  refine (PostE.bind p).mono fun v H1 ⟨d, fr, st1, G1, _, R1, E1, r1, p1⟩ => ?_
  exact fun a od hp h1 h2 h3 => p1.newX R1 a od hp h1 h2 h3
/-- isinstance of the classes -/
structure XsAt (Y : Wd) (K : PySem.W.Frag) (sub : Nat → Nat → Bool) (n : Nat) : Prop where
  ok : ∀ k, k < n → ExcC K (Y.eA k)
  sb : ∀ k c, k < n → c < n → PySem.W.kitOne K (.ref (Y.eA k)) (.ref (Y.eA c)) = some (sub k c)
  ve : ∀ k, k < n → PySem.W.kitOne K (.ref (Y.eA k)) (.type "ValueError") = some true
theorem errX (R : Rel Y G st σ H) {c : Nat} {o : Option Int} {x : V} (h : VV Y G H (.err c o) x) : ∃ (a : Addr) (od : Obj), x = .ref a ∧ H a = some (.frz od (.ext fun _ => True)) ∧ od.cls = .ref (Y.eA c) ∧ (∃ vs, od.data = .fields vs) ∧ (od.dict = none ∨ ∃ d fs, od.dict = some d ∧ H d = some (.xd fs)) := by
  simp only [VV] at h
  obtain ⟨a, e, od, vs, h1, h2, h3, h4⟩ := h
  refine ⟨a, od, e, R.fzi _ _ h1 rfl, h2, ⟨vs, h3⟩, ?_⟩
  cases o with
  | none => exact .inl h4
  | some i => obtain ⟨d, e1, e2⟩ := h4; exact .inr ⟨d, _, e1, R.fzi _ _ e2 rfl⟩
theorem se_isx {x : Str} {c n : Nat} (hK : X.K = Y.K) (N : XcAt Y X x c) (S : XsAt Y X.K I.sub n) (hn : I.nx = n) (h : SO Y W X a (opd ma (ev I ma))) (hg : Gl X "isinstance") (hm : X.mg "isinstance" = none)
    (hs : starEach [a, .Name x tp] X.env = [(false, eval a X.env), (false, eval (.Name x tp) X.env)]) : SE Y W X (.Call (.Name "isinstance" p) [a, .Name x tp] [] pos) (ev I (.isx ma c)) := by
  have e : ev I (.isx ma c) = one (kIsx I.sub I.nx c) (opd ma (ev I ma)) := by funext st; simp only [ev]
  rw [SE, e]
  have ht : PE X (.Name x tp) (tC (.ref (Y.eA c))) := pe_glob N.gl N.mg rfl N.nd
  have ha : PA X [a, .Name x tp] (tCons (rO Y W (opd ma (ev I ma))) (tCons (tC (.ref (Y.eA c))) tNil)) := pa_cons h (pa_cons ht pa_nil rfl) hs
  refine PE.imp (pe_callB call_isx hg hm (by decide +kernel) ha (by decide) (by decide) hs rfl) fun σ H Q hh => ?_
  obtain ⟨G, st, R, q⟩ := one_read σ H Q hh
  refine ⟨G, st, R, q.mono fun v H1 ⟨G1, st1, σ1, dx, R1, vx, p⟩ => ?_⟩
  cases dx with
  | err k o =>
    simp only [kIsx, kIsv] at p
    split at p
    · rename_i hb
      rw [Bool.and_eq_true] at hb
      have hk : k < n := by rw [← hn]; exact Nat.le_of_ble_eq_true hb.1
      have hc : c < n := by rw [← hn]; exact Nat.le_of_ble_eq_true hb.2
      obtain ⟨ad, od, e1, e2, e3, e4, e5⟩ := errX R1 vx
      subst e1
      exact ⟨ad, _, od, .ref (Y.eA c), _, I.sub k c, rfl, e2, e3, e4, e5, S.ok k hk, fun u r => r, S.sb k c hk hc, p.flat R1 (by simp) (by simp only [RV])⟩
    · exact p.elim
  | _ => exact p.elim
theorem se_isv {n : Nat} (hK : X.K = Y.K) (S : XsAt Y X.K I.sub n) (hn : I.nx = n) (h : SO Y W X a (opd ma (ev I ma))) (hg : Gl X "isinstance") (hm : X.mg "isinstance" = none) (hgT : Gl X "ValueError") (hmT : X.mg "ValueError" = none)
    (hs : starEach [a, .Name "ValueError" tp] X.env = [(false, eval a X.env), (false, eval (.Name "ValueError" tp) X.env)]) : SE Y W X (.Call (.Name "isinstance" p) [a, .Name "ValueError" tp] [] pos) (ev I (.isv ma)) := by
  have e : ev I (.isv ma) = one (kIsv I.nx) (opd ma (ev I ma)) := by funext st; simp only [ev]
  rw [SE, e]
  have ht : PE X (.Name "ValueError" tp) (tC (.ty "ValueError")) := pe_bltn hgT hmT (by decide +kernel) rfl
  have ha : PA X [a, .Name "ValueError" tp] (tCons (rO Y W (opd ma (ev I ma))) (tCons (tC (.ty "ValueError")) tNil)) := pa_cons h (pa_cons ht pa_nil rfl) hs
  refine PE.imp (pe_callB call_isx hg hm (by decide +kernel) ha (by decide) (by decide) hs rfl) fun σ H Q hh => ?_
  obtain ⟨G, st, R, q⟩ := one_read σ H Q hh
  refine ⟨G, st, R, q.mono fun v H1 ⟨G1, st1, σ1, dx, R1, vx, p⟩ => ?_⟩
  cases dx with
  | err k o =>
    simp only [kIsx, kIsv] at p
    split at p
    · rename_i hb
      have hk : k < n := by rw [← hn]; exact Nat.le_of_ble_eq_true hb
      obtain ⟨ad, od, e1, e2, e3, e4, e5⟩ := errX R1 vx
      subst e1
      exact ⟨ad, _, od, .ty "ValueError", .type "ValueError", true, rfl, e2, e3, e4, e5, S.ok k hk, fun u r => r, S.ve k hk, p.flat R1 (by simp) (by simp only [RV])⟩
    · exact p.elim
  | _ => exact p.elim
end
end Mi

set_option Elab.async false
set_option linter.all false
set_option maxRecDepth 100000
namespace Mi
open PySem PySem.Spec PyProof.Rows L2
/-! ### properties -/
def E0 : XK := fun _ _ _ => False
def tPropG (C : Addr) (m : Str) (sp : Sp) (ta : TE) : TE := fun σ H Q => ta σ H fun x H1 => ∃ a dx fs, x = .ref a ∧ H1 a = some (.ins C dx fs) ∧ sp [x] H1 Q E0
section
variable {X : Cx} {k : Nat} {C p g a dx : Addr} {fs : List (Str × V)} {f : Str} {fd : FuncData} {ps : List Str} {sp : Sp} {e : Expr} {pos : Pos} {ta : TE}
theorem getpropG {pins : List (Addr × Obj)} {σ : L2.St} {H : Hp} {s : Shared} {Q : VK} {b : Bool} {E' : Value → Shared → Prop} (I : Inv X pins σ H s) (ea : H a = some (.ins C dx fs)) (c : Cls X.K C) (hp : PropOf X.K C f p g)
    (F : FnG X.prog X.w X.K X.mg X.base (L2.CX X.prog X.w) k g fd ps sp) (hr : Room (k + 1) X.A) (hG : X.A.guards = some []) (hb : L2.Binds X.K fd ps []) (h : sp [.ref a] H Q E0) :
    wpAny (model X.prog X.w) X.A (getAttr (.ref a) f b) (EP X pins σ Q) E' s := by
  obtain ⟨mA, O, _⟩ := ins_get I.hok ea
  obtain ⟨od, J, _⟩ := O.look
  obtain ⟨rest, hrec⟩ := hp.rec_
  have I1 := I.tok (s.toks + 1)
  have hl : [Value.ref a].length = ps.length := by rw [← F.len _ _ _ _ h]; rfl
  have hc : (PySem.W.clsIn X.K C).isSome = true := by
    obtain ⟨cd, q, _⟩ := PySem.W.any_some c.hd
    rw [q]; rfl
  have hpg := PySem.W.plainGet_of (c.get f)
  refine PySem.W.get_bind I.kIn J hpg.1 (PySem.W.findObj_data hc hp.at_ hp.get hp.tak) hpg.2 (wpAny_call (PySem.W.prop_get (s := { s with toks := s.toks + 1 }) I.kIn hrec ?_))
  have bb := hb { s with toks := s.toks + 1 } [.ref a] I1.kIn (by rw [List.append_nil]; exact hl)
  rw [List.append_nil] at bb
  refine codeAny_mono (F.run X.A.in1 X.stack _ H ⟨[.ref a], []⟩ [.ref a] [.ref a] Q E0 hr.in1 hG I1.env0.in1 bb (.cons rfl .nil) h) fun r s' hq => ?_
  cases r with
  | error er =>
    obtain ⟨_, _, _, _, _, _, _, _, _, _, _, _, z⟩ := hq
    exact z.elim
  | ok fl =>
    cases fl with
    | ret u =>
      obtain ⟨v, H', I3, rv, q3⟩ := I1.after hq
      show wpAny _ _ (handedOut u) _ _ _
      rw [PySem.W.handedOut_of (handed_of rv)]
      exact wpAny_pure ⟨v, H', I3, rv, q3⟩
    | _ => exact False.elim hq
theorem pe_propG (he : PE X e ta) (c : Cls X.K C) (hp : PropOf X.K C f p g) (F : FnG X.prog X.w X.K X.mg X.base (L2.CX X.prog X.w) k g fd ps sp) (hr : Room (k + 1) X.A) (hG : X.A.guards = some []) (hb : L2.Binds X.K fd ps [])
    (hab : attributeBase e f X.env (eval e X.env) = eval e X.env) : PE X (.Attribute e f pos) (tPropG C f sp ta) := by
  refine ⟨fun pins s σ H Q I h => ?_⟩
  refine attr_of hab (thn (he.run pins s σ H _ I h) fun u s1 hh => ?_)
  obtain ⟨x, H1, I1, rx, a, dx, fs, ex, ea, q⟩ := hh
  subst ex
  obtain rfl : u = Value.ref a := rx
  exact getpropG I1 ea c hp F hr hG hb q
end
/-- the property of a class -/
structure PropAt (Y : Wd) (X : Cx) (name : Str) (c : Nat) (k : Nat) (fn : List D → Cells → Out ((D × Bool) × Cells)) : Prop where
  cls : Cls X.K (Y.cA c)
  ok : ∃ p f fd ps, PropOf X.K (Y.cA c) name p f ∧ FnG X.prog X.w X.K X.mg X.base (L2.CX X.prog X.w) k f fd ps (spM Y 1 fn) ∧ L2.Binds X.K fd ps []
  room : Room (k + 1) X.A
  gd : X.A.guards = some []
section
variable {Y : Wd} {W : WX} {X : Cx} {I : Info} {o e : Expr} {m : Ex} {pos : Pos} {G : Gh} {st : St} {σ : L2.St} {H : Hp} {mi k : Nat} {name : Str}
theorem noX_ok {o : Out ((D × Bool) × Cells)} {Q : VK} (p : PostE Y W G st σ H (noX (callSt o st)) Q) : PostE Y (fun _ _ _ _ => False) G st σ H (callSt o st) Q := by
  cases o with
  | ok r => exact p
  | exc c s => exact p.elim
  | stuck => exact p.elim
theorem prop_read (hi : ∀ i j, Y.fld i = Y.fld j → i = j) {Q : VK} (R : Rel Y G st σ H) (p : PostE Y W G st σ H (ev I (.prop m mi) st) Q) {c f : Nat} (hc : ∀ d fr st1, ev I m st = .ok ((d, fr), st1) → clsOf mi (top st1.s d) = some c) (hf : I.mt c mi = some f) :
    PostE Y W G st σ H (ev I m st) fun x H1 => ∃ a dx fs, x = .ref a ∧ H1 a = some (.ins (Y.cA c) dx fs) ∧ spM Y 1 (I.fn f) [x] H1 Q E0 := by
  simp only [ev] at p
  cases q : ev I m st with
  | stuck => rw [q] at p; exact p
  | exc c s => rw [q] at p; exact p
  | ok z =>
    obtain ⟨⟨d, fr⟩, st1⟩ := z
    have hk := hc d fr st1 q
    rw [q] at p
    intro G1 H1 v R1 E1 r1
    obtain ⟨G1', R1', E1', rv⟩ := RR.shut R1 E1 r1
    obtain ⟨a, dx, fs, ev, hh, hl⟩ := clsOf_ok hi R1' rv hk
    refine ⟨a, dx, fs, ev, hh, G1', st1.s, [d], R1'.alone, RVs.cons rv .nil, rfl, ?_⟩
    have p1 := PostE.on E1' p
    dsimp only [Out.bind] at p1
    rw [hk] at p1
    dsimp only at p1
    rw [hf] at p1
    exact PostC.of R1' (noX_ok p1)
theorem prop_cls {Q : VK} (p : PostE Y W G st σ H (ev I (.prop m mi) st) Q) : (∀ d fr st1, ev I m st ≠ .ok ((d, fr), st1)) ∨ ∃ c f, (∀ d fr st1, ev I m st = .ok ((d, fr), st1) → clsOf mi (top st1.s d) = some c) ∧ I.mt c mi = some f := by
  simp only [ev] at p
  cases q : ev I m st with
  | stuck => exact .inl fun d fr st1 z => by cases z
  | exc c s => exact .inl fun d fr st1 z => by cases z
  | ok z =>
    obtain ⟨⟨d, fr⟩, st1⟩ := z
    rw [q] at p
    dsimp only [Out.bind] at p
    cases hc : clsOf mi (top st1.s d) with
    | none => rw [hc] at p; exact p.elim
    | some c =>
      rw [hc] at p
      dsimp only at p
      cases hf : I.mt c mi with
      | none => rw [hf] at p; exact p.elim
      | some f => exact .inr ⟨c, f, fun d' fr' st1' z => by cases z; exact hc, hf⟩
theorem se_prop (hx : name = Y.fld mi) (hi : ∀ i j, Y.fld i = Y.fld j → i = j) (hM : ∀ c f, I.mt c mi = some f → PropAt Y X name c k (I.fn f)) (h0 : ∃ c f, I.mt c mi = some f) (ho : SE Y W X o (ev I m))
    (hb : attributeBase o name X.env (eval o X.env) = eval o X.env) : SE Y W X (.Attribute o name pos) (ev I (.prop m mi)) := by
  subst hx
  have rule : ∀ cf : { cf : Nat × Nat // I.mt cf.1 mi = some cf.2 }, PE X (.Attribute o (Y.fld mi) pos) (tPropG (Y.cA cf.1.1) (Y.fld mi) (spM Y 1 (I.fn cf.1.2)) (rE Y W (ev I m))) := fun ⟨⟨c, f⟩, hf⟩ => by
    obtain ⟨pa, fa, fd, ps, hm, F, hbd⟩ := (hM c f hf).ok
    exact pe_propG ho (hM c f hf).cls hm F (hM c f hf).room (hM c f hf).gd hbd hb
  refine PE.imp (pe_ex rule) fun σ H Q ⟨G, st, R, p⟩ => ?_
  rcases prop_cls p with hno | ⟨c, f, hc, hf⟩
  · obtain ⟨c, f, hf⟩ := h0
    exact ⟨⟨(c, f), hf⟩, G, st, R, prop_read hi R p (c := c) (fun d fr st1 z => absurd z (hno d fr st1)) hf⟩
  · exact ⟨⟨(c, f), hf⟩, G, st, R, prop_read hi R p hc hf⟩
end
end Mi

set_option Elab.async false
set_option linter.all false
set_option maxRecDepth 100000
namespace Mi
open PySem PySem.Spec PyProof.Rows L2
section
variable {Y : Wd} {W : WX} {X : Cx} {G : Gh} {st : St} {σ : L2.St} {H : Hp}
theorem RVs.rep {F : Hp} {al : Nat → Option Addr} {l : List D} {xs : List V} (r : RVs Y F al l xs) : ∀ n : Nat, RVs Y F al (List.replicate n l).flatten (List.replicate n xs).flatten
  | 0 => by simpa using RVs.nil
  | n + 1 => by
    simp only [List.replicate_succ, List.flatten_cons]
    exact r.app (RVs.rep r n)
theorem bin_mul (hK : X.K = Y.K) : OpR X (binaryOp .Mult) (rTwo Y W (kBin .mul)) := by
  intro pins s σ' H x y v u Q I rx ry h
  obtain ⟨G, st, σ, dx, dy, R, vx, vy, p⟩ := h
  obtain ⟨d, fr, e, p⟩ := kBin_ok p
  cases dx with
  | int a =>
    cases dy with
    | int b =>
      simp only [binD] at e
      split at e
      · rename_i hz
        simp only [Option.some.injEq, Prod.mk.injEq] at e
        obtain ⟨rfl, rfl⟩ := e
        simp only [VV] at vx vy
        refine op_mul pins s σ' H x y v u Q I rx ry ⟨a, b, vx, vy, ?_, p.flat R (by simp) (by simp only [RV])⟩
        rw [Bool.or_eq_true] at hz
        exact hz.imp (fun z => natAbs_lt (Nat.le_of_ble_eq_true z)) fun z => natAbs_lt (Nat.le_of_ble_eq_true z)
      · cases e
    | _ => simp [binD] at e
  | lst a =>
    cases dy with
    | int b =>
      simp only [binD] at e
      split at e
      · rename_i hz
        rw [Bool.and_eq_true] at hz
        simp only [Option.some.injEq, Prod.mk.injEq] at e
        obtain ⟨rfl, rfl⟩ := e
        simp only [VV] at vx vy
        obtain ⟨l, xs, e1, s1, r1⟩ := vx
        have hb := Nat.le_of_ble_eq_true hz.2
        refine op_rep pins s σ' H x y v u Q I rx ry ⟨l, b, xs, e1, vy, s1, by omega, by omega, ?_, p.newL R (RVs.rep r1 _)⟩
        rw [← r1.length, sizeLine_val]
        exact Nat.le_of_ble_eq_true hz.1
      · cases e
    | _ => simp [binD] at e
  | tup a =>
    cases dy with
    | int b =>
      simp only [binD] at e
      split at e
      · rename_i hz
        simp only [Bool.and_eq_true] at hz
        simp only [Option.some.injEq, Prod.mk.injEq] at e
        obtain ⟨rfl, rfl⟩ := e
        simp only [VV] at vx vy
        obtain ⟨l, xs, e1, s1, r1⟩ := vx
        obtain ⟨⟨⟨h1, h2⟩, h3⟩, h4⟩ := hz
        have h1 := Nat.le_of_ble_eq_true h1
        have h2 := Nat.le_of_ble_eq_true h2
        have h3 := Nat.le_of_ble_eq_true h3
        have h4 := Nat.le_of_ble_eq_true h4
        have hl := r1.length
        refine op_repT pins s σ' H x y v u Q I rx ry ⟨l, b, xs, e1, vy, by rw [hK]; exact s1.sq R, fun z => ?_, by omega, by omega, by omega, p.newT R (RVs.rep r1 _)⟩
        rw [z] at hl
        simp at hl
        subst hl
        simp at h1
      · cases e
    | _ => simp [binD] at e
  | _ => simp [binD] at e
end
section
variable {Y : Wd} {W : WX} {X : Cx} {a b : Expr} {ma mb : Ex} {pos : Pos} {I : Info}
theorem se_bin' {o : BOp} (hK : X.K = Y.K) (ha : SO Y W X a (opd ma (ev I ma))) (hb : SO Y W X b (opd mb (ev I mb))) : SE Y W X (.BinOp a (pyB o) b pos) (ev I (.bin o ma mb)) := by
  by_cases ho : o = .mul
  · subst ho
    rw [SE, SO.ev_two]
    exact PE.imp (pe_op (bin_mul hK) ha hb) two_read
  · exact se_bin hK ho ha hb
end
end Mi

set_option Elab.async false
set_option linter.all false
set_option maxRecDepth 100000
set_option maxHeartbeats 1000000
set_option exponentiation.threshold 3000
namespace Mi
open PySem PySem.Spec PyProof.Rows
open PySem.W PySem.Calls
open PySem.HandSPX (excO)
/-! ### an own exception whose __init__ tells its base a text and keeps a field -/
def peA (p1 p2 : Pos) : Arguments := { posonlyargs := [], args := [{ arg := "self", annotation := none, pos := p1 }, { arg := "line", annotation := none, pos := p2 }], vararg := none, kwonlyargs := [], kw_defaults := [], kwarg := none, defaults := [] }
def peSup (p : Nat → Pos) : Expr := .Call (.Name "super" (p 0)) [] [] (p 1)
def peJ (txt : Str) (j : Nat) (p : Nat → Pos) : Expr := .JoinedStr [.Constant (.str txt) j (p 3), .FormattedValue (.Name "line" (p 4)) (-1) none (p 5)] (p 6)
def peB (txt : Str) (j : Nat) (p : Nat → Pos) : List Stmt :=
  [.Expr (.Call (.Attribute (peSup p) "__init__" (p 2)) [peJ txt j p] [] (p 7)) (p 8),
   .Assign [.Attribute (.Name "self" (p 9)) "line" (p 10)] (.Name "line" (p 11)) (p 12)]
def peS : Scope := { kind := .function, names := [("self", .local), ("line", .local), ("__class__", .free), ("super", .globalImplicit)], isGenerator := false, isCoroutine := false, more := [] }
theorem peS_cell : ∀ x ∈ peS.names, x.2 ≠ NameKind.cell := by decide
theorem len_ofString (s : String) : (Str.ofString s).length = s.length := by
  rw [Str.ofString_eq_toList]
  simp [Str.length, String.length_toList]
/-- what the written part says of it, at C, and of its __init__, at fI -/
structure PeTxt (prog : Program) (K : Frag) (mg : Str → Option Value) (C fI : Addr) : Prop where
  ini : excInitIn K C He.veBase "ValueError.__new__" = true
  mro : ∃ cd, clsIn K C = some cd ∧ PySem.HandSPX.refsVE cd.mro = true ∧ cd.hasDict = true
  iC : findIn K (.ref C) "__init__" = some (some (.ref fI))
  tC : typeIn K (.ref fI) = some (.type "function")
  kC : keepIn K (.ref C) = true
  sa : findIn K (.ref C) "__setattr__" = some (some (.builtin "object.__setattr__"))
  noN : findIn K (.ref C) "line" = some none
  op : nsIn K cStatics "thirdparty.any" = some none
  al : ks_superIn K C C "__init__" = some (some (.builtin "ValueError.__init__"))
  sv : subIn K (.ref C) (.type "ValueError") = some true
  sc : mroIn K C (.ref C) = some true
  sup : mg "super" = none
  fn : ∃ (oc : Value) (od : Option Addr) (kV doc pm : Value) (an : Option Addr) (cda : Addr) (ct : Value) (osl : Array (Option Value)) (p1 p2 : Pos) (txt : Str) (j : Nat) (p : Nat → Pos) (cc : Addr) (vs : Array Value) (file : Str) (tf : Tok) (ccl cl : Value) (cdd cld : Option Addr) (ccs csl : Array (Option Value)),
    K.lookup fI = some ⟨oc, od, .func (fnX "__init__" "ParseError.__init__" (peA p1 p2) (peB txt j p) peS [("__class__", cc)] .none kV doc pm an (.ref cda) ct), osl⟩ ∧ codeIn K (.ref cda) "ParseError.__init__" = true ∧
    K.lookup cda = some ⟨ccl, cdd, .fields vs, ccs⟩ ∧ vs[2]? = some (.str file tf) ∧ ((prog.main.file : Str) == file) = true ∧ K.lookup cc = some ⟨cl, cld, .cell (some (.ref C)), csl⟩ ∧ txt.length ≤ 1000 ∧
    (∀ env : Env, ∃ pl : Sem Bool, eval (.Call (.Attribute (peSup p) "__init__" (p 2)) [peJ txt j p] [] (p 7)) env = (do
      let ov ← attributeBase (peSup p) "__init__" env (eval (peSup p) env)
      standAt (p 2).atName
      let (f, first) ← holding [ov] (getMethod ov "__init__" pl)
      callWith (p 7) f first (backTo (p 7) (starEach [peJ txt j p] env)) []))
  top : (prog.main.scope.names.lookup ("super" : Str)).isSome = false
/-- what is left of a new exception at x -/
structure PeEnd (h h' : Heap) (x C dx t1 : Addr) (v : Value) : Prop where
  keep : ∀ b o, b ≠ x → h.get? b = some o → h'.get? b = some o
  obj : h'.get? x = some { cls := .ref C, dict := some dx, data := .fields #[.ref t1, .none, .none, .none, .bool false, .none] }
  dbig : h.objs.size ≤ dx
  dne : dx ≠ x
  ns : h'.Ns1 dx (fun y => if y = "line" then some v else none)
section
variable {prog : Program} {w : World} {A : Around} {R : Result → Shared → Prop} {s : Shared} {K : Frag} {mg : Str → Option Value} {C fI : Addr}
theorem pe_init (T : PeTxt prog K mg C fI) {x t0 : Addr} {i : Int} {tk : Tok} (X : K.In s.heap) (hlim : s.heap.NoLimit) (hG : s.heap.Ns mainGlobals mg) {mb : Str → Option Value} (hB : s.heap.Ns builtinsNs mb) (hbb : ∀ x : Str, x ≠ "__name__" → mb x = bootBuiltins x)
    (hx : s.heap.get? x = some (excO C t0)) (hnx : K.lookup x = none) (hroom : A.depth < recursionLimit) (hi : i.natAbs < 2 ^ 1000) (hz : (toString i).length ≤ 1000)
    (hq : ∀ h' tk' dx t1, PeEnd s.heap h' x C dx t1 (.int i tk) → R (.ok (.ret .none)) { s with heap := h', toks := tk' }) :
    codeAny (model prog w) A (.call (.ref fI) ⟨[.ref x, .int i tk], []⟩) R s := by
  obtain ⟨oc, od, kV, doc, pm, an, cda, ct, osl, p1, p2, txt, j, p, cc, vs, file, tf, ccl, cl, cdd, cld, ccs, csl, ho, hcd, hcode, hvs, hfile, hcell, htxt, hev⟩ := T.fn
  refine ks_codeAny_call_defAt (binds := [("self", .ref x), ("line", .int i tk)]) hroom (X _ _ ho) rfl hlim (codeRec_of X hcd) rfl (BindsTo.of_eq (by first | rfl | with_unfolding_all rfl)) peS_cell (fun y hy => by rcases List.mem_cons.mp hy with rfl | hy; rfl; cases List.mem_singleton.mp hy; rfl) (fun h₀ hn hk => ?_) rfl rfl rfl
  have X₀ : K.In h₀ := X.keeps hk
  have hG₀ := hG.keeps hk
  have hB₀ := hB.keeps hk
  have hx₀ := hk _ _ hx
  have hxL : s.heap.objs.size ≠ x := Nat.ne_of_gt (Heap.lt_size hx)
  have I₀ : InstAt h₀ x (excO C t0) C none := ⟨hx₀, rfl, rfl, trivial⟩
  obtain ⟨hh, g, dr, t, os⟩ := s
  obtain ⟨pl, hev⟩ := hev (callEnv (fnX "__init__" "ParseError.__init__" (peA p1 p2) (peB txt j p) peS [("__class__", cc)] .none kV doc pm an (.ref cda) ct) hh.objs.size fI)
  refine ks_wpAt_execs_cons (ks_wpAt_Expr_any (ks_wpAt_MethodCall (pl := pl) ?_ hev) rfl rfl)
  refine ks_wpAt_super_base rfl rfl (by decide) rfl (X₀ _ _ ho) rfl rfl rfl (X₀ _ _ hcode) rfl hvs hfile T.top ?_
  refine ks_loadName_global rfl rfl (loadGlobal_builtin hG₀ T.sup hB₀ ((hbb _ (by decide +kernel)).trans (by decide +kernel)) ⟨rfl, ?_⟩)
  refine wpAny_loadName_free rfl rfl rfl ⟨_, X₀ _ _ hcell, rfl⟩ ?_
  refine wpAny_loadName_local rfl rfl hn rfl ?_
  obtain ⟨cd, hcl, hve, hhd⟩ := T.mro
  obtain ⟨oD, hD1, hD2⟩ : ∃ oD, h₀.get? C = some oD ∧ oD.data = .cls cd := by
    unfold clsIn at hcl
    split at hcl
    · rename_i hlk
      cases hcl
      exact ⟨_, X₀ _ _ hlk, rfl⟩
    · cases hcl
  refine ks_wpAny_isType_cls hD1 hD2 ⟨rfl, ?_⟩
  refine ks_wpAny_call_super hD1 hD2 hx₀ rfl (fun c e => by cases e) (looks_mroIn X₀ T.sc) (fun h1 e1 k1 => ?_)
  have X₁ : K.In h1 := X₀.keeps k1
  have I₁ : InstAt h1 x (excO C t0) C none := ⟨k1 _ _ hx₀, rfl, rfl, trivial⟩
  obtain ⟨cd', hcl', hal⟩ : ∃ cd', clsIn K C = some cd' ∧ alongIn K "__init__" ((cd'.mro.dropWhile (· != .ref C)).drop 1) = some (some (.builtin "ValueError.__init__")) := by
    have q := T.al
    unfold ks_superIn at q
    rw [hcl] at q
    exact ⟨cd, hcl, q⟩
  refine kxs_getMethod kxs_ValueError e1 (looks_opaque X₁ T.op) (l₀ := cd'.mro) (fun A Q E s k q => wpAny_bind ((looks_clsIn X₁ hcl') A _ E s k (wpAny_pure q))) rfl X₁ hal (I₁.type.andThen (looks_subIn X₁ T.sv)) (ks_ne X₁ I₁ hcl') (by decide) ?_
  have hmw : (h1.push (kxs_mw "ValueError.__init__" x)).get? h1.objs.size = some (kxs_mw "ValueError.__init__" x) := Heap.get?_push_at rfl rfl
  have k2 : ∀ b o, h1.get? b = some o → (h1.push (kxs_mw "ValueError.__init__" x)).get? b = some o := fun b o e => Heap.get?_push_of_some _ e
  have hn2 := (hn.keeps k1).keeps k2
  refine kxs_callWith (i := "ValueError.__init__") (x := x) (by rfl) (Calls.evalArgs_plain ?_)
  refine Calls.spliced_cons (wpAny_JoinedStr (pos := p 6) ?_)
  refine Calls.Constant_str ⟨txt, _, rfl, by rw [Str.empty_append]; exact Nat.le_trans htxt (by rw [sizeLine_eq]; decide), ?_⟩
  refine wpAny_FormattedValue_plain (wpAny_Name (wpAny_loadName_local rfl rfl hn2 rfl ?_) (by decide))
  refine wpAny_formatField_int (PySem.Flt.log2_lt_of (by decide) (Nat.lt_of_lt_of_le hi (Nat.pow_le_pow_right (by decide) (by decide)))) ⟨toString i, _, rfl, ?_, ?_⟩
  · rw [Str.empty_append, Str.length_append, len_ofString, sizeLine_eq]; omega
  refine ⟨?_, ?_⟩
  · rw [Str.empty_append, Str.length_append, len_ofString, sizeLine_eq]; omega
  refine Calls.spliced_nil ⟨hmw, ?_⟩
  have X₂ : K.In (h1.push (kxs_mw "ValueError.__init__" x)) := X₁.keeps k2
  obtain ⟨nm, N', qn, bs, bm, hdct, sn, sub, ab, col, dd, c0, c1, c2, c3, c5, hC, hT⟩ := excInit_of X₂ T.ini
  have hx2 := k2 _ _ (k1 _ _ hx₀)
  refine wpAny_call (codeAny_of_tree ?_)
  show wpAny _ _ (callAny (.ref h1.objs.size) ⟨[.str (Str.empty ++ txt ++ Str.ofString (toString i)) _], []⟩) _ _ _
  simp only [callAny]
  refine wpAny_bind (wpAny_load hmw ?_)
  simp only [kxs_mw, show (Value.type "method-wrapper" == Value.type "method" || Value.type "method-wrapper" == Value.type "builtin_function_or_method" || Value.type "method-wrapper" == Value.type "method-wrapper") = true by decide, if_true]
  refine KFB.if_so (by decide) ?_
  refine wpAny_bind (check_bound_init PySem.F.excBase_ValueError.toExcCallFacts hC hx2 rfl ?_)
  refine wpAny_bind (wpAny_pure (wpAny_pure ?_))
  refine ⟨plainId_quiet PySem.F.excBase_ValueError.init.plain _, codeAny_builtin PySem.F.excBase_ValueError.initEntry ?_⟩
  refine exc_init_tree (cls := .ref C) (t0 := t0) (dv := none) (c2 := .none) (c3 := .none) (b4 := .bool false) hx2 (by show 1 ≤ sizeLine; rw [sizeLine_eq]; decide) fun h3 k3 e3 t3 => ?_
  have X₃ : K.In h3 := fun a o e => k3 a o (fun z => by rw [z, hnx] at e; cases e) (X₂ a o e)
  obtain ⟨oL, es, ep, hL, rL⟩ := hn2
  have hn3 : h3.Ns hh.objs.size _ := ⟨oL, es, ep, k3 _ _ hxL hL, rL⟩
  refine ks_wpAt_execs_cons (ks_wpAt_Assign_Attr (wpAt_of_wpAny (wpAny_Name (wpAny_loadName_local rfl rfl hn3 rfl (wpAny_Name (wpAny_loadName_local rfl rfl hn3 rfl ?_) (by decide))) (by decide))) rfl)
  refine set_plain X₃ (ox := { cls := .ref C, data := .fields #[.ref (h1.push (kxs_mw "ValueError.__init__" x)).objs.size, .none, .none, .none, .bool false, .none] }) (od := none) ⟨e3, rfl, rfl, trivial⟩ T.sa ?_
  refine PySem.HandSPX.exc_osa X₃ e3 hcl hve hhd T.noN (fun h4 tk4 dx k4 dn dne hx4 hn4 => ?_)
  refine wpAt_of_wpAny (wpAny_execs_nil (hq h4 tk4 dx (h1.push (kxs_mw "ValueError.__init__" x)).objs.size ⟨fun b o hb e => k4 b o hb (k3 b o hb (k2 _ _ (k1 _ _ (hk _ _ e)))), hx4, ?_, dne, hn4⟩))
  exact Nat.le_trans (Nat.le_of_lt (Nat.lt_trans (Heap.lt_size hL) (Heap.lt_size t3))) dn
theorem pe_made (T : PeTxt prog K mg C fI) {i : Int} {tk : Tok} {s : Shared} (X : K.In s.heap) (hlim : s.heap.NoLimit) (hG : s.heap.Ns mainGlobals mg) {mb : Str → Option Value} (hB : s.heap.Ns builtinsNs mb) (hbb : ∀ x : Str, x ≠ "__name__" → mb x = bootBuiltins x)
    (hroom : A.depth + 1 < recursionLimit) (hi : i.natAbs < 2 ^ 1000) (hz : (toString i).length ≤ 1000)
    (hq : ∀ h' tk' e dx od, (∀ b o, s.heap.get? b = some o → h'.get? b = some o) → s.heap.objs.size ≤ e → s.heap.objs.size ≤ dx → dx ≠ e → h'.get? e = some od → od.cls = .ref C → od.dict = some dx → (∃ vs, od.data = .fields vs) → h'.Ns1 dx (fun y => if y = "line" then some (.int i tk) else none) →
      R (.ok (.ret (.ref e))) { s with heap := h', toks := tk' }) :
    codeAny (model prog w) A (.call (.ref C) ⟨[.int i tk], []⟩) R s := by
  obtain ⟨nm, N', qn, bs, bm, hdct, sn, sub, ab, col, dd, c0, c1, c2, c3, c5, hC, hT⟩ := excInit_of X T.ini
  obtain ⟨hp, g, d, t, os⟩ := s
  have k : ∀ b o, hp.get? b = some o → ((hp.push (kdv_tup [.int i tk])).push (excO C hp.objs.size)).get? b = some o := fun b o e => Heap.get?_push_of_some _ (Heap.get?_push_of_some _ e)
  have hget : ((hp.push (kdv_tup [.int i tk])).push (excO C hp.objs.size)).get? (hp.objs.size + 1) = some (excO C hp.objs.size) := by heap_get
  have hnx : K.lookup (hp.objs.size + 1) = none := by
    cases e : K.lookup (hp.objs.size + 1) with
    | none => rfl
    | some o =>
      have z : hp.get? (hp.objs.size + 1) = some o := X _ _ e
      exact absurd (Nat.lt_of_succ_lt (Heap.lt_size z)) (Nat.lt_irrefl _)
  refine PySem.HandSPX.call_own PySem.F.excBase_ValueError hT hC (looks_findIn X T.iC) (fun self => bind_fn X self T.tC) (by show 1 ≤ sizeLine; rw [sizeLine_eq]; decide) ?_
  refine pe_init (s := ⟨(hp.push (kdv_tup [.int i tk])).push (excO C hp.objs.size), g, d, t, os⟩) T (X.keeps k) (hlim.keeps k) (hG.keeps k) (hB.keeps k) hbb hget hnx hroom hi hz fun h' tk' dx t1 E => ?_
  refine ⟨rfl, hq h' tk' (hp.objs.size + 1) dx _ (fun b o e => E.keep b o (Nat.ne_of_lt (Nat.lt_succ_of_lt (Heap.lt_size e))) (k b o e)) (Nat.le_succ _) ?_ E.dne E.obj rfl rfl ⟨_, rfl⟩ E.ns⟩
  have z : ((hp.push (kdv_tup [.int i tk])).push (excO C hp.objs.size)).objs.size ≤ dx := E.dbig
  rw [Heap.size_push, Heap.size_push] at z
  exact Nat.le_trans (Nat.le_succ_of_le (Nat.le_succ _)) z
end
end Mi

set_option Elab.async false
set_option linter.all false
set_option maxRecDepth 100000
set_option exponentiation.threshold 3000
namespace Mi
open PySem PySem.Spec PyProof.Rows L2
theorem relO_line {v : V} {v' : Value} (r : RelV v v') (f : Str) : RelO (List.lookup f [(("line" : Str), v)]) (if f = "line" then some v' else none) := by
  by_cases h : f = "line"
  · subst h
    rw [if_pos rfl]
    have q : List.lookup ("line" : Str) [(("line" : Str), v)] = some v := by simp [List.lookup]
    rw [q]
    exact r
  · rw [if_neg h]
    have z : (f == ("line" : Str)) = false := by simpa using h
    have q : List.lookup f [(("line" : Str), v)] = none := by simp [List.lookup, z]
    rw [q]
    trivial
section
variable {X : Cx} {C fI : Addr}
theorem pe_mkp {k : Nat} {x : Str} {e : Expr} {ta : TE} {p pos : Pos} (T : PeTxt X.prog X.K X.mg C fI) (hr : Room k X.A) (gC : X.mg x = some (.ref C)) (hg : Gl X x)
    (he : PE X e ta) (hs : starEach [e] X.env = (false, eval e X.env) :: starEach [] X.env) (hdb : (x == ("__debug__" : Str)) = false) :
    PE X (.Call (.Name x p) [e] [] pos) (fun σ H Q => ta σ H fun v H1 => ∃ i : Int, v = .int i ∧ i.natAbs < 2 ^ 1000 ∧ (toString i).length ≤ 1000 ∧
      ∀ a d od, H1 a = none → H1 d = none → d ≠ a → od.cls = .ref C → od.dict = some d → (∃ vs, od.data = .fields vs) → Q (.ref a) (upd (upd H1 d (.xd [(("line" : Str), .int i)])) a (.frz od (.ext fun _ => True)))) := by
  refine ⟨fun pins s σ H Q I h => ?_⟩
  refine wpAny_Call_Name_kw (ld_glob I hg gC ?_ hdb)
  refine PySem.W.callWith_K (h₀ := X.base) I.ok.mod.kin T.kC ?_ hs (by rfl)
  rw [hs]
  show wpAny _ _ (spliced ((false, eval e X.env) :: backTo pos (starEach [] X.env))) _ _ s
  refine Calls.spliced_cons (thn (he.run pins s σ H _ I h) fun u s1 ⟨v, H1, I1, r1, i, ev, h1, h2, q1⟩ => ?_)
  refine Calls.spliced_nil ⟨I1.kIn, ?_⟩
  subst ev
  obtain ⟨tk, rfl⟩ := r1
  obtain ⟨mb, hB, hbb⟩ := I1.mod.blt
  refine wpAny_call (pe_made T I1.kIn I1.nolimit (I1.mod.glob.keeps I1.bk) (hB.keeps I1.bk) hbb (by have := hr.dp; omega) h1 h2 fun h' tk' a d od old0 an dn dne ho hc hd hf hns => ?_)
  obtain ⟨G', g1, g2⟩ := restrict h' fun b => decide (b ≠ a)
  have gk : ∀ b, b ≠ a → G'.get? b = h'.get? b := fun b hb => g1 b (decide_eq_true hb)
  have ga : G'.get? a = none := g2 a (by simp)
  have gs : ∀ b o, G'.get? b = some o → h'.get? b = some o := fun b o q => by
    by_cases hb : b = a
    · rw [hb, ga] at q; cases q
    · rw [← gk b hb]; exact q
  have old : ∀ b o, s1.heap.get? b = some o → G'.get? b = some o := fun b o q => (gk b (Nat.ne_of_lt (Nat.lt_of_lt_of_le (Heap.lt_size q) an))).trans (old0 b o q)
  have na : H1 a = none := I1.hok.fresh an
  have nd : H1 d = none := I1.hok.fresh dn
  have ob : ObjOk X.prog X.w (upd H1 d (.xd [(("line" : Str), .int i)])) G' d (.xd [(("line" : Str), .int i)]) :=
    ⟨_, hns.at (fun o q => (gk d dne).trans q), fun f => relO_line (v := .int i) (v' := .int i tk) ⟨tk, rfl⟩ f⟩
  have J : Inv X pins σ (upd H1 d (.xd [(("line" : Str), .int i)])) { s1 with heap := G', toks := tk' } := I1.laid (t' := tk') old dn ob
  have na2 : upd H1 d (.xd [(("line" : Str), .int i)]) a = none := by rw [upd_ne (Ne.symm dne)]; exact na
  have new : ObjOk X.prog X.w (upd (upd H1 d (.xd [(("line" : Str), .int i)])) a (.frz od (.ext fun _ => True))) h' a (.frz od (.ext fun _ => True)) := ⟨ho, trivial, ⟨_, ho⟩, fun _ _ _ _ => trivial⟩
  have J2 := J.laidN (t' := tk') gs ga na2 new
  exact ⟨.ref a, _, J2, rfl, q1 a d od na nd dne hc hd hf⟩
end
section
variable {Y : Wd} {W : WX} {X : Cx} {I : Info} {o e a b c : Expr} {ma mb : Ex} {pos apos cpos p tp : Pos} {G : Gh} {st : St} {σ : L2.St} {H : Hp}
theorem PostE.newP {c : Nat} {i : Int} {fr : Bool} {Q : VK} (R : Rel Y G st σ H) (h : PostE Y W G st σ H (.ok ((.err c (some i), fr), st)) Q) : ∀ p d od, H p = none → H d = none → d ≠ p → od.cls = .ref (Y.eA c) → od.dict = some d → (∃ vs, od.data = .fields vs) →
    Q (.ref p) (upd (upd H d (.xd [(("line" : Str), .int i)])) p (.frz od (.ext fun _ => True))) := fun p d od hp hd hne h1 h2 ⟨vs, h3⟩ => by
  have n1 : G.F d = none := R.fresh hd
  have R1 : Rel Y (G.put d (.xd [(("line" : Str), .int i)])) st σ (upd H d (.xd [(("line" : Str), .int i)])) := (R.new hd).put upd_same n1 (R.notOwned hd)
  have E1 : Ext G st σ H (G.put d (.xd [(("line" : Str), .int i)])) st (upd H d (.xd [(("line" : Str), .int i)])) := Ext.put n1 (Ext.new hd) (.inl hd)
  have hp1 : upd H d (.xd [(("line" : Str), .int i)]) p = none := by rw [upd_ne (Ne.symm hne)]; exact hp
  have n2 := R1.fresh hp1
  have R2 := (R1.new (o := .frz od (.ext fun _ => True)) hp1).put upd_same n2 (R1.notOwned hp1)
  refine h _ _ _ R2 (E1.trans (Ext.put n2 (Ext.new hp1) (.inl hp1))) ?_
  unfold RR
  rw [if_neg (by simp [isMutD])]
  simp only [RV]
  refine ⟨p, rfl, od, vs, by simp [Gh.put], h1, h3, d, h2, ?_⟩
  simp [Gh.put, hne]
structure XpAt (Y : Wd) (X : Cx) (c : Nat) : Prop where
  ok : ∃ fI k, PeTxt X.prog X.K X.mg (Y.eA c) fI ∧ Room k X.A
theorem se_mkp {x : Str} {k : Nat} (N : XcAt Y X x k) (M : XpAt Y X k) (ha : SE Y W X a (ev I ma)) (hs : starEach [a] X.env = (false, eval a X.env) :: starEach [] X.env) :
    SE Y W X (.Call (.Name x p) [a] [] pos) (ev I (.mkp k ma)) := by
  obtain ⟨fI, n, T, hr⟩ := M.ok
  refine PE.imp (pe_mkp T hr N.mg N.gl ha hs N.nd) fun σ H Q ⟨G, st, R, p⟩ => ⟨G, st, R, ?_⟩
  simp only [ev] at p
  refine (PostE.bind p).mono fun v H1 ⟨d, fr, st1, G1, _, R1, E1, r1, p1⟩ => ?_
  cases d with
  | int i =>
    dsimp only at p1
    split at p1
    · rename_i hz
      rw [Bool.and_eq_true] at hz
      have h1 : i.natAbs < 2 ^ 1000 := Nat.le_of_ble_eq_true hz.1
      have h2 := Nat.le_of_ble_eq_true hz.2
      unfold RR at r1
      rw [if_neg (by simp [isMutD])] at r1
      simp only [RV] at r1
      exact ⟨i, r1, h1, h2, fun a d od hp hd hne h3 h4 h5 => p1.newP R1 a d od hp hd hne h3 h4 h5⟩
    · exact p1.elim
  | _ => exact p1.elim
/-- e.line -/
def tLine (te : TE) (K : PySem.W.Frag) : TE := fun σ H Q => te σ H fun x H1 => ∃ (a D d : Addr) (od : Obj) (v : V), x = .ref a ∧ H1 a = some (.frz od (.ext fun _ => True)) ∧ od.cls = .ref D ∧ (∃ vs, od.data = .fields vs) ∧ od.dict = some d ∧ H1 d = some (.xd [(("line" : Str), v)]) ∧ ExcC K D ∧ PySem.W.findIn K (.ref D) "line" = some none ∧ Q v H1
theorem pe_line {te : TE} (he : PE X e te) (hb : attributeBase e "line" X.env (eval e X.env) = eval e X.env) : PE X (.Attribute e "line" pos) (tLine te X.K) := by
  refine ⟨fun pins s σ H Q I h => ?_⟩
  refine attr_of hb (thn (he.run pins s σ H _ I h) fun u s1 hh => ?_)
  obtain ⟨x, H1, I1, rx, a, D, d, od, v, ex, ea, ec, ⟨vs, hv⟩, ed, exd, T, hno, q⟩ := hh
  subst ex
  obtain rfl : u = Value.ref a := rx
  obtain ⟨ha, _⟩ : ObjOk X.prog X.w H1 s1.heap a (.frz od (.ext fun _ => True)) := I1.hok a _ ea
  obtain ⟨mA, hns, hr⟩ : ObjOk X.prog X.w H1 s1.heap d (.xd [(("line" : Str), v)]) := I1.hok d _ exd
  obtain ⟨oo, ho, hl⟩ := lookIn_ns hns
  have l : List.lookup ("line" : Str) [(("line" : Str), v)] = some v := by simp [List.lookup]
  obtain ⟨u, hu, ru⟩ := RelO.some_of (v := v) (o := mA "line") (by rw [← l]; exact hr "line")
  have J : PySem.W.InstAt s1.heap a od D (some oo) := ⟨ha, ec, by unfold PySem.W.notCls; rw [hv] <;> rfl, by rw [ed]; exact ho⟩
  exact HandSPX.exc_get I1.kIn J T.hg T.hk T.hs (PySem.W.findObj_own T.hd hno rfl (by rw [hl, hu])) (handed_of ru) ⟨v, H1, I1.tok _, ru, q⟩
structure XlAt (Y : Wd) (K : PySem.W.Frag) : Prop where
  ok : ∀ c, ExcC K (Y.eA c) ∧ PySem.W.findIn K (.ref (Y.eA c)) "line" = some none
theorem se_xline (T : XlAt Y X.K) (h : SO Y W X a (opd ma (ev I ma))) (hb : attributeBase a "line" X.env (eval a X.env) = eval a X.env) : SE Y W X (.Attribute a "line" pos) (ev I (.xline ma)) := by
  have e : ev I (.xline ma) = one kLine (opd ma (ev I ma)) := by funext st; simp only [ev]
  rw [SE, e]
  refine PE.imp (pe_line h hb) fun σ H Q hh => ?_
  obtain ⟨G, st, R, q⟩ := one_read σ H Q hh
  refine ⟨G, st, R, q.mono fun v H1 ⟨G1, st1, σ1, dx, R1, vx, p⟩ => ?_⟩
  cases dx with
  | err k o =>
    cases o with
    | none => simp only [kLine] at p; exact p.elim
    | some i =>
      simp only [kLine] at p
      simp only [VV] at vx
      obtain ⟨ad, e1, od, vs, h1, h2, h3, d, h4, h5⟩ := vx
      obtain ⟨t1, t2⟩ := T.ok k
      exact ⟨ad, _, d, od, .int i, e1, R1.fzi _ _ h1 rfl, h2, ⟨vs, h3⟩, h4, R1.fzi _ _ h5 rfl, t1, t2, p.flat R1 (by simp) (by simp only [RV])⟩
  | _ => exact p.elim
end
end Mi

set_option Elab.async false
set_option linter.all false
set_option maxRecDepth 100000
namespace Mi
open PySem PySem.Spec PyProof.Rows L2
def inf (P : Pg) (n : Nat) : Info := ⟨callN P n, fun g => P.gls[g]?, fun c m => match P.mts[c]? with
  | some l => l.lookup m
  | none => none, fun c => match P.ini[c]? with
  | some x => x
  | none => none, fun k c => match P.sub[k]? with
  | some l => l.contains c
  | none => false, P.sub.length, P.wf⟩
/-- what the text says of its names: its defs (name, parameters), built-ins that are used, constants, exception classes (name, can be made) -/
structure Tb where
  fns : List (Option (Str × Nat))
  frs : List Str
  gls : List Str
  exs : List Str
  mks : List Bool
/-- a module -/
structure Md where
  prog : Program
  w : World
  K : PySem.W.Frag
  mg : Str → Option Value
  base : Heap
def Df (Y : Wd) (M : Md) (P : Pg) (n : Nat) (x : Str) (j np : Nat) : Prop :=
  ∃ fa fd ps, M.mg x = some (.ref fa) ∧ FnG M.prog M.w M.K M.mg M.base (L2.CX M.prog M.w) (2 * n) fa fd ps (spM Y np (callN P n j)) ∧ PySem.W.keepIn M.K (.ref fa) = true ∧ L2.Binds M.K fd ps []
/-- what holds of the module's names -/
structure Tn (Y : Wd) (M : Md) (P : Pg) (B : Tb) : Prop where
  hK : M.K = Y.K
  fr : ∀ (i : Nat) (x : Str), B.frs[i]? = some x → M.mg x = none
  gl : ∀ (g : Nat) (x : Str) (d : D), B.gls[g]? = some x → P.gls[g]? = some d → ∃ (u : Value) (v : V), M.mg x = some u ∧ RelV v u ∧ ∀ F al, RV Y F al d v
  ex : ∀ (k : Nat) (x : Str), B.exs[k]? = some x → M.mg x = some (.ref (Y.eA k))
  fld : ∀ (i j : Nat), Y.fld i = Y.fld j → i = j
  xs : XsAt Y M.K (inf P 0).sub P.sub.length
  xm : ∀ (k : Nat), B.mks[k]? = some true → PySem.W.keepIn M.K (.ref (Y.eA k)) = true ∧ PySem.W.excIn M.K (Y.eA k) He.veBase "ValueError.__new__" = true
  xp : ∀ (k : Nat), B.mks[k]? = some false → ∃ fI, PeTxt M.prog M.K M.mg (Y.eA k) fI
  xl : XlAt Y M.K
/-- a context of the module, at a depth -/
structure Tx (Y : Wd) (M : Md) (P : Pg) (B : Tb) (n : Nat) (X : Cx) (W : WX) : Prop where
  nm : Tn Y M P B
  df : ∀ (j : Nat) (x : Str) (np : Nat), B.fns[j]? = some (some (x, np)) → Df Y M P n x j np
  e1 : X.prog = M.prog
  e2 : X.w = M.w
  e3 : X.K = M.K
  e4 : X.mg = M.mg
  e5 : X.base = M.base
  room : Room (2 * n + 1) X.A
  gd : X.A.guards = some []
  calm : X.calm = true
  tk : Takes X W
section
variable {Y : Wd} {M : Md} {P : Pg} {B : Tb} {n : Nat} {X : Cx} {W : WX}
theorem takesF {X : Cx} : Takes X WF := fun _ _ x => by
  obtain ⟨_, _, _, _, _, _, _, _, _, _, _, _, _, _, _, _, z⟩ := x
  exact z.elim
theorem Tx.blk (T : Tx Y M P B n X W) (s : Shared) (H : Hp) (scope : Scope) (cenv : Env) (fp : List Addr) : Tx Y M P B n (X.blk s H scope cenv fp) WF :=
  ⟨T.nm, T.df, T.e1, T.e2, T.e3, T.e4, T.e5, T.room, T.gd, T.calm, takesF⟩
theorem Tx.hK (T : Tx Y M P B n X W) : X.K = Y.K := T.e3.trans T.nm.hK
theorem Tx.u1 (T : Tx Y M P B n X W) : X.A.units + 1 < cLine := by
  have := T.room.un
  omega
theorem Tx.u66 (T : Tx Y M P B n X W) : X.A.units + 66 < cLine := by
  have := T.room.un
  omega
theorem Tx.fr (T : Tx Y M P B n X W) (i : Nat) {x : Str} (h : B.frs[i]? = some x) : X.mg x = none := by
  rw [T.e4]
  exact T.nm.fr i x h
theorem Tx.def_ (T : Tx Y M P B n X W) (j : Nat) {x : Str} {np : Nat} (h : B.fns[j]? = some (some (x, np))) (hg : Gl X x) (hd : (x == ("__debug__" : Str)) = false) : DefAt Y X x (2 * n) np ((inf P n).fn j) := by
  obtain ⟨fa, fd, ps, h1, h2, h3, h4⟩ := T.df j x np h
  refine ⟨hg, ⟨fa, fd, ps, ?_, ?_, ?_, ?_⟩, T.room.mono (by omega), T.gd, hd⟩
  · rw [T.e4]; exact h1
  · rw [T.e1, T.e2, T.e3, T.e4, T.e5]; exact h2
  · rw [T.e3]; exact h3
  · rw [T.e3]; exact h4
theorem Tx.gl (T : Tx Y M P B n X W) (g : Nat) {x : Str} {d : D} (h : B.gls[g]? = some x) (h2 : P.gls[g]? = some d) (hg : Gl X x) (hd : (x == ("__debug__" : Str)) = false) : GlAt Y X x d := by
  obtain ⟨u, v, h3, h4, h5⟩ := T.nm.gl g x d h h2
  exact ⟨hg, ⟨u, v, by rw [T.e4]; exact h3, h4, h5⟩, hd⟩
theorem Tx.ex (T : Tx Y M P B n X W) (k : Nat) {x : Str} (h : B.exs[k]? = some x) (hg : Gl X x) (hd : (x == ("__debug__" : Str)) = false) : XcAt Y X x k :=
  ⟨hg, by rw [T.e4]; exact T.nm.ex k x h, hd⟩
theorem Tx.xs (T : Tx Y M P B n X W) : XsAt Y X.K (inf P n).sub P.sub.length := by
  rw [T.e3]
  exact T.nm.xs
theorem Tx.xm (T : Tx Y M P B n X W) (k : Nat) (h : B.mks[k]? = some true) : XmAt Y X k := by
  have z := T.nm.xm k h
  exact ⟨by rw [T.e3]; exact z.1, by rw [T.e3]; exact z.2⟩
theorem Tx.xp (T : Tx Y M P B n X W) (k : Nat) (h : B.mks[k]? = some false) : XpAt Y X k := by
  obtain ⟨fI, z⟩ := T.nm.xp k h
  exact ⟨fI, _, by rw [T.e1, T.e3, T.e4]; exact z, T.room⟩
theorem Tx.xl (T : Tx Y M P B n X W) : XlAt Y X.K := by
  rw [T.e3]
  exact T.nm.xl
theorem Tx.dc (T : Tx Y M P B n X W) : DcIn Y X := dcIn T.u1
end
end Mi

set_option Elab.async false
set_option linter.all false
set_option maxRecDepth 100000
namespace Mi
open PySem PySem.Spec PyProof.Rows L2
def visB (sc : Scope) (x : Str) : Bool := match sc.names.lookup x with
  | some .local => true
  | some .cell => true
  | some .free => true
  | _ => false
theorem vis {sc : Scope} {x : Str} (h : visB sc x = true) : Vis sc x := by
  unfold visB at h
  unfold Vis
  split at h <;> rename_i q
  · exact .inl q
  · exact .inr (.inl q)
  · exact .inr (.inr q)
  · cases h
def locB (sc : Scope) (x : Str) : Bool := match sc.names.lookup x with
  | some .local => true
  | some .cell => true
  | _ => false
theorem loc {sc : Scope} {x : Str} (h : locB sc x = true) : L2.Loc sc x := by
  unfold locB at h
  unfold L2.Loc
  split at h <;> rename_i q
  · exact .inl q
  · exact .inr q
  · cases h
def hfX (X : Cx) (x : Str) : Bool := X.fn x || (match X.env.scope.names.lookup x with
  | some .local => true
  | _ => false)
theorem hfB {X : Cx} {x : Str} (h : hfX X x = true) : X.fn x = true ∨ X.env.scope.names.lookup x = some .local := by
  unfold hfX at h
  rw [Bool.or_eq_true] at h
  rcases h with h | h
  · exact .inl h
  · split at h <;> rename_i q
    · exact .inr q
    · cases h
/-- what a body's context hangs on -/
structure Cv where
  Y : Wd
  W : WX
  n : Nat
  M : Md
  f : Addr
  cdv : Value
  A : Around
  outer : List Env
  s : Shared
  H : Hp
  E : XK
abbrev cxv (C : Cv) (N : List Str) (q : Str) (sc : Scope) : Cx := cxOf (L2.CX C.M.prog C.M.w) C.M.prog C.M.w C.M.K C.M.mg C.M.base N q sc C.f C.cdv C.A C.outer C.s C.H C.E
theorem se_int' {Y : Wd} {W : WX} {X : Cx} {I : Info} {e : Expr} {m : Ex} {p pos : Pos} (_ : X.K = Y.K) (h : SO Y W X e (opd m (ev I m))) (hs : starEach [e] X.env = [(false, eval e X.env)]) (hg : Gl X "int") (hm : X.mg "int" = none) : SE Y W X (.Call (.Name "int" p) [e] [] pos) (ev I (.f1 .int m)) := se_int h hs hg hm
end Mi

set_option Elab.async false
set_option linter.all false
set_option maxRecDepth 100000
namespace Mi
open PySem PySem.Spec PyProof.Rows L2
/-! ### the end: a law whose def keeps its promise by the evaluator -/
theorem callN_step {P : Pg} {n j : Nat} {F : Fn} (h : P.fns[j]? = some F) : callN P (n + 1) j = runF (inf P n) F := by
  funext ds s
  rw [callN]
  rw [h]
  rfl
theorem fn_zero {Y : Wd} {P : Pg} {prog : Program} {w : World} {K : PySem.W.Frag} {mg : Str → Option Value} {base : Heap} {f : Addr} {fd : FuncData} {ps : List Str} {j np : Nat} : FnG prog w K mg base (L2.CX prog w) (2 * 0) f fd ps (spM Y np (callN P 0 j)) := by
  have no : ∀ {vs H Q E}, spM Y np (callN P 0 j) vs H Q E → False := fun {vs H Q E} ⟨G, s, ds, _, _, _, p⟩ => by
    rw [callN] at p
    exact p
  exact ⟨fun vs H Q E h => (no h).elim, fun _ _ _ _ _ _ _ _ _ _ _ _ _ _ h => (no h).elim⟩
/-- the script as it is handed in -/
theorem rel_script {Y : Wd} {H : Hp} {a : Addr} {ns : List Int} (hO : Only H) (hS : SqL Y.K H a (ns.map V.int)) :
    Rel Y ⟨H, fun _ => none⟩ ⟨[], []⟩ [] H ∧ RVs Y H (fun _ => none) [.scr ns] [.ref a] := by
  refine ⟨⟨fun _ _ e _ => e, fun _ _ e => .inl e, fun _ _ e => (nomatch e), fun n d e => by simp at e, fun i b d e => by simp [slotAt] at e, fun t t' b o _ => ?_, Nat.zero_le _⟩, RVs.cons ?_ .nil⟩
  · cases t with
    | slot i => obtain ⟨d, q, _⟩ := o; simp [slotAt] at q
    | cell n => obtain ⟨⟨d, q⟩, _⟩ := o; simp at q
  · simp only [RV]
    refine ⟨a, rfl, ?_⟩
    rcases hS with (h | ⟨o, h⟩) | h
    · rcases hO a with z | ⟨o, xs, z⟩
      · rw [h] at z; cases z
      · rw [h] at z; cases z
    · exact .inl ⟨o, h⟩
    · exact .inr h
theorem law_callG {P : Program} {w : World} {K : PySem.W.Frag} {mg mb : Str → Option Value} {k : Nat} {fa a : Addr} {fd : FuncData} {x : Str} {sp : Sp} {s₁ : Shared} {vs : List Value} {ns : List Int}
    (KX : K.In s₁.heap) (hns : s₁.heap.Ns mainGlobals mg) (hb : s₁.heap.Ns builtinsNs mb) (hbb : ∀ x : Str, x ≠ "__name__" → mb x = bootBuiltins x) (hlim : s₁.heap.NoLimit) (hg : s₁.gens = #[])
    (ha : s₁.heap.get? a = some { cls := .type "list", data := .seq vs.toArray }) (hi : IntsAre vs ns) (hl : ns.length ≤ sizeLine) (hr : Room k callerA)
    (F : ∀ base : Heap, K.In base → base.Ns mainGlobals mg → FnG P w K mg base (L2.CX P w) k fa fd [x] sp) (hbind : ∀ (s : Shared) (u : Value), BindsTo s fd ⟨[u], []⟩ [(x, u)])
    (hsp : ∀ H : Hp, Only H → SqL K H a (ns.map V.int) → sp [.ref a] H (fun v _ => v = .bl true) fun _ _ _ => False) :
    codeAny (model P w) callerA (.call (.ref fa) ⟨[.ref a], []⟩) (fun r s' => r = .ok (.ret (.bool true)) ∧ OldK s₁.heap s'.heap ∧ s'.os = s₁.os ∧ AllBare s'.gens) s₁ := by
  have rv := vals_ints hi
  have lenV := hi.length
  have core : ∀ H : Hp, Only H → SqL K H a (ns.map V.int) → HOk P w H s₁.heap → (∀ b, H b ≠ none → b = a) → (H a ≠ none → K.lookup a = none) →
      codeAny (model P w) callerA (.call (.ref fa) ⟨[.ref a], []⟩) (fun r s' => r = .ok (.ret (.bool true)) ∧ OldK s₁.heap s'.heap ∧ s'.os = s₁.os ∧ AllBare s'.gens) s₁ := by
    intro H hO hS hok hA hK
    have only : ∀ {b : Addr} {o : Obj} {es : Array DictEntry} {ep : Nat}, s₁.heap.get? b = some o → o.data = .dict es ep → H b = none := fun {b o es ep} e d => by
      cases q : H b with
      | none => rfl
      | some u =>
        have e2 : b = a := hA b (by rw [q]; exact fun z => nomatch z)
        subst e2
        rw [ha] at e
        cases e
        cases (show Data.seq vs.toArray _ = Data.dict es ep from d)
    have nsK : ∀ {b : Addr} {m : Str → Option Value}, s₁.heap.Ns b m → (hidT s₁.heap H).Ns b m := fun {b m} ⟨o, es, ep, e, d, r⟩ => ⟨o, es, ep, hidT_get e (only e d), d, r⟩
    have hKb : K.In (hidT s₁.heap H) := fun b o e => hidT_get (KX b o e) (by
      cases q : H b with
      | none => rfl
      | some u =>
        have e2 : b = a := hA b (by rw [q]; exact fun z => nomatch z)
        subst e2
        rw [hK (by rw [q]; exact fun z => nomatch z)] at e
        cases e)
    have hM : Mod K mg (hidT s₁.heap H) := ⟨hKb, nsK hns, ⟨mb, nsK hb, hbb⟩, let ⟨mc, h1, h2⟩ := hlim; ⟨mc, nsK h1, h2⟩⟩
    have e0 : Env0 P w K mg (hidT s₁.heap H) callerA [] s₁ H := ⟨rfl, hM, fun b o e => of_hidT e, Nat.le_of_eq (hidT_size _ _), trivial, fun b hb => absurd (show b ∈ ([] : List Addr) from hb) (by simp), hok, .of_eq hg⟩
    refine codeAny_mono ((F _ hKb (nsK hns)).run callerA [] s₁ H ⟨[.ref a], []⟩ [.ref a] [.ref a] _ _ hr rfl e0 (hbind s₁ (.ref a)) (.cons rfl .nil) (hsp H hO hS)) fun r s' h => ?_
    cases r with
    | error e =>
      obtain ⟨_, _, _, _, _, _, _, _, _, _, _, _, z⟩ := h
      exact z.elim
    | ok fl =>
      cases fl with
      | ret u =>
        obtain ⟨v, H', os, bare, un, hok', r', q⟩ := h
        have q' : v = .bl true := q
        subst q'
        obtain rfl : u = Value.bool true := r'
        refine ⟨rfl, OldK.of_keep fun b o e => ?_, os, bare⟩
        cases q : H b with
        | none => exact un.keep b o e q (fun z => absurd (show b ∈ ([] : List Addr) from z) (by simp)) (by simp)
        | some u =>
          rcases hO b with z | ⟨ob, xs, z⟩
          · rw [q] at z; cases z
          · obtain ⟨e1, _⟩ := hok b _ z
            obtain ⟨e2, _⟩ := hok' b _ (un.frzs b ob _ z)
            rw [e] at e1
            cases e1
            exact e2
      | _ => exact False.elim h
  cases hk : K.lookup a with
  | some o =>
    have e := KX a o hk
    rw [ha] at e
    cases e
    refine core (fun _ => none) (fun _ => .inl rfl) (.inr ⟨_, vs.toArray, _, hk, rfl, rfl, rfl, by rw [List.size_toArray, lenV]; exact hl, by simpa using rv⟩) (fun b u z => nomatch (show (none : Option HO) = some u from z)) (fun b z => absurd rfl z) fun z => absurd rfl z
  | none =>
    refine core (fun b => if b = a then some (.frz { cls := .type "list", data := .seq vs.toArray } (.lst (ns.map V.int))) else none) (fun b => ?_) (.inl (.inr ⟨_, if_pos rfl⟩)) (fun b u z => ?_) (fun b z => ?_) fun _ => hk
    · by_cases hb : b = a
      · exact .inr ⟨_, _, if_pos hb⟩
      · exact .inl (if_neg hb)
    · by_cases hb : b = a
      · have z' := (if_pos hb).symm.trans z
        cases z'
        subst hb
        exact ⟨ha, by rw [List.length_map]; exact hl, vs, _, rv, ha⟩
      · cases (if_neg hb).symm.trans z
    · by_cases hb : b = a
      · exact hb
      · exact absurd (if_neg hb) z
/-- a law: from the head's facts, the promise of its def over every base and the evaluator's answer -/
theorem walk_ofM {l : PySem.W.OpenLaw} {n k : Nat} {q : Program} {loose : List Str} {XP : (Str → Option Value) → Heap → Prop} {YP : World → Heap → Prop} {d : DefRec} {x : Str} {fn : List D → Cells → Out ((D × Bool) × Cells)}
    (hn : l.most = some n) (hn2 : n ≤ sizeLine) (hdf : d.params.defaults = []) (hr : Room k callerA)
    (F : ∀ (w : World) (mg : Str → Option Value) (fa : Addr) (h : Heap), YP w h → h.Ns mainGlobals mg → mg d.name = some (.ref fa) →
      ∃ (Y : Wd) (fd : FuncData), Y.K.In h ∧ (∀ (s : Shared) (u : Value), BindsTo s fd ⟨[u], []⟩ [(x, u)]) ∧
        ∀ base : Heap, Y.K.In base → base.Ns mainGlobals mg → FnG l.prog w Y.K mg base (L2.CX l.prog w) k fa fd [x] (spM Y 1 fn))
    (hfn : ∀ ns : List Int, ns.length ≤ n → ∃ fr s, fn [.scr ns] [] = .ok ((.bl true, fr), s)) :
    PySem.W.WalkO q loose XP YP l.row.toRowW d [] (fun f vs => PySem.call f vs) := by
  refine Att.attach_call hn hdf fun w s₀ s₁ mg mb fa o pm cd doc a vs ns G Y0 ho hd hcd hmg hobj hints hlen hg => ?_
  obtain ⟨Y, fd, KX, hb, hF⟩ := F w mg fa _ Y0 G.T.g hmg
  refine law_callG KX G.T.g G.T.b G.T.builtins G.T.nolimit hg hobj hints (Nat.le_trans hlen hn2) hr hF hb fun H hO hS => ?_
  obtain ⟨R, rv⟩ := rel_script (Y := Y) hO hS
  refine ⟨_, [], _, R, rv, rfl, ?_⟩
  obtain ⟨fr, s, e⟩ := hfn ns hlen
  rw [e]
  intro G' H' v _ _ r
  unfold RR at r
  rw [if_neg (by simp [isMutD])] at r
  simpa only [RV] using r
end Mi

set_option Elab.async false
set_option linter.all false
set_option maxRecDepth 100000
namespace Mi
open PySem PySem.Spec PyProof.Rows L2
/-! ### the head: facts by names, any of them -/
abbrev FnP : Type := Option (Str × Str × Arguments × FuncBody × Scope × Addr × List Str × Addr)
def fnP (K : PySem.W.Frag) (p : Str × Option Str) : FnP := match K.lookup (He.fAd K p) with
  | some ⟨_, _, .func fd, _⟩ => some (fd.name, fd.qualname, fd.params, fd.body, fd.scope, fd.globals, fd.closure.map (·.1), fd.builtins)
  | _ => none
abbrev AlM : Type := Bool × List He.FnW × List FnP
structure Hm where
  ok : PySem.W.Frag → Bool
  fn : List He.DefD
  ps : List ((Str × Option Str) × FnP)
def Hm.obs (h : Hm) (K : PySem.W.Frag) : AlM := (h.ok K && h.fn.all fun d => d.ok K, h.fn.map fun d => He.fnW K d.at_, h.ps.map fun p => fnP K p.1)
def Hm.val (h : Hm) : AlM := (true, h.fn.map He.DefD.val, h.ps.map fun p => p.2)
def Hm.Says (h : Hm) (K : PySem.W.Frag) : Prop := h.obs K = h.val
def Hm.obsG (h : Hm) (n : Nat) (g : Addr → Option Obj) : AlM := h.obs (He.frG g (cStatics :: He.asD g n))
def Hm.hook (h : Hm) (n : Nat) : PySem.W.Hook where
  α := AlM
  obs := fun s => h.obsG n s.heap.get?
  val := fun _ => h.val
  says := fun _ hp => ∃ K : PySem.W.Frag, K.In hp ∧ h.Says K
  of := fun _ _ e => ⟨_, He.frG_in, e⟩
  keeps := fun _ _ _ ⟨K, hK, c⟩ k => ⟨K, PySem.W.Frag.In.keeps hK k, c⟩
theorem Hm.obs_eq {h : Hm} {n : Nat} {g : Addr → Option Obj} {s : Shared} (e : ∀ a, g a = s.heap.get? a) : h.obsG n g = (h.hook n).obs s := by
  have e2 : g = s.heap.get? := funext e
  rw [e2]
  rfl
section
variable {h : Hm} {K : PySem.W.Frag}
theorem Hm.Says.all (c : h.Says K) : h.ok K = true := (Bool.and_eq_true_iff.mp (congrArg (fun z : AlM => z.1) c)).1
theorem Hm.Says.def_ (c : h.Says K) (i : Nat) {d : He.DefD} (q : h.fn[i]? = some d) : ∃ fd, FunD K d.name d.qual d.params d.body d.scope (d.dvs K) (d.kws K) (He.fAd K d.at_) fd := by
  have c2 := (Bool.and_eq_true_iff.mp (congrArg (fun z : AlM => z.1) c)).2
  have e : h.fn.map (fun d => He.fnW K d.at_) = h.fn.map He.DefD.val := congrArg (fun z : AlM => z.2.1) c
  have e2 := congrArg (fun l => l[i]?) e
  simp only [List.getElem?_map, q, Option.map_some, Option.some.injEq] at e2
  exact He.DefD.funD e2 (List.all_eq_true.mp c2 d (List.mem_of_getElem? q))
theorem Hm.Says.pe (c : h.Says K) (i : Nat) {p : (Str × Option Str) × FnP} (q : h.ps[i]? = some p) : fnP K p.1 = p.2 := by
  have e : h.ps.map (fun p => fnP K p.1) = h.ps.map (fun p => p.2) := congrArg (fun z : AlM => z.2.2) c
  have e2 := congrArg (fun l => l[i]?) e
  simp only [List.getElem?_map, q, Option.map_some, Option.some.injEq] at e2
  exact e2
end
/-! ### facts -/
open PySem.W in
def gloB (K : Frag) (x : Str) : Bool := He.eqO (nsIn K mainGlobals x) (some (some (.ref (He.ga K x))))
open PySem.W in
def freeB (K : Frag) (x : Str) : Bool := He.eqO (nsIn K mainGlobals x) (some none)
open PySem.W in
/-- an exception class: what isinstance and its fields ask -/
def exB1 (K : Frag) (x : Str) : Bool :=
  gloB K x && (He.eqO (findIn K (.ref (He.ga K x)) "__getattribute__") (some (some (.builtin "BaseException.__getattribute__"))) && (He.eqO (findIn K (.ref (He.ga K x)) "__getattr__") (some none) &&
  (decide (subIn K (.ref (He.ga K x)) (.type "BaseException") = some true) && (hasDictIn K (He.ga K x) && (He.eqO (findIn K (.ref (He.ga K x)) "__class__") (some (some (.builtin "object.__class__"))) &&
  (decide (mroIn K (He.ga K x) (.type "object") = some true) && He.eqO (findIn K (.ref (He.ga K x)) "line") (some none)))))))
open PySem.W in
def exB0 (K : Frag) : Bool := He.eqO (specialIn K (.builtin "object.__class__") "__get__") (some (some (.builtin "getset_descriptor.__get__"))) && decide (takesIn K (.builtin "object.__class__") = some true)
open PySem.W in
def mkB1 (K : Frag) (x : Str) : Bool := keepIn K (.ref (He.ga K x)) && excIn K (He.ga K x) He.veBase "ValueError.__new__"
open PySem.W in
def subB1 (K : Frag) (x y : Str) (b : Bool) : Bool := decide (kitOne K (.ref (He.ga K x)) (.ref (He.ga K y)) = some b)
open PySem.W in
def veB1 (K : Frag) (x : Str) : Bool := decide (kitOne K (.ref (He.ga K x)) (.type "ValueError") = some true)
theorem gloB_ok {K : PySem.W.Frag} {h : Heap} {mg : Str → Option Value} (X : K.In h) (G : h.Ns mainGlobals mg) {x : Str} (c : gloB K x = true) : mg x = some (.ref (He.ga K x)) := PySem.W.mg_of X G (He.eqO_ok c)
theorem freeB_ok {K : PySem.W.Frag} {h : Heap} {mg : Str → Option Value} (X : K.In h) (G : h.Ns mainGlobals mg) {x : Str} (c : freeB K x = true) : mg x = none := PySem.W.mg_none_of X G (He.eqO_ok c)
theorem exB_ok {K : PySem.W.Frag} {x : Str} (c : exB1 K x = true) (c0 : exB0 K = true) : ExcC K (He.ga K x) ∧ PySem.W.findIn K (.ref (He.ga K x)) "line" = some none := by
  unfold exB1 at c
  unfold exB0 at c0
  simp only [Bool.and_eq_true, decide_eq_true_eq] at c c0
  obtain ⟨c1, c2, c3, c4, c5, c6, c7, c8⟩ := c
  exact ⟨⟨He.eqO_ok c2, He.eqO_ok c3, c4, c5, He.eqO_ok c6, He.eqO_ok c0.1, c0.2, c7⟩, He.eqO_ok c8⟩
open PySem.W in
/-- an exception class with its own __init__ -/
def peOk (prog : Program) (K : Frag) (x : Str) : Bool :=
  excInitIn K (He.ga K x) He.veBase "ValueError.__new__" && ((match clsIn K (He.ga K x) with
    | some cd => PySem.HandSPX.refsVE cd.mro && cd.hasDict
    | none => false) && (He.eqO (findIn K (.ref (He.ga K x)) "__init__") (some (some (.ref (He.ma K (He.ga K x) "__init__")))) && (decide (typeIn K (.ref (He.ma K (He.ga K x) "__init__")) = some (.type "function")) && (keepIn K (.ref (He.ga K x)) &&
  (He.eqO (findIn K (.ref (He.ga K x)) "__setattr__") (some (some (.builtin "object.__setattr__"))) && (He.eqO (findIn K (.ref (He.ga K x)) "line") (some none) && (He.eqO (nsIn K cStatics "thirdparty.any") (some none) &&
  (He.eqO (ks_superIn K (He.ga K x) (He.ga K x) "__init__") (some (some (.builtin "ValueError.__init__"))) && (decide (subIn K (.ref (He.ga K x)) (.type "ValueError") = some true) && (decide (mroIn K (He.ga K x) (.ref (He.ga K x)) = some true) && (freeB K "super" &&
  match K.lookup (He.ma K (He.ga K x) "__init__") with
    | some ⟨_, _, .func fd, _⟩ => codeIn K fd.code "ParseError.__init__" && ((match fd.defaults with
      | .none => true
      | _ => false) && ((match fd.code with
      | .ref cda => (match K.lookup cda with
        | some ⟨_, _, .fields vs, _⟩ => (match (vs[2]? : Option Value) with
          | some (Value.str file _) => (prog.main.file : Str) == file
          | _ => false)
        | _ => false)
      | _ => false) && (match fd.closure with
      | [(y, cc)] => decide (y = "__class__") && (match K.lookup cc with
        | some ⟨_, _, .cell (some v), _⟩ => decide (v = .ref (He.ga K x))
        | _ => false)
      | _ => false)))
    | _ => false)))))))))))
theorem pe_txt {prog : Program} {K : PySem.W.Frag} {h : Heap} {mg : Str → Option Value} {x : Str} (X : K.In h) (G : h.Ns mainGlobals mg) (c : peOk prog K x = true) {p1 p2 : Pos} {txt : Str} {j : Nat} {p : Nat → Pos} {cn : List Str}
    (e : fnP K (x, some ("__init__" : Str)) = (some (("__init__" : Str), ("ParseError.__init__" : Str), peA p1 p2, FuncBody.stmts (peB txt j p), peS, mainGlobals, cn, builtinsNs) : FnP)) (ht : txt.length ≤ 1000) (top : (prog.main.scope.names.lookup ("super" : Str)).isSome = false)
    (hev : ∀ env : Env, ∃ pl : Sem Bool, eval (.Call (.Attribute (peSup p) "__init__" (p 2)) [peJ txt j p] [] (p 7)) env = (do
      let ov ← attributeBase (peSup p) "__init__" env (eval (peSup p) env)
      standAt (p 2).atName
      let (f, first) ← holding [ov] (getMethod ov "__init__" pl)
      callWith (p 7) f first (backTo (p 7) (starEach [peJ txt j p] env)) [])) : PeTxt prog K mg (He.ga K x) (He.ma K (He.ga K x) "__init__") := by
  unfold peOk at c
  simp only [Bool.and_eq_true, decide_eq_true_eq] at c
  obtain ⟨c1, c2, c3, c4, c5, c6, c7, c8, c9, c10, c11, c12, c13⟩ := c
  refine ⟨c1, ?_, He.eqO_ok c3, c4, c5, He.eqO_ok c6, He.eqO_ok c7, He.eqO_ok c8, He.eqO_ok c9, c10, c11, freeB_ok X G c12, ?_, top⟩
  · cases q : PySem.W.clsIn K (He.ga K x) with
    | none => rw [q] at c2; cases c2
    | some cd =>
      rw [q] at c2
      rw [Bool.and_eq_true] at c2
      exact ⟨cd, rfl, c2.1, c2.2⟩
  · unfold fnP at e
    have e1 : He.fAd K (x, some "__init__") = He.ma K (He.ga K x) "__init__" := rfl
    rw [e1] at e
    cases q : K.lookup (He.ma K (He.ga K x) "__init__") with
    | none => rw [q] at c13; cases c13
    | some o =>
      obtain ⟨oc, od, dt, osl⟩ := o
      rw [q] at c13 e
      cases dt with
      | func fd =>
        obtain ⟨n1, n2, n3, n4, n5, n6, n7, n8, n9, n10, n11, n12, n13, n14, n15⟩ := fd
        dsimp only at c13 e
        simp only [Option.some.injEq, Prod.mk.injEq] at e
        obtain ⟨h1, h2, h3, h4, h5, h6, h7, h8⟩ := e
        simp only [Bool.and_eq_true] at c13
        obtain ⟨d1, d2, d3, d4⟩ := c13
        subst h1 h2 h3 h4 h5 h6 h8
        cases n8 with
        | none =>
          cases n13 with
          | ref cda =>
            dsimp only at d3
            cases q3 : K.lookup cda with
            | none => rw [q3] at d3; cases d3
            | some oo =>
              obtain ⟨ccl, cdd, cdt, ccs⟩ := oo
              rw [q3] at d3
              cases cdt with
              | fields vs =>
                dsimp only at d3
                cases q4 : vs[2]? with
                | none => rw [q4] at d3; cases d3
                | some vf =>
                  rw [q4] at d3
                  cases vf with
                  | str file tf =>
                    dsimp only at d3
                    cases n7 with
                    | nil => cases d4
                    | cons z zs =>
                      cases zs with
                      | cons _ _ => obtain ⟨y, cc⟩ := z; cases d4
                      | nil =>
                        obtain ⟨y, cc⟩ := z
                        dsimp only at d4
                        rw [Bool.and_eq_true, decide_eq_true_eq] at d4
                        obtain ⟨d5, d6⟩ := d4
                        subst d5
                        cases q5 : K.lookup cc with
                        | none => rw [q5] at d6; cases d6
                        | some ob =>
                          obtain ⟨cl, cld, cdt2, csl⟩ := ob
                          rw [q5] at d6
                          cases cdt2 with
                          | cell v =>
                            cases v with
                            | none => cases d6
                            | some v =>
                              dsimp only at d6
                              rw [decide_eq_true_eq] at d6
                              subst d6
                              exact ⟨oc, od, _, _, _, _, cda, _, osl, p1, p2, txt, j, p, cc, vs, file, tf, ccl, cl, cdd, cld, ccs, csl, rfl, d1, q3, q4, d3, q5, ht, hev⟩
                          | _ => cases d6
                  | _ => cases d3
              | _ => cases d3
          | _ => cases d3
        | _ => cases d2
      | _ => cases c13
end Mi

set_option Elab.async false
set_option linter.all false
set_option maxRecDepth 100000
namespace Mi
open PySem PySem.Spec PyProof.Rows L2
def fldOf (l : List Str) (i : Nat) : Str := match l[i]? with
  | some x => x
  | none => ⟨(List.replicate (i + 1000) 0).toArray⟩
theorem fldOf_inj {l : List Str} (h : l.Nodup) (h2 : (l.all fun x => Nat.blt x.length 1000) = true) : ∀ i j, fldOf l i = fldOf l j → i = j := fun i j e => by
  have sh : ∀ (i : Nat) (x : Str), l[i]? = some x → x.length < 1000 := fun i x q => Nat.le_of_ble_eq_true (List.all_eq_true.mp h2 x (List.mem_of_getElem? q))
  have lo : ∀ i : Nat, (⟨(List.replicate (i + 1000) 0).toArray⟩ : Str).length = i + 1000 := fun i => by simp [Str.length]
  unfold fldOf at e
  split at e
  · rename_i x q
    split at e
    · rename_i y q2
      subst e
      obtain ⟨hi, ei⟩ := List.getElem?_eq_some_iff.mp q
      obtain ⟨hj, ej⟩ := List.getElem?_eq_some_iff.mp q2
      have hp := List.pairwise_iff_getElem.mp h
      rcases Nat.lt_trichotomy i j with z | z | z
      · exact absurd (ei.trans ej.symm) (hp i j hi hj z)
      · exact z
      · exact absurd (ej.trans ei.symm) (hp j i hj hi z)
    · have := sh i x q
      rw [e, lo] at this
      omega
  · split at e
    · rename_i y q2
      have := sh j y q2
      rw [← e, lo] at this
      omega
    · have := congrArg Str.length e
      rw [lo, lo] at this
      omega
/-- of each item of a list, with its place -/
def Fa {α : Type} (P : Nat → α → Prop) : Nat → List α → Prop
  | _, [] => True
  | i, a :: l => P i a ∧ Fa P (i + 1) l
theorem Fa.get {α : Type} {P : Nat → α → Prop} : ∀ {l : List α} {i j : Nat} {a : α}, Fa P i l → l[j]? = some a → P (i + j) a
  | [], i, j, a, _, h => by simp at h
  | b :: l, i, 0, a, f, h => by simp at h; subst h; exact f.1
  | b :: l, i, j + 1, a, f, h => by
    have := Fa.get f.2 (show l[j]? = some a by simpa using h)
    rw [show i + (j + 1) = i + 1 + j by omega]
    exact this
/-- a def as the text has it -/
def Sf (M : Md) (x : Str) (st : Stmt) (ps : List Str) : Prop := ∃ fa fd, M.mg x = some (.ref fa) ∧ FunD M.K x x (defArgs st) (defBody st) (defScope st) [] [] fa fd ∧ L2.Binds M.K fd ps []
theorem Sf.zero {Y : Wd} {M : Md} {P : Pg} {x : Str} {st : Stmt} {ps : List Str} {j np : Nat} (S : Sf M x st ps) : Df Y M P 0 x j np := by
  obtain ⟨fa, fd, h1, F, hb⟩ := S
  exact ⟨fa, fd, ps, h1, fn_zero, F.kp, hb⟩
def DfO (Y : Wd) (M : Md) (P : Pg) (n : Nat) (j : Nat) : Option (Str × Nat) → Prop
  | some (x, np) => Df Y M P n x j np
  | none => True
theorem DfO.all {Y : Wd} {M : Md} {P : Pg} {n : Nat} {l : List (Option (Str × Nat))} (h : Fa (DfO Y M P n) 0 l) : ∀ (j : Nat) (x : Str) (np : Nat), l[j]? = some (some (x, np)) → Df Y M P n x j np := fun j x np q => by
  have := h.get q
  rwa [Nat.zero_add] at this
theorem memD {l : List Str} {d : Str} (h : l ≠ []) (k : Nat) : l.getD k (l.headD d) ∈ l := by
  by_cases q : k < l.length
  · rw [List.getD_eq_getElem?_getD, List.getElem?_eq_getElem q]
    exact List.getElem_mem q
  · rw [List.getD_eq_getElem?_getD, List.getElem?_eq_none (by omega)]
    cases l with
    | nil => exact absurd rfl h
    | cons a l => simp
end Mi

set_option Elab.async false
set_option linter.all false
set_option maxRecDepth 100000
namespace Mi
/-! ### the pen of the laws -/
def fPen : Fn := ⟨1, 1, [.ret (.cell (.lst [.one (.f1 .list (.sl (.pk 0) none (some (.n 60)))), .one (.n 0), .one (.n 0)]))]⟩
def fNext : Fn := ⟨1, 6, [.asg (.nm 1) (.ix (.pk 0) (.n 1)),
  .seti (.pk 0) (.n 1) (.bin .add (.pk 1) (.n 1)),
  .asg (.nm 2) (.bin .add (.bin .mul (.pk 1) (.n 1051)) (.n 53)),
  .ifs (.cmp .ne (.ix (.pk 0) (.n 0)) (.lst [])) [.asg (.nm 2) (.ix (.ix (.pk 0) (.n 0)) (.bin .mod (.f1 .int (.pk 1)) (.f1 .len (.ix (.pk 0) (.n 0)))))] [],
  .ifs (.band [(.cmp .lt (.pk 1) (.f1 .len (.ix (.pk 0) (.n 0)))), (.cmp .ge (.pk 2) (.bin .pow (.n 10) (.n 18)))]) [.ret (.mv 2)] [],
  .asg (.nm 3) (.bin .mod (.f1 .int (.bin .add (.bin .add (.bin .mod (.f1 .int (.pk 2)) (.n 2147483587)) (.bin .mul (.pk 1) (.n 30103))) (.n 79))) (.n 2147483587)),
  .asg (.nm 4) (.bin .mod (.f1 .int (.bin .add (.bin .add (.bin .mul (.pk 3) (.pk 3)) (.bin .mul (.pk 1) (.n 70039))) (.n 61))) (.n 2147483563)),
  .asg (.nm 5) (.bin .mod (.f1 .int (.bin .add (.bin .add (.bin .mul (.pk 4) (.pk 4)) (.pk 3)) (.bin .mul (.bin .mul (.pk 1) (.pk 1)) (.n 37)))) (.n 2147483549)),
  .ret (.bin .add (.bin .mul (.bin .add (.bin .mul (.pk 5) (.n 2147483587)) (.pk 4)) (.n 2147483563)) (.pk 3))]⟩
def fDraw (jn : Nat) : Fn := ⟨2, 3, [.ifs (.cmp .lt (.ix (.pk 0) (.n 2)) (.pk 1)) [.seti (.pk 0) (.n 2) (.call jn [(.var 0)])] [],
  .asg (.nm 2) (.bin .mod (.f1 .int (.ix (.pk 0) (.n 2))) (.pk 1)),
  .seti (.pk 0) (.n 2) (.bin .fdiv (.ix (.pk 0) (.n 2)) (.pk 1)),
  .ret (.mv 2)]⟩
def Pen (cs : List Int) (i r : Int) : D := .lst [.lst (cs.map .int), .int i, .int r]
theorem bind_ok' {α β : Type} (a : α) (f : α → Out β) : (Out.ok a).bind f = f a := rfl
theorem of_some' {α : Type} (a : α) : Out.of (some a) = .ok a := rfl
theorem okE_ints : ∀ (n : Nat) (cs : List Int), D.okEL n (cs.map .int) = true
  | n, [] => by simp [D.okEL]
  | n, c :: cs => by simp [D.okEL, D.okE, okE_ints n cs]
theorem get_ints {cs : List Int} {k : Nat} (h : k < cs.length) : ∃ c, (cs.map D.int)[k]? = some (.int c) := ⟨cs[k], by simp [h]⟩
section
variable {I : Info} {n : Nat} {s : Cells} {cs : List Int} {i r : Int}
/-- the first statements: the index is taken and moved on -/
theorem next1 (hs : s[n]? = some (some (Pen cs i r))) (x2 x3 x4 x5 : Slot) :
    exB I (fNext.body.take 2) ⟨[some (false, .ref n), none, x2, x3, x4, x5], s⟩ = .ok (.nx, ⟨[some (false, .ref n), some (false, .int i), x2, x3, x4, x5], setNth n (some (Pen cs (i + 1) r)) s⟩) := by
  simp [Out.bind, Out.of, fNext, exB, exS, ev, two, opd, rdo, slotAt, top, hs, Pen, ixD, seqIx, ans, asgO, setSlot, setNth, kBin, binD, lvGet, setD, setCell, isMutD]
/-- the last statements: three numbers are mixed -/
theorem next3 (h0 : 0 ≤ i) (h1 : i < 9000000000000000000) (c : Int) (x3 x4 x5 : Slot) :
    ∃ v st, 0 ≤ v ∧ exB I (fNext.body.drop 5) ⟨[some (false, .ref n), some (false, .int i), some (false, .int c), x3, x4, x5], s⟩ = .ok (.rt (.int v) false, ⟨st, s⟩) := by
  have g1 : i.natAbs < 18446744073709551616 := by omega
  have ms : ∀ a p : Int, 0 < p → 0 ≤ a % p ∧ a % p < p := fun a p h => ⟨Int.emod_nonneg _ (by omega), Int.emod_lt_of_pos _ h⟩
  obtain ⟨a, ha⟩ : ∃ a, a = (c % 2147483587 + i * 30103 + 79) % 2147483587 := ⟨_, rfl⟩
  obtain ⟨b, hb⟩ : ∃ b, b = (a * a + i * 70039 + 61) % 2147483563 := ⟨_, rfl⟩
  obtain ⟨d, hd⟩ : ∃ d, d = (b * b + a + i * i * 37) % 2147483549 := ⟨_, rfl⟩
  have ba := ms (c % 2147483587 + i * 30103 + 79) 2147483587 (by omega)
  have bb := ms (a * a + i * 70039 + 61) 2147483563 (by omega)
  have bd := ms (b * b + a + i * i * 37) 2147483549 (by omega)
  rw [← ha] at ba
  rw [← hb] at bb
  rw [← hd] at bd
  have g2 : a.natAbs < 18446744073709551616 := by omega
  have g3 : b.natAbs < 18446744073709551616 := by omega
  have g4 : d.natAbs < 18446744073709551616 := by omega
  refine ⟨(d * 2147483587 + b) * 2147483563 + a, [some (false, .ref n), some (false, .int i), some (false, .int c), some (false, .int a), some (false, .int b), some (false, .int d)], by omega, ?_⟩
  simp [Out.bind, Out.of, fNext, exB, exS, ev, two, one, opd, rdo, slotAt, top, ans, asgO, setSlot, setNth, kBin, binD, f1D, isMutD, g1, g2, g3, g4, ← ha, ← hb, ← hd]
theorem exB_app {I : Info} : ∀ (l1 l2 : List Sm) (st : St), exB I (l1 ++ l2) st = match exB I l1 st with
    | .ok (.nx, st1) => exB I l2 st1
    | x => x
  | [], l2, st => by simp [exB]
  | m :: l1, l2, st => by
    simp only [List.cons_append, exB]
    cases h : exS I m st with
    | ok a =>
      obtain ⟨fl, st1⟩ := a
      cases fl with
      | nx => exact exB_app l1 l2 st1
      | _ => rfl
    | _ => rfl
theorem next2a {i' : Int} (hs : s[n]? = some (some (Pen cs i' r))) (h0 : 0 ≤ i) (hl : cs.length ≤ 60) (x2 x3 x4 x5 : Slot) :
    ∃ c, exB I ((fNext.body.drop 2).take 2) ⟨[some (false, .ref n), some (false, .int i), x2, x3, x4, x5], s⟩ = .ok (.nx, ⟨[some (false, .ref n), some (false, .int i), some (false, .int c), x3, x4, x5], s⟩) := by
  cases cs with
  | nil =>
    refine ⟨i * 1051 + 53, ?_⟩
    simp [Out.bind, Out.of, fNext, exB, exS, ev, evels, two, one, opd, tst, rdo, slotAt, top, ans, asgO, setSlot, setNth, kBin, kCmp, binD, f1D, isMutD, hs, Pen, ixD, seqIx, cmpD, eqTop, D.okE, D.okEL, D.eq, D.eqL, truth]
  | cons a cs =>
    have hp : 0 < ((a :: cs).length : Int) := by simp
    have hm := Int.emod_nonneg i (show ((a :: cs).length : Int) ≠ 0 by omega)
    have hm2 := Int.emod_lt_of_pos i hp
    obtain ⟨c, hc⟩ := get_ints (cs := a :: cs) (k := (i % ((a :: cs).length : Int)).toNat) (by omega)
    refine ⟨c, ?_⟩
    simp only [List.length_cons, List.map_cons] at hp hm hm2 hc
    have ok := okE_ints 63 (a :: cs)
    simp only [List.map_cons] at ok
    have q : i % ((cs.length : Int) + 1) < (cs.length : Int) + 1 := by simpa using hm2
    have q0 : 0 ≤ i % ((cs.length : Int) + 1) := by simpa using hm
    have hc : (D.int a :: List.map D.int cs)[(i % ((cs.length : Int) + 1)).toNat]? = some (D.int c) := by simpa using hc
    have p1 : (0 : Int) < (cs.length : Int) + 1 := by omega
    simp [Out.bind, Out.of, fNext, exB, exS, ev, evels, two, one, opd, tst, rdo, slotAt, top, ans, asgO, setSlot, setNth, kBin, kCmp, binD, f1D, isMutD, hs, Pen, ixD, seqIx, cmpD, eqTop, D.okE, ok, D.okEL, D.eq, D.eqL, truth, lenD, p1, q0, q, hc, okE_ints]
    exact (List.getElem?_eq_some_iff.mp hc).2
theorem next2b {i' c : Int} (hs : s[n]? = some (some (Pen cs i' r))) (x3 x4 x5 : Slot) :
    (exB I ((fNext.body.drop 4).take 1) ⟨[some (false, .ref n), some (false, .int i), some (false, .int c), x3, x4, x5], s⟩ = .ok (.nx, ⟨[some (false, .ref n), some (false, .int i), some (false, .int c), x3, x4, x5], s⟩)) ∨
    (0 ≤ c ∧ exB I ((fNext.body.drop 4).take 1) ⟨[some (false, .ref n), some (false, .int i), some (false, .int c), x3, x4, x5], s⟩ = .ok (.rt (.int c) false, ⟨[some (false, .ref n), some (false, .int i), some (false, .int c), x3, x4, x5], s⟩)) := by
  by_cases h1 : i < (cs.length : Int)
  · by_cases h2 : (1000000000000000000 : Int) ≤ c
    · refine .inr ⟨by omega, ?_⟩
      simp [Out.bind, Out.of, fNext, exB, exS, ev, evels, evAnd, two, one, opd, tst, rdo, slotAt, top, ans, asgO, setSlot, setNth, kBin, kCmp, binD, f1D, isMutD, hs, Pen, ixD, seqIx, cmpD, truth, lenD, cmpI_lt, cmpI_ge, h1, h2]
    · refine .inl ?_
      simp [Out.bind, Out.of, fNext, exB, exS, ev, evels, evAnd, two, one, opd, tst, rdo, slotAt, top, ans, asgO, setSlot, setNth, kBin, kCmp, binD, f1D, isMutD, hs, Pen, ixD, seqIx, cmpD, truth, lenD, cmpI_lt, cmpI_ge, h1, h2]
  · refine .inl ?_
    simp [Out.bind, Out.of, fNext, exB, exS, ev, evels, evAnd, two, one, opd, tst, rdo, slotAt, top, ans, asgO, setSlot, setNth, kBin, kCmp, binD, f1D, isMutD, hs, Pen, ixD, seqIx, cmpD, truth, lenD, cmpI_lt, cmpI_ge, h1]
theorem get_setNth {x : Option D} (h : n < s.length) : (setNth n x s)[n]? = some x := by
  rw [setNth_get]
  simp [h]
theorem lt_of_get (hs : s[n]? = some (some (Pen cs i r))) : n < s.length := (List.getElem?_eq_some_iff.mp hs).1
theorem setNth_twice {x y : Option D} : setNth n y (setNth n x s) = setNth n y s := by
  induction s generalizing n with
  | nil => simp [setNth]
  | cons a s ih => cases n with
    | zero => simp [setNth]
    | succ n => simp [setNth, ih]
theorem next_ok {P : Pg} {jn m : Nat} (hf : P.fns[jn]? = some fNext) (hs : s[n]? = some (some (Pen cs i r))) (h0 : 0 ≤ i) (h1 : i < 9000000000000000000) (hl : cs.length ≤ 60) :
    ∃ v, 0 ≤ v ∧ callN P (m + 1) jn [.ref n] s = .ok ((.int v, false), setNth n (some (Pen cs (i + 1) r)) s) := by
  have hs2 := get_setNth (x := some (Pen cs (i + 1) r)) (lt_of_get hs)
  have e1 := next1 (I := inf P m) hs none none none none
  obtain ⟨c, e2⟩ := next2a (I := inf P m) hs2 h0 hl none none none none
  obtain ⟨v, st, hv, e4⟩ := next3 (I := inf P m) (n := n) (s := setNth n (some (Pen cs (i + 1) r)) s) h0 h1 c none none none
  have split : fNext.body = fNext.body.take 2 ++ ((fNext.body.drop 2).take 2 ++ ((fNext.body.drop 4).take 1 ++ fNext.body.drop 5)) := rfl
  rw [callN_step hf]
  unfold runF
  rw [if_pos (by rfl), split]
  have st0 : (([D.ref n].map (fun d => some (false, d)) ++ List.replicate (fNext.ns - fNext.np) none : List Slot)) = [some (false, .ref n), none, none, none, none, none] := rfl
  rw [st0, exB_app, e1]
  dsimp only
  rw [exB_app, e2]
  dsimp only
  rw [exB_app]
  rcases next2b (I := inf P m) (c := c) (i := i) hs2 none none none with e3 | ⟨hc, e3⟩
  · rw [e3]
    dsimp only
    rw [e4]
    exact ⟨v, hv, rfl⟩
  · rw [e3]
    exact ⟨c, hc, rfl⟩
theorem draw_ok {P : Pg} {jn jd m : Nat} {u : Int} (hf : P.fns[jn]? = some fNext) (hd : P.fns[jd]? = some (fDraw jn)) (hs : s[n]? = some (some (Pen cs i r))) (h0 : 0 ≤ i) (h1 : i < 9000000000000000000) (h2 : 0 ≤ r) (hl : cs.length ≤ 60) (hu : 0 < u) (hu2 : u < 1073741824) :
    ∃ d i' r', 0 ≤ d ∧ d < u ∧ 0 ≤ i' ∧ i' ≤ i + 1 ∧ 0 ≤ r' ∧ callN P (m + 2) jd [.ref n, .int u] s = .ok ((.int d, false), setNth n (some (Pen cs i' r')) s) := by
  obtain ⟨v, hv, en⟩ := next_ok (m := m) hf hs h0 h1 hl
  have hn := lt_of_get hs
  have split : (fDraw jn).body = (fDraw jn).body.take 1 ++ (fDraw jn).body.drop 1 := rfl
  have rest : ∀ (i2 r2 : Int) (s2 : Cells), s2[n]? = some (some (Pen cs i2 r2)) → exB (inf P (m + 1)) ((fDraw jn).body.drop 1) ⟨[some (false, .ref n), some (false, .int u), none], s2⟩ =
      .ok (.rt (.int (r2 % u)) false, ⟨[some (false, .ref n), some (false, .int u), some (false, .int (r2 % u))], setNth n (some (Pen cs i2 (r2 / u))) s2⟩) := fun i2 r2 s2 e2 => by
    simp [Out.bind, Out.of, fDraw, exB, exS, ev, evels, two, one, opd, tst, rdo, slotAt, top, ans, asgO, setSlot, setNth, kBin, binD, f1D, isMutD, e2, Pen, ixD, seqIx, lvGet, setD, setCell, hu, hu2]
  have first : ∃ i2 r2, 0 ≤ i2 ∧ i2 ≤ i + 1 ∧ 0 ≤ r2 ∧ exB (inf P (m + 1)) ((fDraw jn).body.take 1) ⟨[some (false, .ref n), some (false, .int u), none], s⟩ =
      .ok (.nx, ⟨[some (false, .ref n), some (false, .int u), none], setNth n (some (Pen cs i2 r2)) s⟩) := by
    by_cases h : r < u
    · refine ⟨i + 1, v, by omega, by omega, hv, ?_⟩
      have hs2 := get_setNth (x := some (Pen cs (i + 1) r)) hn
      simp only [Pen] at hs en hs2
      have en : (inf P (m + 1)).fn jn [.ref n] s = _ := en
      simp [Out.bind, Out.of, fDraw, exB, exS, ev, evs, two, one, opd, tst, rdo, slotAt, top, ans, asgO, setSlot, setNth, kCmp, isMutD, hs, hs2, Pen, ixD, seqIx, lvGet, setD, setCell, cmpD, cmpI_lt, truth, h, en, callSt, setNth_twice]
    · refine ⟨i, r, by omega, by omega, by omega, ?_⟩
      have same : setNth n (some (Pen cs i r)) s = s := by
        clear en hd hf split rest
        induction s generalizing n with
        | nil => simp [setNth]
        | cons a s ih =>
          cases n with
          | zero => simp at hs; simp [setNth, hs]
          | succ n => simp only [setNth]; rw [ih (by simpa using hs) (by simpa using hn)]
      rw [same]
      simp only [Pen] at hs
      simp [Out.bind, Out.of, fDraw, exB, exS, ev, evs, two, one, opd, tst, rdo, slotAt, top, ans, kCmp, hs, ixD, seqIx, cmpD, cmpI_lt, truth, h]
  obtain ⟨i2, r2, a1, a2, a3, e1⟩ := first
  have hs2 := get_setNth (x := some (Pen cs i2 r2)) hn
  refine ⟨r2 % u, i2, r2 / u, Int.emod_nonneg _ (by omega), Int.emod_lt_of_pos _ hu, a1, a2, Int.ediv_nonneg a3 (by omega), ?_⟩
  rw [callN_step hd]
  unfold runF
  rw [if_pos (by rfl), split]
  have st0 : (([D.ref n, D.int u].map (fun d => some (false, d)) ++ List.replicate ((fDraw jn).ns - (fDraw jn).np) none : List Slot)) = [some (false, .ref n), some (false, .int u), none] := rfl
  rw [st0, exB_app, e1]
  dsimp only
  rw [rest i2 r2 _ hs2]
  dsimp only
  rw [setNth_twice]
end
end Mi

set_option Elab.async false
set_option linter.all false
set_option maxRecDepth 100000
namespace Mi.k33
open PySem PySem.Spec PyProof.Rows L2
def top (i : Nat) : Stmt := PySem.Challenge.pw_rulesmerged_k33_errors.main.body.getD i (.Pass ⟨0, 0, 0, 0⟩)
def clsBody : Stmt → List Stmt
  | .ClassDef _ _ _ b _ _ _ _ _ _ _ => b
  | _ => []
def mem (i j : Nat) : Stmt := (clsBody (top i)).getD j (.Pass ⟨0, 0, 0, 0⟩)
/-- _law_pen -/
def f0 : Fn := ⟨1, 1, [.ret (.cell (.lst [.one (.f1 .list (.sl (.pk 0) none (some (.n 60)))), .one (.n 0), .one (.n 0)]))]⟩
/-- _law_next -/
def f1 : Fn := ⟨1, 6, [.asg (.nm 1) (.ix (.pk 0) (.n 1)),
  .seti (.pk 0) (.n 1) (.bin .add (.pk 1) (.n 1)),
  .asg (.nm 2) (.bin .add (.bin .mul (.pk 1) (.n 1051)) (.n 53)),
  .ifs (.cmp .ne (.ix (.pk 0) (.n 0)) (.lst [])) [.asg (.nm 2) (.ix (.ix (.pk 0) (.n 0)) (.bin .mod (.f1 .int (.pk 1)) (.f1 .len (.ix (.pk 0) (.n 0)))))] [],
  .ifs (.band [(.cmp .lt (.pk 1) (.f1 .len (.ix (.pk 0) (.n 0)))), (.cmp .ge (.pk 2) (.bin .pow (.n 10) (.n 18)))]) [.ret (.mv 2)] [],
  .asg (.nm 3) (.bin .mod (.f1 .int (.bin .add (.bin .add (.bin .mod (.f1 .int (.pk 2)) (.n 2147483587)) (.bin .mul (.pk 1) (.n 30103))) (.n 79))) (.n 2147483587)),
  .asg (.nm 4) (.bin .mod (.f1 .int (.bin .add (.bin .add (.bin .mul (.pk 3) (.pk 3)) (.bin .mul (.pk 1) (.n 70039))) (.n 61))) (.n 2147483563)),
  .asg (.nm 5) (.bin .mod (.f1 .int (.bin .add (.bin .add (.bin .mul (.pk 4) (.pk 4)) (.pk 3)) (.bin .mul (.bin .mul (.pk 1) (.pk 1)) (.n 37)))) (.n 2147483549)),
  .ret (.bin .add (.bin .mul (.bin .add (.bin .mul (.pk 5) (.n 2147483587)) (.pk 4)) (.n 2147483563)) (.pk 3))]⟩
/-- _law_draw -/
def f2 : Fn := ⟨2, 3, [.ifs (.cmp .lt (.ix (.pk 0) (.n 2)) (.pk 1)) [.seti (.pk 0) (.n 2) (.call 1 [(.var 0)])] [],
  .asg (.nm 2) (.bin .mod (.f1 .int (.ix (.pk 0) (.n 2))) (.pk 1)),
  .seti (.pk 0) (.n 2) (.bin .fdiv (.ix (.pk 0) (.n 2)) (.pk 1)),
  .ret (.mv 2)]⟩
/-- _law_of -/
def f3 : Fn := ⟨1, 2, [.asg (.nm 1) (.lst [.one (.isx (.pk 0) 2), .one (.isx (.pk 0) 3), .one (.isx (.pk 0) 4)]),
  .asg (.nm 1) (.bin .add (.pk 1) (.lst [.one (.isx (.pk 0) 5), .one (.isx (.pk 0) 6)])),
  .asg (.nm 1) (.bin .add (.pk 1) (.lst [.one (.isx (.pk 0) 7), .one (.isx (.pk 0) 8)])),
  .asg (.nm 1) (.bin .add (.pk 1) (.lst [.one (.isx (.pk 0) 9), .one (.isx (.pk 0) 10)])),
  .asg (.nm 1) (.bin .add (.pk 1) (.lst [.one (.isx (.pk 0) 11), .one (.isx (.pk 0) 12)])),
  .asg (.nm 1) (.bin .add (.pk 1) (.lst [.one (.isx (.pk 0) 13), .one (.isx (.pk 0) 14)])),
  .asg (.nm 1) (.bin .add (.pk 1) (.lst [.one (.isx (.pk 0) 15), .one (.isx (.pk 0) 16)])),
  .asg (.nm 1) (.bin .add (.pk 1) (.lst [.one (.isx (.pk 0) 17), .one (.isx (.pk 0) 18)])),
  .asg (.nm 1) (.bin .add (.pk 1) (.lst [.one (.isx (.pk 0) 19), .one (.isx (.pk 0) 20)])),
  .asg (.nm 1) (.bin .add (.pk 1) (.lst [.one (.isx (.pk 0) 21), .one (.isx (.pk 0) 22)])),
  .asg (.nm 1) (.bin .add (.pk 1) (.lst [.one (.isx (.pk 0) 23), .one (.isx (.pk 0) 24), .one (.isx (.pk 0) 1)])),
  .asg (.nm 1) (.bin .add (.pk 1) (.lst [.one (.isx (.pk 0) 25), .one (.isx (.pk 0) 26)])),
  .asg (.nm 1) (.bin .add (.pk 1) (.lst [.one (.isx (.pk 0) 27), .one (.isx (.pk 0) 28)])),
  .ret (.bin .add (.pk 1) (.lst [.one (.isx (.pk 0) 29), .one (.isx (.pk 0) 30)]))]⟩
/-- _law_errors -/
def f4 : Fn := ⟨2, 3, [.asg (.nm 2) (.lst [.one (.mkx 2 (.var 0)), .one (.mkx 3 (.var 0)), .one (.mkx 4 (.var 0)), .one (.mkx 5 (.var 0)), .one (.mkx 6 (.var 0))]),
  .asg (.nm 2) (.bin .add (.pk 2) (.lst [.one (.mkx 7 (.var 0)), .one (.mkx 8 (.var 0)), .one (.mkx 9 (.var 0)), .one (.mkx 10 (.var 0))])),
  .asg (.nm 2) (.bin .add (.pk 2) (.lst [.one (.mkx 11 (.var 0)), .one (.mkx 12 (.var 0)), .one (.mkx 13 (.var 0)), .one (.mkx 14 (.var 0))])),
  .asg (.nm 2) (.bin .add (.pk 2) (.lst [.one (.mkx 15 (.var 0)), .one (.mkx 16 (.var 0)), .one (.mkx 17 (.var 0)), .one (.mkx 18 (.var 0))])),
  .asg (.nm 2) (.bin .add (.pk 2) (.lst [.one (.mkx 19 (.var 0)), .one (.mkx 20 (.var 0)), .one (.mkx 21 (.var 0)), .one (.mkx 22 (.var 0))])),
  .asg (.nm 2) (.bin .add (.pk 2) (.lst [.one (.mkx 23 (.var 0)), .one (.mkx 24 (.var 0)), .one (.mkp 1 (.var 1)), .one (.mkx 25 (.var 0)), .one (.mkx 26 (.var 0))])),
  .ret (.bin .add (.pk 2) (.lst [.one (.mkx 27 (.var 0)), .one (.mkx 28 (.var 0)), .one (.mkx 29 (.var 0)), .one (.mkx 30 (.var 0))]))]⟩
/-- law -/
def f5 : Fn := ⟨1, 8, [.asg (.nm 1) (.call 0 [(.var 0)]),
  .for_ (.nm 2) (.rg1 (.n 3)) [.asg (.nm 3) (.ix (.lst [.one (.s []), .one (.s [110, 111]), .one (.s [115, 111, 109, 101, 32, 119, 111, 114, 100, 115]), .one (.s [48])]) (.call 2 [(.var 1), (.n 4)])),
  .asg (.nm 4) (.ix (.lst [.one (.n 0), .one (.n 2), .one (.n 9), .one (.bin .pow (.n 10) (.n 20))]) (.call 2 [(.var 1), (.n 4)])),
  .asg (.nm 5) (.call 4 [(.var 3), (.var 4)]),
  .for_ (.nm 6) (.rg1 (.f1 .len (.pk 5))) [.ifs (.cmp .ne (.call 3 [(.ix (.pk 5) (.pk 6))]) (.lc [7] [(.mk (.nm 7) (.rg1 (.f1 .len (.pk 5))) [])] (.cmp .eq (.pk 7) (.pk 6)))) [.ret (.tt false)] [],
  .ifs (.bor [(.not (.isx (.ix (.pk 5) (.pk 6)) 0)), (.not (.isv (.ix (.pk 5) (.pk 6))))]) [.ret (.tt false)] []],
  .ifs (.bor [(.cmp .ne (.xline (.ix (.pk 5) (.n 23))) (.pk 4)), (.f1 .any (.call 3 [(.mkx 0 (.var 3))]))]) [.ret (.tt false)] []],
  .ret (.tt true)]⟩
def fns : List Fn := [f0, f1, f2, f3, f4, f5]
def gls : List D := []
def mts : List (List (Nat × Nat)) := []
def ini : List (Option Nat) := []
def sub : List (List Nat) := [[0], [1, 0], [2, 0], [3, 0], [4, 0], [5, 0], [6, 0], [7, 0], [8, 0], [9, 0], [10, 0], [11, 0], [12, 0], [13, 0], [14, 0], [15, 0], [16, 0], [17, 0], [18, 0], [19, 0], [20, 0], [21, 0], [22, 0], [23, 0], [24, 0], [25, 0], [26, 0], [27, 0], [28, 0], [29, 0], [30, 0]]
def pg : Pg := ⟨fns, gls, mts, ini, sub, 100000⟩
def tb : Tb := ⟨[some ("_law_pen", 1), some ("_law_next", 1), some ("_law_draw", 2), some ("_law_of", 1), some ("_law_errors", 2), some ("law", 1)], ["list", "int", "len", "isinstance", "range", "ValueError", "any"], [], ["ApartError", "ParseError", "BookBroken", "DuplicateName", "InvalidBook", "InvalidCase", "InvalidCondition", "InvalidCopies", "InvalidCopy", "InvalidHeld", "InvalidHistory", "InvalidKinds", "InvalidLets", "InvalidLine", "InvalidMeeting", "InvalidName", "InvalidNames", "InvalidNumber", "InvalidRows", "InvalidSchema", "InvalidScript", "InvalidWays", "MergeBroken", "NotLet", "NothingToUndo", "UnknownColumn", "UnknownCopy", "UnknownFlag", "UnknownRow", "UnknownStore", "UnknownTable"], [true, false, true, true, true, true, true, true, true, true, true, true, true, true, true, true, true, true, true, true, true, true, true, true, true, true, true, true, true, true, true]⟩
abbrev Tq (C : Cv) (N : List Str) (q : Str) (sc : Scope) : Prop := Tx C.Y C.M pg tb C.n (cxv C N q sc) C.W
abbrev N0 : List Str := ["script"]
theorem sc0 : FnScope N0 ["script"] (defScope (top 33)) := ⟨rfl, rfl, rfl, by decide +kernel, rfl, by decide +kernel, by decide +kernel⟩
theorem b0 (C : Cv) (T : Tq C N0 "_law_pen" (defScope (top 33))) : SSs C.Y C.W (cxv C N0 "_law_pen" (defScope (top 33))) (defBody (top 33)) (exB (inf pg C.n) f0.body) :=
  let nd := sc0.nd
  (ss_cons (ss_ret (se_cell (se_lst (sel_one (se_list T.hK T.calm (SO.of (se_sl T.hK (so_pk (i := 0) rfl (vis rfl) rfl rfl) sp_none (sp_some (SO.of se_n (fun _ h => nomatch h)))) (fun _ h => nomatch h)) rfl rfl (T.fr 0 rfl)) (sel_one se_n (sel_one se_n sel_nil rfl) rfl) rfl))))
  ss_nil)
abbrev N1 : List Str := ["pen", "index", "cell_here", "some", "more", "high"]
theorem sc1 : FnScope N1 ["pen"] (defScope (top 34)) := ⟨rfl, rfl, rfl, by decide +kernel, rfl, by decide +kernel, by decide +kernel⟩
theorem b1 (C : Cv) (T : Tq C N1 "_law_next" (defScope (top 34))) : SSs C.Y C.W (cxv C N1 "_law_next" (defScope (top 34))) (defBody (top 34)) (exB (inf pg C.n) f1.body) :=
  let nd := sc1.nd
  (ss_cons (ss_set (i := 1) nd rfl (loc rfl) (se_ix T.hK T.u1 (so_pk (i := 0) rfl (vis rfl) rfl rfl) (SO.of se_n (fun _ h => nomatch h)) (fun _ _ => rfl)) rfl (.inl rfl))
  (ss_cons (ss_seti T.u1 (so_pk (i := 0) rfl (vis rfl) rfl rfl) (SO.of se_n (fun _ h => nomatch h)) (se_bin' (o := .add) T.hK (so_pk (i := 1) rfl (vis rfl) rfl rfl) (SO.of se_n (fun _ h => nomatch h))) (fun _ => rfl) rfl rfl rfl)
  (ss_cons (ss_set (i := 2) nd rfl (loc rfl) (se_bin' (o := .add) T.hK (SO.of (se_bin' (o := .mul) T.hK (so_pk (i := 1) rfl (vis rfl) rfl rfl) (SO.of se_n (fun _ h => nomatch h))) (fun _ h => nomatch h)) (SO.of se_n (fun _ h => nomatch h))) rfl (.inl rfl))
  (ss_cons (ss_if (sb_cmp (o := .ne) T.hK T.u66 T.dc rfl (SO.of (se_ix T.hK T.u1 (so_pk (i := 0) rfl (vis rfl) rfl rfl) (SO.of se_n (fun _ h => nomatch h)) (fun _ _ => rfl)) (fun _ h => nomatch h)) (SO.of (se_lst sel_nil) (fun _ h => nomatch h))) (ss_cons (ss_set (i := 2) nd rfl (loc rfl) (se_ix T.hK T.u1 (SO.of (se_ix T.hK T.u1 (so_pk (i := 0) rfl (vis rfl) rfl rfl) (SO.of se_n (fun _ h => nomatch h)) (fun _ _ => rfl)) (fun _ h => nomatch h)) (SO.of (se_bin' (o := .mod) T.hK (SO.of (se_int' T.hK (so_pk (i := 1) rfl (vis rfl) rfl rfl) rfl rfl (T.fr 1 rfl)) (fun _ h => nomatch h)) (SO.of (se_len T.hK (SO.of (se_ix T.hK T.u1 (so_pk (i := 0) rfl (vis rfl) rfl rfl) (SO.of se_n (fun _ h => nomatch h)) (fun _ _ => rfl)) (fun _ h => nomatch h)) rfl rfl (T.fr 2 rfl)) (fun _ h => nomatch h))) (fun _ h => nomatch h)) (fun _ _ => rfl)) rfl (.inl rfl))
  ss_nil) ss_nil)
  (ss_cons (ss_if (sb_and (sand_cons (sb_cmp (o := .lt) T.hK T.u66 T.dc rfl (so_pk (i := 1) rfl (vis rfl) rfl rfl) (SO.of (se_len T.hK (SO.of (se_ix T.hK T.u1 (so_pk (i := 0) rfl (vis rfl) rfl rfl) (SO.of se_n (fun _ h => nomatch h)) (fun _ _ => rfl)) (fun _ h => nomatch h)) rfl rfl (T.fr 2 rfl)) (fun _ h => nomatch h))) (sand_one (sb_cmp (o := .ge) T.hK T.u66 T.dc rfl (so_pk (i := 2) rfl (vis rfl) rfl rfl) (SO.of (se_bin' (o := .pow) T.hK (SO.of se_n (fun _ h => nomatch h)) (SO.of se_n (fun _ h => nomatch h))) (fun _ h => nomatch h)))))) (ss_cons (ss_ret (se_mv (i := 2) rfl (vis rfl) rfl rfl))
  ss_nil) ss_nil)
  (ss_cons (ss_set (i := 3) nd rfl (loc rfl) (se_bin' (o := .mod) T.hK (SO.of (se_int' T.hK (SO.of (se_bin' (o := .add) T.hK (SO.of (se_bin' (o := .add) T.hK (SO.of (se_bin' (o := .mod) T.hK (SO.of (se_int' T.hK (so_pk (i := 2) rfl (vis rfl) rfl rfl) rfl rfl (T.fr 1 rfl)) (fun _ h => nomatch h)) (SO.of se_n (fun _ h => nomatch h))) (fun _ h => nomatch h)) (SO.of (se_bin' (o := .mul) T.hK (so_pk (i := 1) rfl (vis rfl) rfl rfl) (SO.of se_n (fun _ h => nomatch h))) (fun _ h => nomatch h))) (fun _ h => nomatch h)) (SO.of se_n (fun _ h => nomatch h))) (fun _ h => nomatch h)) rfl rfl (T.fr 1 rfl)) (fun _ h => nomatch h)) (SO.of se_n (fun _ h => nomatch h))) rfl (.inl rfl))
  (ss_cons (ss_set (i := 4) nd rfl (loc rfl) (se_bin' (o := .mod) T.hK (SO.of (se_int' T.hK (SO.of (se_bin' (o := .add) T.hK (SO.of (se_bin' (o := .add) T.hK (SO.of (se_bin' (o := .mul) T.hK (so_pk (i := 3) rfl (vis rfl) rfl rfl) (so_pk (i := 3) rfl (vis rfl) rfl rfl)) (fun _ h => nomatch h)) (SO.of (se_bin' (o := .mul) T.hK (so_pk (i := 1) rfl (vis rfl) rfl rfl) (SO.of se_n (fun _ h => nomatch h))) (fun _ h => nomatch h))) (fun _ h => nomatch h)) (SO.of se_n (fun _ h => nomatch h))) (fun _ h => nomatch h)) rfl rfl (T.fr 1 rfl)) (fun _ h => nomatch h)) (SO.of se_n (fun _ h => nomatch h))) rfl (.inl rfl))
  (ss_cons (ss_set (i := 5) nd rfl (loc rfl) (se_bin' (o := .mod) T.hK (SO.of (se_int' T.hK (SO.of (se_bin' (o := .add) T.hK (SO.of (se_bin' (o := .add) T.hK (SO.of (se_bin' (o := .mul) T.hK (so_pk (i := 4) rfl (vis rfl) rfl rfl) (so_pk (i := 4) rfl (vis rfl) rfl rfl)) (fun _ h => nomatch h)) (so_pk (i := 3) rfl (vis rfl) rfl rfl)) (fun _ h => nomatch h)) (SO.of (se_bin' (o := .mul) T.hK (SO.of (se_bin' (o := .mul) T.hK (so_pk (i := 1) rfl (vis rfl) rfl rfl) (so_pk (i := 1) rfl (vis rfl) rfl rfl)) (fun _ h => nomatch h)) (SO.of se_n (fun _ h => nomatch h))) (fun _ h => nomatch h))) (fun _ h => nomatch h)) rfl rfl (T.fr 1 rfl)) (fun _ h => nomatch h)) (SO.of se_n (fun _ h => nomatch h))) rfl (.inl rfl))
  (ss_cons (ss_ret (se_bin' (o := .add) T.hK (SO.of (se_bin' (o := .mul) T.hK (SO.of (se_bin' (o := .add) T.hK (SO.of (se_bin' (o := .mul) T.hK (so_pk (i := 5) rfl (vis rfl) rfl rfl) (SO.of se_n (fun _ h => nomatch h))) (fun _ h => nomatch h)) (so_pk (i := 4) rfl (vis rfl) rfl rfl)) (fun _ h => nomatch h)) (SO.of se_n (fun _ h => nomatch h))) (fun _ h => nomatch h)) (so_pk (i := 3) rfl (vis rfl) rfl rfl)))
  ss_nil)))))))))
abbrev N2 : List Str := ["pen", "under", "digit"]
theorem sc2 : FnScope N2 ["pen", "under"] (defScope (top 35)) := ⟨rfl, rfl, rfl, by decide +kernel, rfl, by decide +kernel, by decide +kernel⟩
theorem b2 (C : Cv) (T : Tq C N2 "_law_draw" (defScope (top 35))) : SSs C.Y C.W (cxv C N2 "_law_draw" (defScope (top 35))) (defBody (top 35)) (exB (inf pg C.n) f2.body) :=
  let nd := sc2.nd
  (ss_cons (ss_if (sb_cmp (o := .lt) T.hK T.u66 T.dc rfl (SO.of (se_ix T.hK T.u1 (so_pk (i := 0) rfl (vis rfl) rfl rfl) (SO.of se_n (fun _ h => nomatch h)) (fun _ _ => rfl)) (fun _ h => nomatch h)) (so_pk (i := 1) rfl (vis rfl) rfl rfl)) (ss_cons (ss_seti T.u1 (so_pk (i := 0) rfl (vis rfl) rfl rfl) (SO.of se_n (fun _ h => nomatch h)) (se_call T.tk (T.def_ 1 rfl rfl rfl) (sl_cons (se_var (i := 0) rfl (vis rfl) rfl rfl) sl_nil rfl) rfl rfl rfl) (fun _ => rfl) rfl rfl rfl)
  ss_nil) ss_nil)
  (ss_cons (ss_set (i := 2) nd rfl (loc rfl) (se_bin' (o := .mod) T.hK (SO.of (se_int' T.hK (SO.of (se_ix T.hK T.u1 (so_pk (i := 0) rfl (vis rfl) rfl rfl) (SO.of se_n (fun _ h => nomatch h)) (fun _ _ => rfl)) (fun _ h => nomatch h)) rfl rfl (T.fr 1 rfl)) (fun _ h => nomatch h)) (so_pk (i := 1) rfl (vis rfl) rfl rfl)) rfl (.inl rfl))
  (ss_cons (ss_seti T.u1 (so_pk (i := 0) rfl (vis rfl) rfl rfl) (SO.of se_n (fun _ h => nomatch h)) (se_bin' (o := .fdiv) T.hK (SO.of (se_ix T.hK T.u1 (so_pk (i := 0) rfl (vis rfl) rfl rfl) (SO.of se_n (fun _ h => nomatch h)) (fun _ _ => rfl)) (fun _ h => nomatch h)) (so_pk (i := 1) rfl (vis rfl) rfl rfl)) (fun _ => rfl) rfl rfl rfl)
  (ss_cons (ss_ret (se_mv (i := 2) rfl (vis rfl) rfl rfl))
  ss_nil))))
abbrev N3 : List Str := ["caught", "found"]
theorem sc3 : FnScope N3 ["caught"] (defScope (top 36)) := ⟨rfl, rfl, rfl, by decide +kernel, rfl, by decide +kernel, by decide +kernel⟩
theorem b3 (C : Cv) (T : Tq C N3 "_law_of" (defScope (top 36))) : SSs C.Y C.W (cxv C N3 "_law_of" (defScope (top 36))) (defBody (top 36)) (exB (inf pg C.n) f3.body) :=
  let nd := sc3.nd
  (ss_cons (ss_set (i := 1) nd rfl (loc rfl) (se_lst (sel_one (se_isx T.hK (T.ex 2 rfl rfl rfl) T.xs rfl (so_pk (i := 0) rfl (vis rfl) rfl rfl) rfl (T.fr 3 rfl) rfl) (sel_one (se_isx T.hK (T.ex 3 rfl rfl rfl) T.xs rfl (so_pk (i := 0) rfl (vis rfl) rfl rfl) rfl (T.fr 3 rfl) rfl) (sel_one (se_isx T.hK (T.ex 4 rfl rfl rfl) T.xs rfl (so_pk (i := 0) rfl (vis rfl) rfl rfl) rfl (T.fr 3 rfl) rfl) sel_nil rfl) rfl) rfl)) rfl (.inl rfl))
  (ss_cons (ss_set (i := 1) nd rfl (loc rfl) (se_bin' (o := .add) T.hK (so_pk (i := 1) rfl (vis rfl) rfl rfl) (SO.of (se_lst (sel_one (se_isx T.hK (T.ex 5 rfl rfl rfl) T.xs rfl (so_pk (i := 0) rfl (vis rfl) rfl rfl) rfl (T.fr 3 rfl) rfl) (sel_one (se_isx T.hK (T.ex 6 rfl rfl rfl) T.xs rfl (so_pk (i := 0) rfl (vis rfl) rfl rfl) rfl (T.fr 3 rfl) rfl) sel_nil rfl) rfl)) (fun _ h => nomatch h))) rfl (.inl rfl))
  (ss_cons (ss_set (i := 1) nd rfl (loc rfl) (se_bin' (o := .add) T.hK (so_pk (i := 1) rfl (vis rfl) rfl rfl) (SO.of (se_lst (sel_one (se_isx T.hK (T.ex 7 rfl rfl rfl) T.xs rfl (so_pk (i := 0) rfl (vis rfl) rfl rfl) rfl (T.fr 3 rfl) rfl) (sel_one (se_isx T.hK (T.ex 8 rfl rfl rfl) T.xs rfl (so_pk (i := 0) rfl (vis rfl) rfl rfl) rfl (T.fr 3 rfl) rfl) sel_nil rfl) rfl)) (fun _ h => nomatch h))) rfl (.inl rfl))
  (ss_cons (ss_set (i := 1) nd rfl (loc rfl) (se_bin' (o := .add) T.hK (so_pk (i := 1) rfl (vis rfl) rfl rfl) (SO.of (se_lst (sel_one (se_isx T.hK (T.ex 9 rfl rfl rfl) T.xs rfl (so_pk (i := 0) rfl (vis rfl) rfl rfl) rfl (T.fr 3 rfl) rfl) (sel_one (se_isx T.hK (T.ex 10 rfl rfl rfl) T.xs rfl (so_pk (i := 0) rfl (vis rfl) rfl rfl) rfl (T.fr 3 rfl) rfl) sel_nil rfl) rfl)) (fun _ h => nomatch h))) rfl (.inl rfl))
  (ss_cons (ss_set (i := 1) nd rfl (loc rfl) (se_bin' (o := .add) T.hK (so_pk (i := 1) rfl (vis rfl) rfl rfl) (SO.of (se_lst (sel_one (se_isx T.hK (T.ex 11 rfl rfl rfl) T.xs rfl (so_pk (i := 0) rfl (vis rfl) rfl rfl) rfl (T.fr 3 rfl) rfl) (sel_one (se_isx T.hK (T.ex 12 rfl rfl rfl) T.xs rfl (so_pk (i := 0) rfl (vis rfl) rfl rfl) rfl (T.fr 3 rfl) rfl) sel_nil rfl) rfl)) (fun _ h => nomatch h))) rfl (.inl rfl))
  (ss_cons (ss_set (i := 1) nd rfl (loc rfl) (se_bin' (o := .add) T.hK (so_pk (i := 1) rfl (vis rfl) rfl rfl) (SO.of (se_lst (sel_one (se_isx T.hK (T.ex 13 rfl rfl rfl) T.xs rfl (so_pk (i := 0) rfl (vis rfl) rfl rfl) rfl (T.fr 3 rfl) rfl) (sel_one (se_isx T.hK (T.ex 14 rfl rfl rfl) T.xs rfl (so_pk (i := 0) rfl (vis rfl) rfl rfl) rfl (T.fr 3 rfl) rfl) sel_nil rfl) rfl)) (fun _ h => nomatch h))) rfl (.inl rfl))
  (ss_cons (ss_set (i := 1) nd rfl (loc rfl) (se_bin' (o := .add) T.hK (so_pk (i := 1) rfl (vis rfl) rfl rfl) (SO.of (se_lst (sel_one (se_isx T.hK (T.ex 15 rfl rfl rfl) T.xs rfl (so_pk (i := 0) rfl (vis rfl) rfl rfl) rfl (T.fr 3 rfl) rfl) (sel_one (se_isx T.hK (T.ex 16 rfl rfl rfl) T.xs rfl (so_pk (i := 0) rfl (vis rfl) rfl rfl) rfl (T.fr 3 rfl) rfl) sel_nil rfl) rfl)) (fun _ h => nomatch h))) rfl (.inl rfl))
  (ss_cons (ss_set (i := 1) nd rfl (loc rfl) (se_bin' (o := .add) T.hK (so_pk (i := 1) rfl (vis rfl) rfl rfl) (SO.of (se_lst (sel_one (se_isx T.hK (T.ex 17 rfl rfl rfl) T.xs rfl (so_pk (i := 0) rfl (vis rfl) rfl rfl) rfl (T.fr 3 rfl) rfl) (sel_one (se_isx T.hK (T.ex 18 rfl rfl rfl) T.xs rfl (so_pk (i := 0) rfl (vis rfl) rfl rfl) rfl (T.fr 3 rfl) rfl) sel_nil rfl) rfl)) (fun _ h => nomatch h))) rfl (.inl rfl))
  (ss_cons (ss_set (i := 1) nd rfl (loc rfl) (se_bin' (o := .add) T.hK (so_pk (i := 1) rfl (vis rfl) rfl rfl) (SO.of (se_lst (sel_one (se_isx T.hK (T.ex 19 rfl rfl rfl) T.xs rfl (so_pk (i := 0) rfl (vis rfl) rfl rfl) rfl (T.fr 3 rfl) rfl) (sel_one (se_isx T.hK (T.ex 20 rfl rfl rfl) T.xs rfl (so_pk (i := 0) rfl (vis rfl) rfl rfl) rfl (T.fr 3 rfl) rfl) sel_nil rfl) rfl)) (fun _ h => nomatch h))) rfl (.inl rfl))
  (ss_cons (ss_set (i := 1) nd rfl (loc rfl) (se_bin' (o := .add) T.hK (so_pk (i := 1) rfl (vis rfl) rfl rfl) (SO.of (se_lst (sel_one (se_isx T.hK (T.ex 21 rfl rfl rfl) T.xs rfl (so_pk (i := 0) rfl (vis rfl) rfl rfl) rfl (T.fr 3 rfl) rfl) (sel_one (se_isx T.hK (T.ex 22 rfl rfl rfl) T.xs rfl (so_pk (i := 0) rfl (vis rfl) rfl rfl) rfl (T.fr 3 rfl) rfl) sel_nil rfl) rfl)) (fun _ h => nomatch h))) rfl (.inl rfl))
  (ss_cons (ss_set (i := 1) nd rfl (loc rfl) (se_bin' (o := .add) T.hK (so_pk (i := 1) rfl (vis rfl) rfl rfl) (SO.of (se_lst (sel_one (se_isx T.hK (T.ex 23 rfl rfl rfl) T.xs rfl (so_pk (i := 0) rfl (vis rfl) rfl rfl) rfl (T.fr 3 rfl) rfl) (sel_one (se_isx T.hK (T.ex 24 rfl rfl rfl) T.xs rfl (so_pk (i := 0) rfl (vis rfl) rfl rfl) rfl (T.fr 3 rfl) rfl) (sel_one (se_isx T.hK (T.ex 1 rfl rfl rfl) T.xs rfl (so_pk (i := 0) rfl (vis rfl) rfl rfl) rfl (T.fr 3 rfl) rfl) sel_nil rfl) rfl) rfl)) (fun _ h => nomatch h))) rfl (.inl rfl))
  (ss_cons (ss_set (i := 1) nd rfl (loc rfl) (se_bin' (o := .add) T.hK (so_pk (i := 1) rfl (vis rfl) rfl rfl) (SO.of (se_lst (sel_one (se_isx T.hK (T.ex 25 rfl rfl rfl) T.xs rfl (so_pk (i := 0) rfl (vis rfl) rfl rfl) rfl (T.fr 3 rfl) rfl) (sel_one (se_isx T.hK (T.ex 26 rfl rfl rfl) T.xs rfl (so_pk (i := 0) rfl (vis rfl) rfl rfl) rfl (T.fr 3 rfl) rfl) sel_nil rfl) rfl)) (fun _ h => nomatch h))) rfl (.inl rfl))
  (ss_cons (ss_set (i := 1) nd rfl (loc rfl) (se_bin' (o := .add) T.hK (so_pk (i := 1) rfl (vis rfl) rfl rfl) (SO.of (se_lst (sel_one (se_isx T.hK (T.ex 27 rfl rfl rfl) T.xs rfl (so_pk (i := 0) rfl (vis rfl) rfl rfl) rfl (T.fr 3 rfl) rfl) (sel_one (se_isx T.hK (T.ex 28 rfl rfl rfl) T.xs rfl (so_pk (i := 0) rfl (vis rfl) rfl rfl) rfl (T.fr 3 rfl) rfl) sel_nil rfl) rfl)) (fun _ h => nomatch h))) rfl (.inl rfl))
  (ss_cons (ss_ret (se_bin' (o := .add) T.hK (so_pk (i := 1) rfl (vis rfl) rfl rfl) (SO.of (se_lst (sel_one (se_isx T.hK (T.ex 29 rfl rfl rfl) T.xs rfl (so_pk (i := 0) rfl (vis rfl) rfl rfl) rfl (T.fr 3 rfl) rfl) (sel_one (se_isx T.hK (T.ex 30 rfl rfl rfl) T.xs rfl (so_pk (i := 0) rfl (vis rfl) rfl rfl) rfl (T.fr 3 rfl) rfl) sel_nil rfl) rfl)) (fun _ h => nomatch h))))
  ss_nil))))))))))))))
abbrev N4 : List Str := ["word", "line", "found"]
theorem sc4 : FnScope N4 ["word", "line"] (defScope (top 37)) := ⟨rfl, rfl, rfl, by decide +kernel, rfl, by decide +kernel, by decide +kernel⟩
theorem b4 (C : Cv) (T : Tq C N4 "_law_errors" (defScope (top 37))) : SSs C.Y C.W (cxv C N4 "_law_errors" (defScope (top 37))) (defBody (top 37)) (exB (inf pg C.n) f4.body) :=
  let nd := sc4.nd
  (ss_cons (ss_set (i := 2) nd rfl (loc rfl) (se_lst (sel_one (se_mkx (T.ex 2 rfl rfl rfl) (T.xm 2 rfl) (se_var (i := 0) rfl (vis rfl) rfl rfl) rfl) (sel_one (se_mkx (T.ex 3 rfl rfl rfl) (T.xm 3 rfl) (se_var (i := 0) rfl (vis rfl) rfl rfl) rfl) (sel_one (se_mkx (T.ex 4 rfl rfl rfl) (T.xm 4 rfl) (se_var (i := 0) rfl (vis rfl) rfl rfl) rfl) (sel_one (se_mkx (T.ex 5 rfl rfl rfl) (T.xm 5 rfl) (se_var (i := 0) rfl (vis rfl) rfl rfl) rfl) (sel_one (se_mkx (T.ex 6 rfl rfl rfl) (T.xm 6 rfl) (se_var (i := 0) rfl (vis rfl) rfl rfl) rfl) sel_nil rfl) rfl) rfl) rfl) rfl)) rfl (.inl rfl))
  (ss_cons (ss_set (i := 2) nd rfl (loc rfl) (se_bin' (o := .add) T.hK (so_pk (i := 2) rfl (vis rfl) rfl rfl) (SO.of (se_lst (sel_one (se_mkx (T.ex 7 rfl rfl rfl) (T.xm 7 rfl) (se_var (i := 0) rfl (vis rfl) rfl rfl) rfl) (sel_one (se_mkx (T.ex 8 rfl rfl rfl) (T.xm 8 rfl) (se_var (i := 0) rfl (vis rfl) rfl rfl) rfl) (sel_one (se_mkx (T.ex 9 rfl rfl rfl) (T.xm 9 rfl) (se_var (i := 0) rfl (vis rfl) rfl rfl) rfl) (sel_one (se_mkx (T.ex 10 rfl rfl rfl) (T.xm 10 rfl) (se_var (i := 0) rfl (vis rfl) rfl rfl) rfl) sel_nil rfl) rfl) rfl) rfl)) (fun _ h => nomatch h))) rfl (.inl rfl))
  (ss_cons (ss_set (i := 2) nd rfl (loc rfl) (se_bin' (o := .add) T.hK (so_pk (i := 2) rfl (vis rfl) rfl rfl) (SO.of (se_lst (sel_one (se_mkx (T.ex 11 rfl rfl rfl) (T.xm 11 rfl) (se_var (i := 0) rfl (vis rfl) rfl rfl) rfl) (sel_one (se_mkx (T.ex 12 rfl rfl rfl) (T.xm 12 rfl) (se_var (i := 0) rfl (vis rfl) rfl rfl) rfl) (sel_one (se_mkx (T.ex 13 rfl rfl rfl) (T.xm 13 rfl) (se_var (i := 0) rfl (vis rfl) rfl rfl) rfl) (sel_one (se_mkx (T.ex 14 rfl rfl rfl) (T.xm 14 rfl) (se_var (i := 0) rfl (vis rfl) rfl rfl) rfl) sel_nil rfl) rfl) rfl) rfl)) (fun _ h => nomatch h))) rfl (.inl rfl))
  (ss_cons (ss_set (i := 2) nd rfl (loc rfl) (se_bin' (o := .add) T.hK (so_pk (i := 2) rfl (vis rfl) rfl rfl) (SO.of (se_lst (sel_one (se_mkx (T.ex 15 rfl rfl rfl) (T.xm 15 rfl) (se_var (i := 0) rfl (vis rfl) rfl rfl) rfl) (sel_one (se_mkx (T.ex 16 rfl rfl rfl) (T.xm 16 rfl) (se_var (i := 0) rfl (vis rfl) rfl rfl) rfl) (sel_one (se_mkx (T.ex 17 rfl rfl rfl) (T.xm 17 rfl) (se_var (i := 0) rfl (vis rfl) rfl rfl) rfl) (sel_one (se_mkx (T.ex 18 rfl rfl rfl) (T.xm 18 rfl) (se_var (i := 0) rfl (vis rfl) rfl rfl) rfl) sel_nil rfl) rfl) rfl) rfl)) (fun _ h => nomatch h))) rfl (.inl rfl))
  (ss_cons (ss_set (i := 2) nd rfl (loc rfl) (se_bin' (o := .add) T.hK (so_pk (i := 2) rfl (vis rfl) rfl rfl) (SO.of (se_lst (sel_one (se_mkx (T.ex 19 rfl rfl rfl) (T.xm 19 rfl) (se_var (i := 0) rfl (vis rfl) rfl rfl) rfl) (sel_one (se_mkx (T.ex 20 rfl rfl rfl) (T.xm 20 rfl) (se_var (i := 0) rfl (vis rfl) rfl rfl) rfl) (sel_one (se_mkx (T.ex 21 rfl rfl rfl) (T.xm 21 rfl) (se_var (i := 0) rfl (vis rfl) rfl rfl) rfl) (sel_one (se_mkx (T.ex 22 rfl rfl rfl) (T.xm 22 rfl) (se_var (i := 0) rfl (vis rfl) rfl rfl) rfl) sel_nil rfl) rfl) rfl) rfl)) (fun _ h => nomatch h))) rfl (.inl rfl))
  (ss_cons (ss_set (i := 2) nd rfl (loc rfl) (se_bin' (o := .add) T.hK (so_pk (i := 2) rfl (vis rfl) rfl rfl) (SO.of (se_lst (sel_one (se_mkx (T.ex 23 rfl rfl rfl) (T.xm 23 rfl) (se_var (i := 0) rfl (vis rfl) rfl rfl) rfl) (sel_one (se_mkx (T.ex 24 rfl rfl rfl) (T.xm 24 rfl) (se_var (i := 0) rfl (vis rfl) rfl rfl) rfl) (sel_one (se_mkp (T.ex 1 rfl rfl rfl) (T.xp 1 rfl) (se_var (i := 1) rfl (vis rfl) rfl rfl) rfl) (sel_one (se_mkx (T.ex 25 rfl rfl rfl) (T.xm 25 rfl) (se_var (i := 0) rfl (vis rfl) rfl rfl) rfl) (sel_one (se_mkx (T.ex 26 rfl rfl rfl) (T.xm 26 rfl) (se_var (i := 0) rfl (vis rfl) rfl rfl) rfl) sel_nil rfl) rfl) rfl) rfl) rfl)) (fun _ h => nomatch h))) rfl (.inl rfl))
  (ss_cons (ss_ret (se_bin' (o := .add) T.hK (so_pk (i := 2) rfl (vis rfl) rfl rfl) (SO.of (se_lst (sel_one (se_mkx (T.ex 27 rfl rfl rfl) (T.xm 27 rfl) (se_var (i := 0) rfl (vis rfl) rfl rfl) rfl) (sel_one (se_mkx (T.ex 28 rfl rfl rfl) (T.xm 28 rfl) (se_var (i := 0) rfl (vis rfl) rfl rfl) rfl) (sel_one (se_mkx (T.ex 29 rfl rfl rfl) (T.xm 29 rfl) (se_var (i := 0) rfl (vis rfl) rfl rfl) rfl) (sel_one (se_mkx (T.ex 30 rfl rfl rfl) (T.xm 30 rfl) (se_var (i := 0) rfl (vis rfl) rfl rfl) rfl) sel_nil rfl) rfl) rfl) rfl)) (fun _ h => nomatch h))))
  ss_nil)))))))
abbrev N5 : List Str := ["script", "pen", "turn", "word", "line", "some", "k", "j"]
theorem sc5 : FnScope N5 ["script"] (defScope (top 38)) := ⟨rfl, rfl, rfl, by decide +kernel, rfl, by decide +kernel, by decide +kernel⟩
theorem b5 (C : Cv) (T : Tq C N5 "law" (defScope (top 38))) : SSs C.Y C.W (cxv C N5 "law" (defScope (top 38))) (defBody (top 38)) (exB (inf pg C.n) f5.body) :=
  let nd := sc5.nd
  (ss_cons (ss_set (i := 1) nd rfl (loc rfl) (se_call T.tk (T.def_ 0 rfl rfl rfl) (sl_cons (se_var (i := 0) rfl (vis rfl) rfl rfl) sl_nil rfl) rfl rfl rfl) rfl (.inl rfl))
  (ss_cons (ss_for (passes_of rfl) T.calm (si_rg1 rfl (T.fr 4 rfl) (sl_cons se_n sl_nil rfl) rfl) (sg_nm nd rfl (loc rfl) (hfB rfl)) (ss_cons (ss_set (i := 3) nd rfl (loc rfl) (se_ix T.hK T.u1 (SO.of (se_lst (sel_one (se_s rfl rfl) (sel_one (se_s rfl rfl) (sel_one (se_s rfl rfl) (sel_one (se_s rfl rfl) sel_nil rfl) rfl) rfl) rfl)) (fun _ h => nomatch h)) (SO.of (se_call T.tk (T.def_ 2 rfl rfl rfl) (sl_cons (se_var (i := 1) rfl (vis rfl) rfl rfl) (sl_cons se_n sl_nil rfl) rfl) rfl rfl rfl) (fun _ h => nomatch h)) (fun _ _ => rfl)) rfl (.inl rfl))
  (ss_cons (ss_set (i := 4) nd rfl (loc rfl) (se_ix T.hK T.u1 (SO.of (se_lst (sel_one se_n (sel_one se_n (sel_one se_n (sel_one (se_bin' (o := .pow) T.hK (SO.of se_n (fun _ h => nomatch h)) (SO.of se_n (fun _ h => nomatch h))) sel_nil rfl) rfl) rfl) rfl)) (fun _ h => nomatch h)) (SO.of (se_call T.tk (T.def_ 2 rfl rfl rfl) (sl_cons (se_var (i := 1) rfl (vis rfl) rfl rfl) (sl_cons se_n sl_nil rfl) rfl) rfl rfl rfl) (fun _ h => nomatch h)) (fun _ _ => rfl)) rfl (.inl rfl))
  (ss_cons (ss_set (i := 5) nd rfl (loc rfl) (se_call T.tk (T.def_ 4 rfl rfl rfl) (sl_cons (se_var (i := 3) rfl (vis rfl) rfl rfl) (sl_cons (se_var (i := 4) rfl (vis rfl) rfl rfl) sl_nil rfl) rfl) rfl rfl rfl) rfl (.inl rfl))
  (ss_cons (ss_for (passes_of rfl) T.calm (si_rg1 rfl (T.fr 4 rfl) (sl_cons (se_len T.hK (so_pk (i := 5) rfl (vis rfl) rfl rfl) rfl rfl (T.fr 2 rfl)) sl_nil rfl) rfl) (sg_nm nd rfl (loc rfl) (hfB rfl)) (ss_cons (ss_if (sb_cmp (o := .ne) T.hK T.u66 T.dc rfl (SO.of (se_call T.tk (T.def_ 3 rfl rfl rfl) (sl_cons (se_ix T.hK T.u1 (so_pk (i := 5) rfl (vis rfl) rfl rfl) (so_pk (i := 6) rfl (vis rfl) rfl rfl) (fun _ _ => rfl)) sl_nil rfl) rfl rfl rfl) (fun _ h => nomatch h)) (SO.of (se_lc (own := [("j", 7)]) T.calm nd (si_rg1 rfl (T.fr 4 rfl) (sl_cons (se_len T.hK (so_pk (i := 5) rfl (vis rfl) rfl rfl) rfl rfl (T.fr 2 rfl)) sl_nil rfl) rfl) (blkOk_by rfl) rfl (by decide) (fun s1 H1 C1 cl1 fp1 => (sg_nm nd rfl (loc rfl) (hfB rfl))) (fun s1 H1 C1 cl1 fp1 => pts0) (fun s1 H1 C1 cl1 fp1 => (se_cmp (o := .eq) (T.blk s1 H1 _ _ fp1).hK (T.blk s1 H1 _ _ fp1).u66 (T.blk s1 H1 _ _ fp1).dc rfl (so_pk (i := 7) rfl (vis rfl) rfl rfl) (so_pk (i := 6) rfl (vis rfl) rfl rfl))) (fun _ => rfl)) (fun _ h => nomatch h))) (ss_cons (ss_ret se_tt)
  ss_nil) ss_nil)
  (ss_cons (ss_if (sb_or (sor_cons (sb_not (tst_plain (SO.of (se_isx T.hK (T.ex 0 rfl rfl rfl) T.xs rfl (SO.of (se_ix T.hK T.u1 (so_pk (i := 5) rfl (vis rfl) rfl rfl) (so_pk (i := 6) rfl (vis rfl) rfl rfl) (fun _ _ => rfl)) (fun _ h => nomatch h)) rfl (T.fr 3 rfl) rfl) (fun _ h => nomatch h)) T.hK rfl)) (sor_one (sb_not (tst_plain (SO.of (se_isv T.hK T.xs rfl (SO.of (se_ix T.hK T.u1 (so_pk (i := 5) rfl (vis rfl) rfl rfl) (so_pk (i := 6) rfl (vis rfl) rfl rfl) (fun _ _ => rfl)) (fun _ h => nomatch h)) rfl (T.fr 3 rfl) rfl (T.fr 5 rfl) rfl) (fun _ h => nomatch h)) T.hK rfl))))) (ss_cons (ss_ret se_tt)
  ss_nil) ss_nil)
  ss_nil)) (fun _ => rfl))
  (ss_cons (ss_if (sb_or (sor_cons (sb_cmp (o := .ne) T.hK T.u66 T.dc rfl (SO.of (se_xline T.xl (SO.of (se_ix T.hK T.u1 (so_pk (i := 5) rfl (vis rfl) rfl rfl) (SO.of se_n (fun _ h => nomatch h)) (fun _ _ => rfl)) (fun _ h => nomatch h)) rfl) (fun _ h => nomatch h)) (so_pk (i := 4) rfl (vis rfl) rfl rfl)) (sor_one (tst_plain (SO.of (se_any T.hK T.calm (SO.of (se_call T.tk (T.def_ 3 rfl rfl rfl) (sl_cons (se_mkx (T.ex 0 rfl rfl rfl) (T.xm 0 rfl) (se_var (i := 3) rfl (vis rfl) rfl rfl) rfl) sl_nil rfl) rfl rfl rfl) (fun _ h => nomatch h)) rfl rfl (T.fr 6 rfl)) (fun _ h => nomatch h)) T.hK rfl)))) (ss_cons (ss_ret se_tt)
  ss_nil) ss_nil)
  ss_nil))))) (fun _ => rfl))
  (ss_cons (ss_ret se_tt)
  ss_nil)))
end Mi.k33

set_option Elab.async false
set_option linter.all false
set_option maxRecDepth 100000
set_option maxHeartbeats 0
namespace Mi.k33
open PySem PySem.Spec PyProof.Rows L2
def dF (x : Str) (i : Nat) : He.DefD := ⟨(x, none), x, x, defArgs (top i), defBody (top i), defScope (top i), [], []⟩
def dM (c x q : Str) (i j : Nat) : He.DefD := ⟨(c, some x), x, q, defArgs (mem i j), defBody (mem i j), defScope (mem i j), [], []⟩
def fnL0 : List He.DefD := [dF "_law_pen" 33, dF "_law_next" 34, dF "_law_draw" 35, dF "_law_of" 36, dF "_law_errors" 37, dF "law" 38]
def fnL : List He.DefD := fnL0
def psL0 : List ((Str × Option Str) × FnP) := [(("ParseError", some "__init__"), some ("__init__", "ParseError.__init__", defArgs (mem 2 0), .stmts (defBody (mem 2 0)), defScope (mem 2 0), mainGlobals, ["__class__"], builtinsNs))]
def psL : List ((Str × Option Str) × FnP) := psL0
def exL0 : List Str := ["ApartError", "ParseError", "BookBroken", "DuplicateName", "InvalidBook", "InvalidCase", "InvalidCondition", "InvalidCopies", "InvalidCopy", "InvalidHeld", "InvalidHistory", "InvalidKinds", "InvalidLets", "InvalidLine", "InvalidMeeting", "InvalidName", "InvalidNames", "InvalidNumber", "InvalidRows", "InvalidSchema", "InvalidScript", "InvalidWays", "MergeBroken", "NotLet", "NothingToUndo"]
def exL1 : List Str := ["UnknownColumn", "UnknownCopy", "UnknownFlag", "UnknownRow", "UnknownStore", "UnknownTable"]
def exL : List Str := exL0 ++ exL1
def glL0 : List Str := ["_law_pen", "_law_next", "_law_draw", "_law_of", "_law_errors", "law"]
def glL : List Str := glL0
def frL0 : List Str := ["list", "int", "len", "isinstance", "range", "ValueError", "any"]
def frL : List Str := frL0
def nms0 : List Str := ["ApartError", "ParseError", "BookBroken", "DuplicateName", "InvalidBook", "InvalidCase", "InvalidCondition", "InvalidCopies", "InvalidCopy", "InvalidHeld", "InvalidHistory", "InvalidKinds", "InvalidLets", "InvalidLine", "InvalidMeeting", "InvalidName", "InvalidNames", "InvalidNumber", "InvalidRows", "InvalidSchema", "InvalidScript", "InvalidWays", "MergeBroken", "NotLet", "NothingToUndo"]
def nms1 : List Str := ["UnknownColumn", "UnknownCopy", "UnknownFlag", "UnknownRow", "UnknownStore", "UnknownTable", "_law_pen", "_law_next", "_law_draw", "_law_of", "_law_errors"]
def nms : List Str := nms0 ++ nms1
def okH (K : PySem.W.Frag) : Bool := glL.all (gloB K) && (frL.all (freeB K) && (exL.all (exB1 K) && (exB0 K && ((exL.zip tb.mks).all (fun x => !x.2 || mkB1 K x.1) &&
  ((exL.zipIdx.all fun x => exL.zipIdx.all fun y => subB1 K x.1 y.1 ((inf pg 0).sub x.2 y.2)) && (exL.all (veB1 K) && peOk PySem.Challenge.pw_rulesmerged_k33_errors K "ParseError"))))))
def hm : Hm := ⟨okH, fnL, psL⟩
abbrev R : PySem.W.OpenRow := PySem.W.OpenLaw.row PySem.Challenge.rw_rulesmerged_k33_errors
abbrev hk : PySem.W.Hook := hm.hook 4
def ob (s : PySem.W.SharedT) : AlM := hm.obsG 4 (HandSHeadRun.getT s)
theorem ob_eq (s : PySem.W.SharedT) : ob s = hk.obs s.abs := Hm.obs_eq (HandSHeadRun.getT_eq s)
theorem run (w : World) : HandSHeadRun.RunEq R (PySem.W.view R.prog [38]) hk ob 40000 nms w := by
  intro os
  kernel_rfl
end Mi.k33

set_option Elab.async false
set_option linter.all false
set_option maxRecDepth 100000
set_option maxHeartbeats 0
namespace Mi.k33
open PySem PySem.Spec PyProof.Rows L2
def fldL : List Str := []
def Yd (K : PySem.W.Frag) : Wd := ⟨K, fun c => He.ga K (([] : List Str).getD c "object"), fun k => He.ga K (exL.getD k (exL.headD "")), fldOf fldL⟩
def Mo (w : World) (K : PySem.W.Frag) (mg : Str → Option Value) (base : Heap) : Md := ⟨R.prog, w, K, mg, base⟩
theorem exP {K : PySem.W.Frag} (h : exL.all (exB1 K) = true) (k : Nat) : exB1 K (exL.getD k (exL.headD "")) = true := List.all_eq_true.mp h _ (memD (by decide) k)
theorem exG {k : Nat} {x : Str} (h : exL[k]? = some x) : exL.getD k (exL.headD "") = x := by
  rw [List.getD_eq_getElem?_getD, h]
  rfl
def pePos (n : Nat) : Pos := match n with
  | 0 => ⟨7, 8, 7, 13⟩
  | 1 => ⟨7, 8, 7, 15⟩
  | 2 => ⟨7, 8, 7, 24⟩
  | 3 => ⟨7, 27, 7, 53⟩
  | 4 => ⟨7, 54, 7, 58⟩
  | 5 => ⟨7, 53, 7, 59⟩
  | 6 => ⟨7, 25, 7, 60⟩
  | 7 => ⟨7, 8, 7, 61⟩
  | 8 => ⟨7, 8, 7, 61⟩
  | 9 => ⟨8, 8, 8, 12⟩
  | 10 => ⟨8, 8, 8, 17⟩
  | 11 => ⟨8, 20, 8, 24⟩
  | 12 => ⟨8, 8, 8, 24⟩
  | _ => ⟨0, 0, 0, 0⟩
theorem peT {K : PySem.W.Frag} {h : Heap} {mg : Str → Option Value} (X : K.In h) (G : h.Ns mainGlobals mg) (c : hm.Says K) (hp : peOk PySem.Challenge.pw_rulesmerged_k33_errors K "ParseError" = true) : PeTxt R.prog K mg (He.ga K "ParseError") (He.ma K (He.ga K "ParseError") "__init__") :=
  pe_txt (prog := PySem.Challenge.pw_rulesmerged_k33_errors) (txt := "the text is wrong at line ") (j := 0) (p := pePos) X G hp (c.pe 0 rfl) (by decide +kernel) (by decide +kernel) fun env => ⟨_, rfl⟩
theorem tn {w : World} {K : PySem.W.Frag} {h : Heap} {mg : Str → Option Value} {base : Heap} (X : K.In h) (G : h.Ns mainGlobals mg) (c : hm.Says K) : Tn (Yd K) (Mo w K mg base) pg tb := by
  have a : okH K = true := c.all
  unfold okH at a
  simp only [Bool.and_eq_true] at a
  obtain ⟨h1, h2, h3, h4, h5, h6, h7, h8⟩ := a
  refine ⟨rfl, fun i x q => freeB_ok X G (List.all_eq_true.mp h2 x (List.mem_of_getElem? (show frL[i]? = some x from q))), fun g x d q _ => (nomatch (show (none : Option Str) = some x from by simpa [tb] using q)), fun k x q => ?_, (fldOf_inj (l := fldL) (by decide) (by decide)), ⟨fun k _ => (exB_ok (exP h3 k) h4).1, fun k z hk hz => ?_, fun k _ => ?_⟩, fun k q => ?_, fun k h => by
    have hk : k = 1 := by
      have hb : k < tb.mks.length := (List.getElem?_eq_some_iff.mp h).1
      exact (by decide : ∀ k, k < tb.mks.length → tb.mks[k]? = some false → k = 1) k hb h
    subst hk
    exact ⟨_, peT X G c h8⟩, ⟨fun k => exB_ok (exP h3 k) h4⟩⟩
  · have q : exL[k]? = some x := q
    have g := gloB_ok X G (x := x) (by
      have z := List.all_eq_true.mp h3 x (List.mem_of_getElem? q)
      unfold exB1 at z
      exact (Bool.and_eq_true_iff.mp z).1)
    show mg x = some (.ref (He.ga K (exL.getD k (exL.headD ""))))
    rw [exG q]
    exact g
  · have get : ∀ k, k < pg.sub.length → exL[k]? = some (exL.getD k (exL.headD "")) := fun k hk => by
      have hk2 : k < exL.length := hk
      rw [List.getD_eq_getElem?_getD, List.getElem?_eq_getElem hk2]
      rfl
    have z1 := List.all_eq_true.mp h6 (exL.getD k (exL.headD ""), k) (List.mk_mem_zipIdx_iff_getElem?.mpr (get k hk))
    have z2 := List.all_eq_true.mp z1 (exL.getD z (exL.headD ""), z) (List.mk_mem_zipIdx_iff_getElem?.mpr (get z hz))
    unfold subB1 at z2
    exact of_decide_eq_true z2
  · have z := List.all_eq_true.mp h7 _ (memD (d := "") (by decide) k)
    unfold veB1 at z
    exact of_decide_eq_true z
  · have q : tb.mks[k]? = some true := q
    have hk : k < exL.length := by
      have hb : k < tb.mks.length := (List.getElem?_eq_some_iff.mp q).1
      exact hb
    have q2 : exL[k]? = some (exL.getD k (exL.headD "")) := by
      rw [List.getD_eq_getElem?_getD, List.getElem?_eq_getElem hk]
      rfl
    have q3 : (exL.zip tb.mks)[k]? = some (exL.getD k (exL.headD ""), true) := by
      rw [List.getElem?_zip_eq_some]
      exact ⟨q2, q⟩
    have z := List.all_eq_true.mp h5 _ (List.mem_of_getElem? q3)
    simp only [Bool.not_true, Bool.false_or] at z
    unfold mkB1 at z
    exact Bool.and_eq_true_iff.mp z
theorem s0 {Y : Wd} {M : Md} {n : Nat} (N : Tn Y M pg tb) (IH : ∀ (j : Nat) (x : Str) (np : Nat), tb.fns[j]? = some (some (x, np)) → Df Y M pg n x j np) {fa : Addr} {fd : FuncData} (F : FunD M.K "_law_pen" "_law_pen" (defArgs (top 33)) (defBody (top 33)) (defScope (top 33)) [] [] fa fd) :
    FnG M.prog M.w M.K M.mg M.base (L2.CX M.prog M.w) (2 * (n + 1)) fa fd ["script"] (spM Y 1 (callN pg (n + 1) 0)) := by
  rw [callN_step (F := f0) rfl]
  exact fn_ok (Y := Y) (P := M.prog) (w := M.w) (K := M.K) (mg := M.mg) (base := M.base) (k := 2 * n + 1) (I := inf pg n) (F := f0) (N := N0) F sc0 rfl (by decide) fun W cdv A outer s H E hr hG tk => b0 ⟨Y, W, n, M, fa, cdv, A, outer, s, H, E⟩ ⟨N, IH, rfl, rfl, rfl, rfl, rfl, hr, hG, rfl, tk⟩
theorem s1 {Y : Wd} {M : Md} {n : Nat} (N : Tn Y M pg tb) (IH : ∀ (j : Nat) (x : Str) (np : Nat), tb.fns[j]? = some (some (x, np)) → Df Y M pg n x j np) {fa : Addr} {fd : FuncData} (F : FunD M.K "_law_next" "_law_next" (defArgs (top 34)) (defBody (top 34)) (defScope (top 34)) [] [] fa fd) :
    FnG M.prog M.w M.K M.mg M.base (L2.CX M.prog M.w) (2 * (n + 1)) fa fd ["pen"] (spM Y 1 (callN pg (n + 1) 1)) := by
  rw [callN_step (F := f1) rfl]
  exact fn_ok (Y := Y) (P := M.prog) (w := M.w) (K := M.K) (mg := M.mg) (base := M.base) (k := 2 * n + 1) (I := inf pg n) (F := f1) (N := N1) F sc1 rfl (by decide) fun W cdv A outer s H E hr hG tk => b1 ⟨Y, W, n, M, fa, cdv, A, outer, s, H, E⟩ ⟨N, IH, rfl, rfl, rfl, rfl, rfl, hr, hG, rfl, tk⟩
theorem s2 {Y : Wd} {M : Md} {n : Nat} (N : Tn Y M pg tb) (IH : ∀ (j : Nat) (x : Str) (np : Nat), tb.fns[j]? = some (some (x, np)) → Df Y M pg n x j np) {fa : Addr} {fd : FuncData} (F : FunD M.K "_law_draw" "_law_draw" (defArgs (top 35)) (defBody (top 35)) (defScope (top 35)) [] [] fa fd) :
    FnG M.prog M.w M.K M.mg M.base (L2.CX M.prog M.w) (2 * (n + 1)) fa fd ["pen", "under"] (spM Y 2 (callN pg (n + 1) 2)) := by
  rw [callN_step (F := f2) rfl]
  exact fn_ok (Y := Y) (P := M.prog) (w := M.w) (K := M.K) (mg := M.mg) (base := M.base) (k := 2 * n + 1) (I := inf pg n) (F := f2) (N := N2) F sc2 rfl (by decide) fun W cdv A outer s H E hr hG tk => b2 ⟨Y, W, n, M, fa, cdv, A, outer, s, H, E⟩ ⟨N, IH, rfl, rfl, rfl, rfl, rfl, hr, hG, rfl, tk⟩
theorem s3 {Y : Wd} {M : Md} {n : Nat} (N : Tn Y M pg tb) (IH : ∀ (j : Nat) (x : Str) (np : Nat), tb.fns[j]? = some (some (x, np)) → Df Y M pg n x j np) {fa : Addr} {fd : FuncData} (F : FunD M.K "_law_of" "_law_of" (defArgs (top 36)) (defBody (top 36)) (defScope (top 36)) [] [] fa fd) :
    FnG M.prog M.w M.K M.mg M.base (L2.CX M.prog M.w) (2 * (n + 1)) fa fd ["caught"] (spM Y 1 (callN pg (n + 1) 3)) := by
  rw [callN_step (F := f3) rfl]
  exact fn_ok (Y := Y) (P := M.prog) (w := M.w) (K := M.K) (mg := M.mg) (base := M.base) (k := 2 * n + 1) (I := inf pg n) (F := f3) (N := N3) F sc3 rfl (by decide) fun W cdv A outer s H E hr hG tk => b3 ⟨Y, W, n, M, fa, cdv, A, outer, s, H, E⟩ ⟨N, IH, rfl, rfl, rfl, rfl, rfl, hr, hG, rfl, tk⟩
theorem s4 {Y : Wd} {M : Md} {n : Nat} (N : Tn Y M pg tb) (IH : ∀ (j : Nat) (x : Str) (np : Nat), tb.fns[j]? = some (some (x, np)) → Df Y M pg n x j np) {fa : Addr} {fd : FuncData} (F : FunD M.K "_law_errors" "_law_errors" (defArgs (top 37)) (defBody (top 37)) (defScope (top 37)) [] [] fa fd) :
    FnG M.prog M.w M.K M.mg M.base (L2.CX M.prog M.w) (2 * (n + 1)) fa fd ["word", "line"] (spM Y 2 (callN pg (n + 1) 4)) := by
  rw [callN_step (F := f4) rfl]
  exact fn_ok (Y := Y) (P := M.prog) (w := M.w) (K := M.K) (mg := M.mg) (base := M.base) (k := 2 * n + 1) (I := inf pg n) (F := f4) (N := N4) F sc4 rfl (by decide) fun W cdv A outer s H E hr hG tk => b4 ⟨Y, W, n, M, fa, cdv, A, outer, s, H, E⟩ ⟨N, IH, rfl, rfl, rfl, rfl, rfl, hr, hG, rfl, tk⟩
theorem s5 {Y : Wd} {M : Md} {n : Nat} (N : Tn Y M pg tb) (IH : ∀ (j : Nat) (x : Str) (np : Nat), tb.fns[j]? = some (some (x, np)) → Df Y M pg n x j np) {fa : Addr} {fd : FuncData} (F : FunD M.K "law" "law" (defArgs (top 38)) (defBody (top 38)) (defScope (top 38)) [] [] fa fd) :
    FnG M.prog M.w M.K M.mg M.base (L2.CX M.prog M.w) (2 * (n + 1)) fa fd ["script"] (spM Y 1 (callN pg (n + 1) 5)) := by
  rw [callN_step (F := f5) rfl]
  exact fn_ok (Y := Y) (P := M.prog) (w := M.w) (K := M.K) (mg := M.mg) (base := M.base) (k := 2 * n + 1) (I := inf pg n) (F := f5) (N := N5) F sc5 rfl (by decide) fun W cdv A outer s H E hr hG tk => b5 ⟨Y, W, n, M, fa, cdv, A, outer, s, H, E⟩ ⟨N, IH, rfl, rfl, rfl, rfl, rfl, hr, hG, rfl, tk⟩
theorem g0 {w : World} {K : PySem.W.Frag} {h : Heap} {mg : Str → Option Value} {base : Heap} (X : K.In h) (G : h.Ns mainGlobals mg) (c : hm.Says K) (hg : glL.all (gloB K) = true) : Sf (Mo w K mg base) "_law_pen" (top 33) ["script"] := by
  obtain ⟨fd, F⟩ := c.def_ 0 (d := dF "_law_pen" 33) rfl
  exact ⟨_, fd, gloB_ok X G (List.all_eq_true.mp hg "_law_pen" (List.mem_of_getElem? (i := 0) rfl)), F, FunD.bindsN F fun _ _ _ _ _ _ us hl => match us, hl with | [_], _ => rfl⟩
theorem g1 {w : World} {K : PySem.W.Frag} {h : Heap} {mg : Str → Option Value} {base : Heap} (X : K.In h) (G : h.Ns mainGlobals mg) (c : hm.Says K) (hg : glL.all (gloB K) = true) : Sf (Mo w K mg base) "_law_next" (top 34) ["pen"] := by
  obtain ⟨fd, F⟩ := c.def_ 1 (d := dF "_law_next" 34) rfl
  exact ⟨_, fd, gloB_ok X G (List.all_eq_true.mp hg "_law_next" (List.mem_of_getElem? (i := 1) rfl)), F, FunD.bindsN F fun _ _ _ _ _ _ us hl => match us, hl with | [_], _ => rfl⟩
theorem g2 {w : World} {K : PySem.W.Frag} {h : Heap} {mg : Str → Option Value} {base : Heap} (X : K.In h) (G : h.Ns mainGlobals mg) (c : hm.Says K) (hg : glL.all (gloB K) = true) : Sf (Mo w K mg base) "_law_draw" (top 35) ["pen", "under"] := by
  obtain ⟨fd, F⟩ := c.def_ 2 (d := dF "_law_draw" 35) rfl
  exact ⟨_, fd, gloB_ok X G (List.all_eq_true.mp hg "_law_draw" (List.mem_of_getElem? (i := 2) rfl)), F, FunD.bindsN F fun _ _ _ _ _ _ us hl => match us, hl with | [_, _], _ => rfl⟩
theorem g3 {w : World} {K : PySem.W.Frag} {h : Heap} {mg : Str → Option Value} {base : Heap} (X : K.In h) (G : h.Ns mainGlobals mg) (c : hm.Says K) (hg : glL.all (gloB K) = true) : Sf (Mo w K mg base) "_law_of" (top 36) ["caught"] := by
  obtain ⟨fd, F⟩ := c.def_ 3 (d := dF "_law_of" 36) rfl
  exact ⟨_, fd, gloB_ok X G (List.all_eq_true.mp hg "_law_of" (List.mem_of_getElem? (i := 3) rfl)), F, FunD.bindsN F fun _ _ _ _ _ _ us hl => match us, hl with | [_], _ => rfl⟩
theorem g4 {w : World} {K : PySem.W.Frag} {h : Heap} {mg : Str → Option Value} {base : Heap} (X : K.In h) (G : h.Ns mainGlobals mg) (c : hm.Says K) (hg : glL.all (gloB K) = true) : Sf (Mo w K mg base) "_law_errors" (top 37) ["word", "line"] := by
  obtain ⟨fd, F⟩ := c.def_ 4 (d := dF "_law_errors" 37) rfl
  exact ⟨_, fd, gloB_ok X G (List.all_eq_true.mp hg "_law_errors" (List.mem_of_getElem? (i := 4) rfl)), F, FunD.bindsN F fun _ _ _ _ _ _ us hl => match us, hl with | [_, _], _ => rfl⟩
theorem g5 {w : World} {K : PySem.W.Frag} {h : Heap} {mg : Str → Option Value} {base : Heap} (X : K.In h) (G : h.Ns mainGlobals mg) (c : hm.Says K) (hg : glL.all (gloB K) = true) : Sf (Mo w K mg base) "law" (top 38) ["script"] := by
  obtain ⟨fd, F⟩ := c.def_ 5 (d := dF "law" 38) rfl
  exact ⟨_, fd, gloB_ok X G (List.all_eq_true.mp hg "law" (List.mem_of_getElem? (i := 5) rfl)), F, FunD.bindsN F fun _ _ _ _ _ _ us hl => match us, hl with | [_], _ => rfl⟩
theorem dfs {w : World} {K : PySem.W.Frag} {h : Heap} {mg : Str → Option Value} {base : Heap} (X : K.In h) (G : h.Ns mainGlobals mg) (c : hm.Says K) (hg : glL.all (gloB K) = true) : ∀ n, Fa (DfO (Yd K) (Mo w K mg base) pg n) 0 tb.fns
  | 0 => ⟨(g0 (w := w) (base := base) X G c hg).zero, (g1 (w := w) (base := base) X G c hg).zero, (g2 (w := w) (base := base) X G c hg).zero, (g3 (w := w) (base := base) X G c hg).zero, (g4 (w := w) (base := base) X G c hg).zero, (g5 (w := w) (base := base) X G c hg).zero, trivial⟩
  | n + 1 =>
    let IH := DfO.all (dfs X G c hg n)
    let N := tn (w := w) (base := base) X G c
    ⟨(let ⟨fa, fd, e, F, hb⟩ := g0 (w := w) (base := base) X G c hg; ⟨fa, fd, _, e, s0 N IH F, F.kp, hb⟩), (let ⟨fa, fd, e, F, hb⟩ := g1 (w := w) (base := base) X G c hg; ⟨fa, fd, _, e, s1 N IH F, F.kp, hb⟩), (let ⟨fa, fd, e, F, hb⟩ := g2 (w := w) (base := base) X G c hg; ⟨fa, fd, _, e, s2 N IH F, F.kp, hb⟩), (let ⟨fa, fd, e, F, hb⟩ := g3 (w := w) (base := base) X G c hg; ⟨fa, fd, _, e, s3 N IH F, F.kp, hb⟩), (let ⟨fa, fd, e, F, hb⟩ := g4 (w := w) (base := base) X G c hg; ⟨fa, fd, _, e, s4 N IH F, F.kp, hb⟩), (let ⟨fa, fd, e, F, hb⟩ := g5 (w := w) (base := base) X G c hg; ⟨fa, fd, _, e, s5 N IH F, F.kp, hb⟩), trivial⟩
theorem holds (hfn : ∀ ns : List Int, ns.length ≤ 63 → ∃ fr s, callN pg (6 + 1) 5 [.scr ns] [] = .ok ((.bl true, fr), s)) : PySem.Challenge.rw_rulesmerged_k33_errors.Holds := by
  w_on; o_law
  refine HandSHeadRun.head_any (r := PySem.W.OpenLaw.row PySem.Challenge.rw_rulesmerged_k33_errors) (q := PySem.W.view R.prog [38]) (H := hk) (ob := ob) (M := 40000) (loose := nms) (d := HandSHeadRun.topDef R.prog 38) (kwd := []) ob_eq
    (by kernel_rfl) (fun s => by kernel_rfl) run (by kernel_rfl) (by kernel_rfl) (by kernel_rfl) (by rfl) (by first | assumption | decide +kernel) (by decide +kernel) ⟨rfl, rfl, rfl, rfl, rfl, by decide +kernel⟩ ?hw ?hc
  case hw => w_witness2
  case hc =>
    refine walk_ofM (l := PySem.Challenge.rw_rulesmerged_k33_errors) (n := 63) (k := 2 * (6 + 1)) (x := "script") (fn := callN pg (6 + 1) 5) rfl (by decide) (by kernel_rfl) ⟨rfl, by decide, by decide⟩ ?F hfn
    intro w mg fa h Y G hmg0
    obtain ⟨K, KX, c⟩ := Y
    have hmg : mg ("law" : Str) = some (.ref fa) := by
      have e : (HandSHeadRun.topDef R.prog 38).name = ("law" : Str) := by kernel_rfl
      rw [← e]
      exact hmg0
    have a : okH K = true := c.all
    unfold okH at a
    rw [Bool.and_eq_true] at a
    obtain ⟨fa2, fd, e, F, hb⟩ := g5 (w := w) (base := h) KX G c a.1
    have e2 : fa2 = fa := by
      have := e.symm.trans hmg
      cases this
      rfl
    subst e2
    refine ⟨Yd K, fd, KX, fun s u => FunD.bindsA (ps := ["script"]) F (fun _ _ _ _ _ _ us hl => match us, hl with | [_], _ => rfl) s [u] rfl, fun base hKb hGb => ?_⟩
    exact s5 (M := Mo w K mg base) (tn hKb hGb c) (DfO.all (dfs hKb hGb c a.1 6)) F
end Mi.k33

set_option Elab.async false
set_option linter.all false
set_option maxRecDepth 100000
set_option maxHeartbeats 0
namespace Mi.k33
open Mi
/-! ### the plain law -/
def rest : List Sm := match f5.body with
  | [_, .for_ _ _ b, _] => b.drop 2
  | _ => []
def two2 : List Sm := match f5.body with
  | [_, .for_ _ _ b, _] => b.take 2
  | _ => []
def view (o : Out (Fl × St)) : Option (List Slot × Nat × Cells) := match o with
  | .ok (.nx, st) => some (st.r.take 2, st.r.length, st.s)
  | _ => none
def St0 (l : List Int) (t w : D) (ln : Int) (x5 x6 x7 : Slot) (s : Cells) : St := ⟨[some (false, .scr l), some (false, .ref 0), some (false, t), some (false, w), some (false, .int ln), x5, x6, x7], s⟩
theorem rest0 (l : List Int) (t w : D) (x5 x6 x7 : Slot) (s : Cells) : view (exB (inf pg 6) rest (St0 l t w 0 x5 x6 x7 s)) = some ([some (false, .scr l), some (false, .ref 0)], 8, s) := by
  kernel_rfl
theorem rest1 (l : List Int) (t w : D) (x5 x6 x7 : Slot) (s : Cells) : view (exB (inf pg 6) rest (St0 l t w 2 x5 x6 x7 s)) = some ([some (false, .scr l), some (false, .ref 0)], 8, s) := by
  kernel_rfl
theorem rest2 (l : List Int) (t w : D) (x5 x6 x7 : Slot) (s : Cells) : view (exB (inf pg 6) rest (St0 l t w 9 x5 x6 x7 s)) = some ([some (false, .scr l), some (false, .ref 0)], 8, s) := by
  kernel_rfl
theorem rest3 (l : List Int) (t w : D) (x5 x6 x7 : Slot) (s : Cells) : view (exB (inf pg 6) rest (St0 l t w (10 ^ 20) x5 x6 x7 s)) = some ([some (false, .scr l), some (false, .ref 0)], 8, s) := by
  kernel_rfl
theorem four {d : Int} (h : 0 ≤ d) (h2 : d < 4) : d = 0 ∨ d = 1 ∨ d = 2 ∨ d = 3 := by omega
/-- the two draws of a turn -/
theorem two_ok {l cs : List Int} {i r : Int} (h0 : 0 ≤ i) (h1 : i < 8000000000000000000) (h2 : 0 ≤ r) (hl : cs.length ≤ 60) (t : D) (x3 x4 x5 x6 x7 : Slot) :
    ∃ w ln i' r', 0 ≤ i' ∧ i' ≤ i + 2 ∧ 0 ≤ r' ∧ (ln = 0 ∨ ln = 2 ∨ ln = 9 ∨ ln = 10 ^ 20) ∧
      exB (inf pg 6) two2 ⟨[some (false, .scr l), some (false, .ref 0), some (false, t), x3, x4, x5, x6, x7], [some (Pen cs i r)]⟩ = .ok (.nx, St0 l t w ln x5 x6 x7 [some (Pen cs i' r')]) := by
  obtain ⟨d1, i1, r1, a1, a2, a3, a4, a5, e1⟩ := draw_ok (P := pg) (jn := 1) (jd := 2) (m := 4) (n := 0) (s := [some (Pen cs i r)]) (u := 4) rfl rfl rfl h0 (by omega) h2 hl (by omega) (by omega)
  obtain ⟨d2, i2, r2, b1, b2, b3, b4, b5, e2⟩ := draw_ok (P := pg) (jn := 1) (jd := 2) (m := 4) (n := 0) (s := [some (Pen cs i1 r1)]) (u := 4) rfl rfl rfl a3 (by omega) a5 hl (by omega) (by omega)
  have e1 : (inf pg 6).fn 2 [.ref 0, .int 4] [some (Pen cs i r)] = .ok ((.int d1, false), [some (Pen cs i1 r1)]) := e1
  have e2 : (inf pg 6).fn 2 [.ref 0, .int 4] [some (Pen cs i1 r1)] = .ok ((.int d2, false), [some (Pen cs i2 r2)]) := e2
  obtain ⟨w, hw⟩ : ∃ w, ([D.str [], .str [110, 111], .str [115, 111, 109, 101, 32, 119, 111, 114, 100, 115], .str [48]] : List D)[d1.toNat]? = some w := by
    rcases four a1 a2 with rfl | rfl | rfl | rfl <;> exact ⟨_, rfl⟩
  obtain ⟨ln, hln, hv⟩ : ∃ ln : Int, ([D.int 0, .int 2, .int 9, .int (10 ^ 20)] : List D)[d2.toNat]? = some (.int ln) ∧ (ln = 0 ∨ ln = 2 ∨ ln = 9 ∨ ln = 10 ^ 20) := by
    rcases four b1 b2 with rfl | rfl | rfl | rfl
    · exact ⟨_, rfl, .inl rfl⟩
    · exact ⟨_, rfl, .inr (.inl rfl)⟩
    · exact ⟨_, rfl, .inr (.inr (.inl rfl))⟩
    · exact ⟨_, rfl, .inr (.inr (.inr rfl))⟩
  refine ⟨w, ln, i2, r2, b3, by omega, b5, hv, ?_⟩
  have hw' := (List.getElem?_eq_some_iff.mp hw).2
  have hln' := (List.getElem?_eq_some_iff.mp hln).2
  simp [Out.bind, Out.of, two2, f5, St0, exB, exS, ev, evels, evs, two, one, opd, rdo, slotAt, Mi.top, ans, asgO, setSlot, setNth, kBin, binD, isMutD, e1, e2, callSt, ixD, seqIx, a1, a2, b1, b2, hw, hln]
  exact ⟨hw', hln'⟩
theorem view_ok {o : Out (Fl × St)} {a b : Slot} {s : Cells} (h : view o = some ([a, b], 8, s)) : ∃ x2 x3 x4 x5 x6 x7, o = .ok (.nx, ⟨[a, b, x2, x3, x4, x5, x6, x7], s⟩) := by
  unfold view at h
  split at h
  · rename_i st
    simp only [Option.some.injEq, Prod.mk.injEq] at h
    obtain ⟨h1, h2, h3⟩ := h
    obtain ⟨r, s'⟩ := st
    subst h3
    match r, h1, h2 with
    | [y0, y1, y2, y3, y4, y5, y6, y7], h1, _ =>
      simp at h1
      obtain ⟨rfl, rfl⟩ := h1
      exact ⟨_, _, _, _, _, _, rfl⟩
  · cases h
/-- a turn -/
theorem turn_ok {l cs : List Int} {i r : Int} (h0 : 0 ≤ i) (h1 : i < 8000000000000000000) (h2 : 0 ≤ r) (hl : cs.length ≤ 60) (t : D) (x3 x4 x5 x6 x7 : Slot) :
    ∃ i' r' y2 y3 y4 y5 y6 y7, 0 ≤ i' ∧ i' ≤ i + 2 ∧ 0 ≤ r' ∧
      exB (inf pg 6) (two2 ++ rest) ⟨[some (false, .scr l), some (false, .ref 0), some (false, t), x3, x4, x5, x6, x7], [some (Pen cs i r)]⟩ = .ok (.nx, ⟨[some (false, .scr l), some (false, .ref 0), y2, y3, y4, y5, y6, y7], [some (Pen cs i' r')]⟩) := by
  obtain ⟨w, ln, i', r', a1, a2, a3, hv, e⟩ := two_ok (l := l) h0 h1 h2 hl t x3 x4 x5 x6 x7
  have hr : view (exB (inf pg 6) rest (St0 l t w ln x5 x6 x7 [some (Pen cs i' r')])) = some ([some (false, .scr l), some (false, .ref 0)], 8, [some (Pen cs i' r')]) := by
    rcases hv with rfl | rfl | rfl | rfl
    · exact rest0 ..
    · exact rest1 ..
    · exact rest2 ..
    · exact rest3 ..
  obtain ⟨y2, y3, y4, y5, y6, y7, e2⟩ := view_ok hr
  refine ⟨i', r', y2, y3, y4, y5, y6, y7, a1, a2, a3, ?_⟩
  rw [exB_app, e]
  exact e2
theorem for_ok {l cs : List Int} (hl : cs.length ≤ 60) : ∀ (ds : List D) (i r : Int) (x2 x3 x4 x5 x6 x7 : Slot), 0 ≤ i → i + 2 * ds.length < 8000000000000000000 → 0 ≤ r →
    ∃ s y2 y3 y4 y5 y6 y7, forGo (fun d st => match asgT (.nm 2) d st with
      | some st' => exB (inf pg 6) (two2 ++ rest) st'
      | none => .stuck) ds ⟨[some (false, .scr l), some (false, .ref 0), x2, x3, x4, x5, x6, x7], [some (Pen cs i r)]⟩ = .ok (.nx, ⟨[some (false, .scr l), some (false, .ref 0), y2, y3, y4, y5, y6, y7], s⟩)
  | [], i, r, x2, x3, x4, x5, x6, x7, _, _, _ => ⟨_, _, _, _, _, _, _, rfl⟩
  | d :: ds, i, r, x2, x3, x4, x5, x6, x7, h0, h1, h2 => by
    simp only [List.length_cons] at h1
    obtain ⟨i', r', y2, y3, y4, y5, y6, y7, a1, a2, a3, e⟩ := turn_ok (l := l) h0 (by omega) h2 hl d x3 x4 x5 x6 x7
    obtain ⟨s, z2, z3, z4, z5, z6, z7, e2⟩ := for_ok hl ds i' r' y2 y3 y4 y5 y6 y7 a1 (by omega) a3
    refine ⟨s, z2, z3, z4, z5, z6, z7, ?_⟩
    have eq : asgT (.nm 2) d ⟨[some (false, .scr l), some (false, .ref 0), x2, x3, x4, x5, x6, x7], [some (Pen cs i r)]⟩ = some ⟨[some (false, .scr l), some (false, .ref 0), some (false, d), x3, x4, x5, x6, x7], [some (Pen cs i r)]⟩ := rfl
    unfold forGo
    rw [eq]
    dsimp only
    rw [e]
    exact e2
theorem pen_ok (ns : List Int) : callN pg 6 0 [.scr ns] [] = .ok ((.ref 0, false), [some (Pen (ns.take 60) 0 0)]) := by
  have e : cut (ns.map D.int) none (some 60) = (ns.take 60).map D.int := by
    unfold cut sIx
    simp
  rw [callN_step (F := f0) rfl]
  simp [runF, f0, Out.bind, Out.of, exB, exS, ev, evels, one, evp, opd, rdo, slotAt, Mi.top, ans, slD, f1D, e, isMutD, Pen]
theorem law_ok (ns : List Int) (_ : ns.length ≤ 63) : ∃ fr s, callN pg (6 + 1) 5 [.scr ns] [] = .ok ((.bl true, fr), s) := by
  obtain ⟨s, y2, y3, y4, y5, y6, y7, e⟩ := for_ok (l := ns) (cs := ns.take 60) (by simp; omega) [.int 0, .int 1, .int 2] 0 0 none none none none none none (by omega) (by simp) (by omega)
  have pe : (inf pg 6).fn 0 [.scr ns] [] = .ok ((.ref 0, false), [some (Pen (ns.take 60) 0 0)]) := pen_ok ns
  refine ⟨false, s, ?_⟩
  rw [callN_step (F := f5) rfl]
  have hb : f5.body = [.asg (.nm 1) (.call 0 [(.var 0)]), .for_ (.nm 2) (.rg1 (.n 3)) (two2 ++ rest), .ret (.tt true)] := rfl
  unfold runF
  rw [if_pos (by rfl), hb]
  have st0 : (([D.scr ns].map (fun d => some (false, d)) ++ List.replicate (f5.ns - f5.np) none : List Slot)) = [some (false, .scr ns), none, none, none, none, none, none, none] := rfl
  rw [st0]
  have e1 : exS (inf pg 6) (.asg (.nm 1) (.call 0 [(.var 0)])) ⟨[some (false, .scr ns), none, none, none, none, none, none, none], []⟩ = .ok (.nx, ⟨[some (false, .scr ns), some (false, .ref 0), none, none, none, none, none, none], [some (Pen (ns.take 60) 0 0)]⟩) := by
    simp [Out.bind, Out.of, exS, ev, evs, slotAt, pe, callSt, asgO, setSlot, setNth, isMutD]
  have e2 : exS (inf pg 6) (.for_ (.nm 2) (.rg1 (.n 3)) (two2 ++ rest)) ⟨[some (false, .scr ns), some (false, .ref 0), none, none, none, none, none, none], [some (Pen (ns.take 60) 0 0)]⟩ = .ok (.nx, ⟨[some (false, .scr ns), some (false, .ref 0), y2, y3, y4, y5, y6, y7], s⟩) := by
    have hs : evsrc (inf pg 6) (.rg1 (.n 3)) ⟨[some (false, .scr ns), some (false, .ref 0), none, none, none, none, none, none], [some (Pen (ns.take 60) 0 0)]⟩ = .ok (([.int 0, .int 1, .int 2], []), ⟨[some (false, .scr ns), some (false, .ref 0), none, none, none, none, none, none], [some (Pen (ns.take 60) 0 0)]⟩) := by
      simp [Out.bind, Out.of, evsrc, ev, rgD, rangeD]
    simp only [exS, hs, Out.bind, List.any_nil]
    have key : ∀ o : Out (Fl × St), o = .ok (.nx, ⟨[some (false, .scr ns), some (false, .ref 0), y2, y3, y4, y5, y6, y7], s⟩) → giveO [] o = .ok (.nx, ⟨[some (false, .scr ns), some (false, .ref 0), y2, y3, y4, y5, y6, y7], s⟩) := by
      rintro _ rfl
      rfl
    exact key _ e
  simp only [exB, e1, e2]
  simp [exS, ev, Out.bind]
end Mi.k33
theorem PySem.Challenge.cw_rulesmerged_k33_errors_holds : PySem.Challenge.rw_rulesmerged_k33_errors.Holds :=
  Mi.k33.holds Mi.k33.law_ok

