import PyProof.Rows.All
import HandS.Conv
import HandS.ForMost
import HandS.Wide
import HandS.WideBits
import HandS.Text
import HandS.Small
import HandS.TupAny
import HandS.SortInts
import HandS.SortRule
import HandS.DictTup
import HandS.TupMul
import HandS.Style
import HandS.More
import HandS.Zip
import HandS.Comp
import HandS.Defaults
import HandS.HeadEnd
import HandS.HeadHook1
import HandS.HeadHook2
import HandS.Head0
import HandS.Head1
import HandS.Head2
import PyProof.ReprRoads
import PySem.Challenge.RW_divisorways_k58_whole_main_signs_shifted
set_option Elab.async false
set_option linter.all false
set_option maxRecDepth 100000
namespace DV
open PySem
inductive PV where
  | non | bl (b : Bool) | int (i : Int) | str (s : Str) | tup (xs : List PV) | ref (n : Nat)
  deriving Inhabited
mutual
def PV.und (n : Nat) : PV → Bool
  | .tup xs => PV.undL n xs
  | .ref k => decide (k < n)
  | .non => true
  | .bl _ => true
  | .int _ => true
  | .str _ => true
def PV.undL (n : Nat) : List PV → Bool
  | [] => true
  | x :: xs => PV.und n x && PV.undL n xs
end
mutual
def PV.beq : PV → PV → Bool
  | .non, .non => true
  | .bl a, .bl b => a == b
  | .int a, .int b => a == b
  | .str a, .str b => decide (a = b)
  | .tup a, .tup b => PV.beqL a b
  | .ref a, .ref b => a == b
  | _, _ => false
def PV.beqL : List PV → List PV → Bool
  | [], [] => true
  | x :: xs, y :: ys => PV.beq x y && PV.beqL xs ys
  | _, _ => false
end
abbrev Key := L2.Key
inductive CO where
  | lst (xs : List PV) | dct (kvs : List (Key × PV))
inductive SV where
  | pv (v : PV) | own (c : CO) | lk (c : CO)
inductive DO where
  | rw (c : CO) | lk (c : CO) | fz (xs : List PV)
inductive EV where
  | pv (v : PV) | tmp (c : CO) | bw (i : Nat)
def CO.und (n : Nat) : CO → Bool
  | .lst xs => PV.undL n xs
  | .dct kvs => PV.undL n (kvs.map (·.2))
def DO.und (n : Nat) : DO → Bool
  | .rw c => c.und n
  | .lk c => c.und n
  | .fz xs => PV.undL n xs
def EV.und (n : Nat) : EV → Bool
  | .pv v => v.und n
  | .tmp c => c.und n
  | .bw _ => false
structure EX where
  cls : Nat
  fs : List (Str × PV)
structure DS where
  env : List (Option SV)
  h : List DO
inductive R (α : Type) where
  | ok (a : α) (s : DS) | ex (x : EX) (s : DS) | no
def M (α : Type) := DS → R α
@[reducible] def M.ret {α : Type} (a : α) : M α := fun s => .ok a s
@[reducible] def M.no {α : Type} : M α := fun _ => .no
def M.bnd {α β : Type} (m : M α) (f : α → M β) : M β := fun s => match m s with
  | .ok a s' => f a s'
  | .ex x s' => .ex x s'
  | .no => .no
def M.opt {α : Type} (o : Option α) : M α := fun s => match o with
  | some a => .ok a s
  | none => .no
def M.chk (b : Bool) : M Unit := fun s => if b = true then .ok () s else .no
def DO.co : DO → CO
  | .rw c => c
  | .lk c => c
  | .fz xs => .lst xs
def coOf (s : DS) : EV → Option CO
  | .pv (.ref n) => (s.h[n]?).map DO.co
  | .tmp c => some c
  | .bw i => match s.env[i]? with
    | some (some (.own c)) => some c
    | some (some (.lk c)) => some c
    | some (some (.pv (.ref n))) => (s.h[n]?).map DO.co
    | _ => none
  | _ => none
def itemsOf (s : DS) (v : EV) : Option (Bool × List PV) := match v with
  | .pv (.tup xs) => some (false, xs)
  | v => match coOf s v with
    | some (.lst xs) => some (true, xs)
    | _ => none
def liOf (s : DS) : EV → Option (List PV)
  | .pv (.ref n) => match s.h[n]? with
    | some (.rw (.lst xs)) => some xs
    | some (.lk (.lst xs)) => some xs
    | _ => none
  | .tmp (.lst xs) => some xs
  | .bw i => match s.env[i]? with
    | some (some (.own (.lst xs))) => some xs
    | some (some (.lk (.lst xs))) => some xs
    | some (some (.pv (.ref n))) => match s.h[n]? with
      | some (.rw (.lst xs)) => some xs
      | some (.lk (.lst xs)) => some xs
      | _ => none
    | _ => none
  | _ => none
def pvOf (s : DS) : EV → Option PV
  | .pv v => some v
  | .tmp _ => none
  | .bw i => match s.env[i]? with
    | some (some (.pv v)) => some v
    | _ => none
def box : EV → M PV
  | .pv v => M.ret v
  | .tmp c => fun s => .ok (.ref s.h.length) { s with h := s.h ++ [.rw c] }
  | .bw i => fun s => match s.env[i]? with
    | some (some (.pv v)) => .ok v s
    | some (some (.own c)) => .ok (.ref s.h.length) { env := s.env.set i (some (.pv (.ref s.h.length))), h := s.h ++ [.rw c] }
    | _ => .no
def boxes : List EV → M (List PV)
  | [] => M.ret []
  | e :: es => M.bnd (box e) fun v => M.bnd (boxes es) fun vs => M.ret (v :: vs)
def toSV : EV → M SV
  | .tmp c => M.ret (.own c)
  | e => M.bnd (box e) fun v => M.ret (.pv v)
def toSVs : List EV → M (List SV)
  | [] => M.ret []
  | e :: es => M.bnd (toSV e) fun v => M.bnd (toSVs es) fun vs => M.ret (v :: vs)
def putSlot (i : Nat) (x : SV) : M Unit := fun s => match s.env[i]? with
  | some (some (.lk _)) => .no
  | some _ => .ok () { s with env := s.env.set i (some x) }
  | none => .no
def putCO (v : EV) (c : CO) : M Unit := fun s => match v with
  | .pv (.ref n) => match s.h[n]? with
    | some (.rw _) => if c.und n = true then .ok () { s with h := s.h.set n (.rw c) } else .no
    | _ => .no
  | .bw i => match s.env[i]? with
    | some (some (.own _)) => .ok () { s with env := s.env.set i (some (.own c)) }
    | some (some (.pv (.ref n))) => match s.h[n]? with
      | some (.rw _) => if c.und n = true then .ok () { s with h := s.h.set n (.rw c) } else .no
      | _ => .no
    | _ => .no
  | _ => .no
def datF (h : List DO) : Nat → PV → Option PyData
  | 0, _ => none
  | n + 1, v => match v with
    | .non => some .none
    | .bl b => some (.bool b)
    | .int i => some (.int i)
    | .str x => some (.str x)
    | .tup xs => (xs.mapM (datF h n)).map .tuple
    | .ref k => match (h[k]?).map DO.co with
      | some (.lst xs) => (xs.mapM (datF h n)).map .list
      | _ => none
def deepest : Nat := 40
def datCO (s : DS) : CO → Option PyData
  | .lst xs => (xs.mapM (datF s.h deepest)).map .list
  | _ => none
def datOf (s : DS) (v : EV) : Option PyData := match pvOf s v with
  | some p => datF s.h deepest p
  | none => match coOf s v with
    | some c => datCO s c
    | none => none
inductive Prim where
  | add | sub | mul | fdiv | mod | pow | neg | band | bor | shl | shr
  | eq | ne | lt | le | gt | ge | inn | notin | innD | notinD | isN | notN
  | len | lenD | idx | idxD | slice (lo hi : Bool) | rev
  | sum | all | any | sorted | tuple | list | abs | int | min2 | max2 | minL | maxL | repr
  | append | pop | popAt | insert | get1 | get2 | extend
  | mkTup | mkLst | mkDct (ks : List Key)
  | repL | repT | sortIt
  | lrg1 | lrg2 | trg1 | trg2 | dictL
def mulOk (i j : Int) : Bool := decide (i.natAbs < 2 ^ 64) || decide (j.natAbs < 2 ^ 64) || decide (i.natAbs.log2 + j.natAbs.log2 < 1000000)
def divOk (j : Int) : Bool := decide (0 < j) && decide (j.natAbs.log2 < 9000)
def powOk (i j : Int) : Bool := decide (0 ≤ j) && decide (j ≤ 1000000) && decide (i.natAbs < 2 ^ 64)
def shlOk (i j : Int) : Bool := powOk i j || (decide (0 ≤ j) && decide (i.natAbs.log2 + 1 + j.toNat ≤ 134217728))
abbrev val (v : PV) : M EV := M.ret (.pv v)
abbrev vint (i : Int) : M EV := M.ret (.pv (.int i))
abbrev vbl (b : Bool) : M EV := M.ret (.pv (.bl b))
def newL (xs : List PV) : M EV := M.bnd (M.chk (decide (xs.length ≤ sizeLine))) fun _ => M.ret (.tmp (.lst xs))
def newT (xs : List PV) : M EV := M.bnd (M.chk (decide (xs.length ≤ sizeLine))) fun _ => M.ret (.pv (.tup xs))
def int2 (f : Int → Int → M EV) (a b : EV) : M EV := fun s => match pvOf s a, pvOf s b with
  | some (.int i), some (.int j) => f i j s
  | _, _ => .no
def keyOf : PV → Option Key
  | .int i => some (.inl i)
  | .str x => some (.inr x)
  | _ => none
def ofKey : Key → PV
  | .inl i => .int i
  | .inr x => .str x
def look (kvs : List (Key × PV)) (k : Key) : Option PV := (kvs.find? fun kv => decide (kv.1 = k)).map (·.2)
def put (kvs : List (Key × PV)) (k : Key) (v : PV) : List (Key × PV) :=
  if (kvs.any fun kv => decide (kv.1 = k)) = true then kvs.map fun kv => if kv.1 = k then (kv.1, v) else kv else kvs ++ [(k, v)]
def flatP : PV → Bool
  | .tup _ => false
  | .ref _ => false
  | _ => true
def eqP : PV → PV → Bool
  | .non, .non => true
  | .bl a, .bl b => a == b
  | .bl a, .int j => (if a = true then 1 else 0) == j
  | .int i, .bl b => i == (if b = true then 1 else 0)
  | .int i, .int j => i == j
  | .str x, .str y => decide (x = y)
  | _, _ => false
def inP (x : PV) (xs : List PV) : Bool := xs.any fun y => eqP y x
def boolsOf : List PV → Option (List Bool)
  | [] => some []
  | .bl b :: r => (boolsOf r).map (b :: ·)
  | _ => none
def intsOf : List PV → Option (List Int)
  | [] => some []
  | .int i :: r => (intsOf r).map (i :: ·)
  | _ => none
def cut {α : Type} (xs : List α) (lo hi : Option Int) : List α :=
  (xs.drop (HT.sIx xs.length 0 lo)).take (HT.sIx xs.length xs.length hi - HT.sIx xs.length 0 lo)
def optI (s : DS) : EV → Option Int := fun v => match pvOf s v with
  | some (.int i) => some i
  | _ => none
def cutF (v : EV) (lo hi : Option Int) : M EV := fun s => match itemsOf s v with
  | some (true, xs) => .ok (.tmp (.lst (cut xs lo hi))) s
  | some (false, xs) => .ok (.pv (.tup (cut xs lo hi))) s
  | none => .no
def cmp2 (p : Int → Int → Bool) (a b : EV) : M EV := int2 (fun i j => vbl (p i j)) a b
def maxI : Int → List Int → Int
  | m, [] => m
  | m, x :: r => maxI (if x > m then x else m) r
def minI : Int → List Int → Int
  | m, [] => m
  | m, x :: r => minI (if x < m then x else m) r
def insI (x : Int) : List Int → List Int
  | [] => [x]
  | y :: r => if x ≤ y then x :: y :: r else y :: insI x r
def sortI : List Int → List Int
  | [] => []
  | x :: r => insI x (sortI r)
def rangeL (lo : Int) : Nat → List PV
  | 0 => []
  | n + 1 => .int lo :: rangeL (lo + 1) n
def rangeC (lo c : Int) : Nat → List PV
  | 0 => []
  | n + 1 => .int lo :: rangeC (lo + c) c n
def stepOk (i j c : Int) : Bool := decide (c ≠ 0) && decide (c.natAbs < 1073741824) && Builtin.Range.small i j c
def stepN (i j c : Int) : Nat := (Builtin.Range.rangeSize i j c).toNat
def rngOk (i : Int) : Bool := decide (-(2 ^ 62) ≤ i) && decide (i < 2 ^ 62)
def itemsD (kvs : List (Key × PV)) : List PV := kvs.map fun kv => .tup [ofKey kv.1, kv.2]
def isNon (s : DS) (a : EV) : Option Bool := match pvOf s a with
  | some .non => some true
  | some _ => some false
  | none => match coOf s a with
    | some _ => some false
    | none => none
def addF (a b : EV) : M EV := fun s => match pvOf s a, pvOf s b with
  | some (.int i), some (.int j) => .ok (.pv (.int (i + j))) s
  | some (.tup xs), some (.tup ys) => newT (xs ++ ys) s
  | some (.str x), some (.str y) => M.bnd (M.chk (decide (x.length + y.length ≤ sizeLine))) (fun _ => val (.str (x ++ y))) s
  | _, _ => match liOf s a, liOf s b with
    | some xs, some ys => newL (xs ++ ys) s
    | _, _ => .no
def subF (a b : EV) : M EV := int2 (fun i j => vint (i - j)) a b
def mulF (a b : EV) : M EV := int2 (fun i j => M.bnd (M.chk (mulOk i j)) fun _ => vint (i * j)) a b
def repLF (a b : EV) : M EV := fun s => match liOf s a, pvOf s b with
  | some xs, some (.int k) => M.bnd (M.chk (decide (-(2 ^ 63) ≤ k) && decide (k < 2 ^ 63))) (fun _ => newL (List.replicate k.toNat xs).flatten) s
  | _, _ => .no
def repTF (a b : EV) : M EV := fun s => match pvOf s a, pvOf s b with
  | some (.tup xs), some (.int k) => M.bnd (M.chk (!xs.isEmpty && decide (xs.length ≤ 1000) && decide (0 ≤ k) && decide (k ≤ 1000))) (fun _ => val (.tup (List.replicate k.toNat xs).flatten)) s
  | _, _ => .no
def fdivF (a b : EV) : M EV := int2 (fun i j => M.bnd (M.chk (divOk j)) fun _ => vint (i / j)) a b
def modF (a b : EV) : M EV := int2 (fun i j => M.bnd (M.chk (decide (0 < j))) fun _ => vint (i % j)) a b
def powF (a b : EV) : M EV := int2 (fun i j => M.bnd (M.chk (powOk i j)) fun _ => vint (i ^ j.toNat)) a b
def negF (a : EV) : M EV := fun s => match pvOf s a with
  | some (.int i) => .ok (.pv (.int (-i))) s
  | _ => .no
def bandF (a b : EV) : M EV := int2 (fun i j => vint (Builtin.bitAnd i j)) a b
def borF (a b : EV) : M EV := int2 (fun i j => vint (Builtin.bitOr i j)) a b
def shlF (a b : EV) : M EV := int2 (fun i j => M.bnd (M.chk (shlOk i j)) fun _ => vint (i * 2 ^ j.toNat)) a b
def shrF (a b : EV) : M EV := int2 (fun i j => M.bnd (M.chk (decide (0 ≤ j))) fun _ => vint (i / 2 ^ j.toNat)) a b
def eqF (a b : EV) : M EV := fun s => match datOf s a, datOf s b with
  | some d, some e => M.bnd (M.chk (SeqAt.shaped d && SeqAt.shaped e)) (fun _ => vbl (PyData.eqv d e)) s
  | _, _ => .no
def neF (a b : EV) : M EV := fun s => match datOf s a, datOf s b with
  | some d, some e => M.bnd (M.chk (SeqAt.shaped d && SeqAt.shaped e)) (fun _ => vbl (!PyData.eqv d e)) s
  | _, _ => .no
def ltF (a b : EV) : M EV := cmp2 (fun i j => decide (i < j)) a b
def leF (a b : EV) : M EV := cmp2 (fun i j => decide (i ≤ j)) a b
def gtF (a b : EV) : M EV := cmp2 (fun i j => decide (j < i)) a b
def geF (a b : EV) : M EV := cmp2 (fun i j => decide (j ≤ i)) a b
def innF (a b : EV) : M EV := fun s => match pvOf s a, itemsOf s b with
  | some x, some (_, xs) => M.bnd (M.chk (flatP x && xs.all flatP)) (fun _ => vbl (inP x xs)) s
  | _, _ => .no
def notinF (a b : EV) : M EV := fun s => match pvOf s a, itemsOf s b with
  | some x, some (_, xs) => M.bnd (M.chk (flatP x && xs.all flatP)) (fun _ => vbl (!inP x xs)) s
  | _, _ => .no
def innDF (a b : EV) : M EV := fun s => match (pvOf s a).bind keyOf, coOf s b with
  | some k, some (.dct kvs) => .ok (.pv (.bl (look kvs k).isSome)) s
  | _, _ => .no
def notinDF (a b : EV) : M EV := fun s => match (pvOf s a).bind keyOf, coOf s b with
  | some k, some (.dct kvs) => .ok (.pv (.bl (!(look kvs k).isSome))) s
  | _, _ => .no
def isNF (a : EV) : M EV := fun s => match isNon s a with
  | some b => .ok (.pv (.bl b)) s
  | none => .no
def notNF (a : EV) : M EV := fun s => match isNon s a with
  | some b => .ok (.pv (.bl (!b))) s
  | none => .no
def lenF (a : EV) : M EV := fun s => match itemsOf s a with
  | some (_, xs) => .ok (.pv (.int xs.length)) s
  | none => .no
def lenDF (a : EV) : M EV := fun s => match coOf s a with
  | some (.dct kvs) => .ok (.pv (.int kvs.length)) s
  | _ => .no
def idxF (a b : EV) : M EV := fun s => match itemsOf s a, pvOf s b with
  | some (_, xs), some (.int i) => M.bnd (M.opt (L2.atI xs i)) (fun v => val v) s
  | _, _ => .no
def idxDF (a b : EV) : M EV := fun s => match coOf s a, (pvOf s b).bind keyOf with
  | some (.dct kvs), some k => M.bnd (M.opt (look kvs k)) (fun v => val v) s
  | _, _ => .no
def sliceFFF (a : EV) : M EV := cutF a none none
def sliceTFF (a l : EV) : M EV := fun s => match optI s l with
  | some i => cutF a (some i) none s
  | none => .no
def sliceFTF (a u : EV) : M EV := fun s => match optI s u with
  | some j => cutF a none (some j) s
  | none => .no
def sliceTTF (a l u : EV) : M EV := fun s => match optI s l, optI s u with
  | some i, some j => cutF a (some i) (some j) s
  | _, _ => .no
def revF (a : EV) : M EV := fun s => match coOf s a with
  | some (.lst xs) => .ok (.tmp (.lst xs.reverse)) s
  | _ => .no
def sumF (a : EV) : M EV := fun s => match itemsOf s a with
  | some (_, xs) => M.bnd (M.opt (intsOf xs)) (fun ns => vint ns.sum) s
  | none => .no
def rgOkB (i j : Int) : Bool := decide (-(2 ^ 62) ≤ i) && decide (i < 2 ^ 62) && decide (-(2 ^ 62) ≤ j) && decide (j < 2 ^ 62) && decide ((j - i).toNat ≤ 16777216)
def lrgF (i j : Int) : M EV := M.bnd (M.chk (rgOkB i j)) fun _ => M.ret (.tmp (.lst (rangeL i (j - i).toNat)))
def trgF (i j : Int) : M EV := M.bnd (M.chk (rgOkB i j)) fun _ => M.ret (.pv (.tup (rangeL i (j - i).toNat)))
def lrg1F (a : EV) : M EV := fun s => match pvOf s a with
  | some (.int j) => lrgF 0 j s
  | _ => .no
def lrg2F (a b : EV) : M EV := int2 lrgF a b
def pairKV : PV → Option (Key × PV)
  | .tup [k, v] => (keyOf k).map fun k => (k, v)
  | _ => none
def pairsKV : List PV → Option (List (Key × PV))
  | [] => some []
  | x :: r => match pairKV x, pairsKV r with
    | some y, some ys => some (y :: ys)
    | _, _ => none
def dictKV (kvs : List (Key × PV)) : List (Key × PV) := kvs.foldl (fun acc kv => put acc kv.1 kv.2) []
def dictLF (a : EV) : M EV := fun s => match coOf s a with
  | some (.lst xs) => M.bnd (M.opt (pairsKV xs)) (fun kvs => M.ret (.tmp (.dct (dictKV kvs)))) s
  | _ => .no
def trg1F (a : EV) : M EV := fun s => match pvOf s a with
  | some (.int j) => trgF 0 j s
  | _ => .no
def trg2F (a b : EV) : M EV := int2 trgF a b
def allF (a : EV) : M EV := fun s => match coOf s a with
  | some (.lst xs) => M.bnd (M.opt (boolsOf xs)) (fun bs => vbl (bs.all id)) s
  | _ => .no
def anyF (a : EV) : M EV := fun s => match coOf s a with
  | some (.lst xs) => M.bnd (M.opt (boolsOf xs)) (fun bs => vbl (bs.any id)) s
  | _ => .no
def pairsOf : List PV → Option (List (Int × Int))
  | [] => some []
  | .tup [.int i, .int j] :: r => (pairsOf r).map ((i, j) :: ·)
  | _ => none
def mkP (z : Int × Int) : PV := .tup [.int z.1, .int z.2]
def leP (a b : Int × Int) : Bool := decide (a.1 < b.1) || (decide (a.1 = b.1) && decide (a.2 ≤ b.2))
def insP (x : Int × Int) : List (Int × Int) → List (Int × Int)
  | [] => [x]
  | y :: r => if leP x y = true then x :: y :: r else y :: insP x r
def sortP : List (Int × Int) → List (Int × Int)
  | [] => []
  | x :: r => insP x (sortP r)
def sortL (xs : List PV) : M EV := match intsOf xs with
  | some ns => newL ((sortI ns).map .int)
  | none => M.bnd (M.opt (pairsOf xs)) fun zs => newL ((sortP zs).map mkP)
def sortedF (a : EV) : M EV := fun s => match coOf s a with
  | some (.lst xs) => sortL xs s
  | _ => .no
def sortItF (a : EV) : M EV := fun s => match coOf s a with
  | some (.dct kvs) => M.bnd (M.opt (pairsOf (itemsD kvs))) (fun zs => newL ((sortP zs).map mkP)) s
  | _ => .no
def tupleF (a : EV) : M EV := fun s => match itemsOf s a with
  | some (_, xs) => .ok (.pv (.tup xs)) s
  | none => .no
def listF (a : EV) : M EV := fun s => match itemsOf s a with
  | some (_, xs) => .ok (.tmp (.lst xs)) s
  | none => .no
def absF (a : EV) : M EV := fun s => match pvOf s a with
  | some (.int i) => .ok (.pv (.int (if i < 0 then -i else i))) s
  | _ => .no
def intF (a : EV) : M EV := fun s => match pvOf s a with
  | some (.int i) => .ok (.pv (.int i)) s
  | some (.bl b) => .ok (.pv (.int (if b = true then 1 else 0))) s
  | _ => .no
def min2F (a b : EV) : M EV := int2 (fun i j => vint (if j < i then j else i)) a b
def max2F (a b : EV) : M EV := int2 (fun i j => vint (if j > i then j else i)) a b
def minLF (a : EV) : M EV := fun s => match coOf s a with
  | some (.lst xs) => match intsOf xs with
    | some (x :: r) => .ok (.pv (.int (minI x r))) s
    | _ => .no
  | _ => .no
def maxLF (a : EV) : M EV := fun s => match coOf s a with
  | some (.lst xs) => match intsOf xs with
    | some (x :: r) => .ok (.pv (.int (maxI x r))) s
    | _ => .no
  | _ => .no
def reprF (a : EV) : M EV := fun s => match datOf s a with
  | some d => M.bnd (M.chk (d.showable && !d.hasDict && decide (d.shown.length ≤ sizeLine) && decide (d.depth ≤ 64))) (fun _ => val (.str d.shown)) s
  | none => .no
def appendF (a b : EV) : M EV := fun s => match liOf s a with
  | some xs => M.bnd (M.chk (decide (xs.length < sizeLine))) (fun _ => M.bnd (box b) fun v => M.bnd (putCO a (.lst (xs ++ [v]))) fun _ => val .non) s
  | _ => .no
def popF (a : EV) : M EV := fun s => match liOf s a with
  | some xs => match xs[xs.length - 1]? with
    | some v => M.bnd (putCO a (.lst xs.dropLast)) (fun _ => val v) s
    | none => .no
  | _ => .no
def popAtF (a i : EV) : M EV := fun s => match liOf s a, pvOf s i with
  | some xs, some (.int k) => M.bnd (M.chk (decide (-(2 ^ 63) ≤ k) && decide (k < 2 ^ 63))) (fun _ => M.bnd (M.opt (L2.ixN xs.length k)) fun j => M.bnd (M.opt xs[j]?) fun v => M.bnd (putCO a (.lst (xs.eraseIdx j))) fun _ => val v) s
  | _, _ => .no
def insertF (a i b : EV) : M EV := fun s => match liOf s a, pvOf s i with
  | some xs, some (.int 0) => M.bnd (M.chk (decide (xs.length < sizeLine))) (fun _ => M.bnd (box b) fun v => M.bnd (putCO a (.lst (v :: xs))) fun _ => val .non) s
  | _, _ => .no
def extendF (a b : EV) : M EV := fun s => match liOf s a, liOf s b with
  | some xs, some ys => M.bnd (M.chk (decide (xs.length + ys.length ≤ sizeLine))) (fun _ => M.bnd (putCO a (.lst (xs ++ ys))) fun _ => val .non) s
  | _, _ => .no
def get1F (a k : EV) : M EV := fun s => match coOf s a, (pvOf s k).bind keyOf with
  | some (.dct kvs), some k => .ok (.pv ((look kvs k).getD .non)) s
  | _, _ => .no
def get2F (a k d : EV) : M EV := fun s => match coOf s a, (pvOf s k).bind keyOf with
  | some (.dct kvs), some k => match look kvs k, pvOf s d with
    | some v, _ => .ok (.pv v) s
    | none, some v => .ok (.pv v) s
    | none, none => .no
  | _, _ => .no
def mkTupF (es : List EV) : M EV := M.bnd (boxes es) fun vs => newT vs
def mkLstF (es : List EV) : M EV := M.bnd (boxes es) fun vs => newL vs
def mkDctF (ks : List Key) (es : List EV) : M EV := M.bnd (boxes es) fun vs => M.bnd (M.chk (decide (ks.length = vs.length) && decide (vs.length ≤ 15))) fun _ => M.ret (.tmp (.dct ((ks.zip vs).foldl (fun acc kv => put acc kv.1 kv.2) [])))
def primF : Prim → List EV → M EV
  | .add, [a, b] => addF a b
  | .sub, [a, b] => subF a b
  | .mul, [a, b] => mulF a b
  | .fdiv, [a, b] => fdivF a b
  | .mod, [a, b] => modF a b
  | .pow, [a, b] => powF a b
  | .neg, [a] => negF a
  | .band, [a, b] => bandF a b
  | .bor, [a, b] => borF a b
  | .shl, [a, b] => shlF a b
  | .shr, [a, b] => shrF a b
  | .eq, [a, b] => eqF a b
  | .ne, [a, b] => neF a b
  | .lt, [a, b] => ltF a b
  | .le, [a, b] => leF a b
  | .gt, [a, b] => gtF a b
  | .ge, [a, b] => geF a b
  | .inn, [a, b] => innF a b
  | .notin, [a, b] => notinF a b
  | .innD, [a, b] => innDF a b
  | .notinD, [a, b] => notinDF a b
  | .isN, [a] => isNF a
  | .notN, [a] => notNF a
  | .len, [a] => lenF a
  | .lenD, [a] => lenDF a
  | .idx, [a, b] => idxF a b
  | .idxD, [a, b] => idxDF a b
  | .slice false false, [a] => sliceFFF a
  | .slice true false, [a, l] => sliceTFF a l
  | .slice false true, [a, u] => sliceFTF a u
  | .slice true true, [a, l, u] => sliceTTF a l u
  | .rev, [a] => revF a
  | .sum, [a] => sumF a
  | .all, [a] => allF a
  | .any, [a] => anyF a
  | .sorted, [a] => sortedF a
  | .sortIt, [a] => sortItF a
  | .tuple, [a] => tupleF a
  | .list, [a] => listF a
  | .abs, [a] => absF a
  | .int, [a] => intF a
  | .min2, [a, b] => min2F a b
  | .max2, [a, b] => max2F a b
  | .minL, [a] => minLF a
  | .maxL, [a] => maxLF a
  | .repr, [a] => reprF a
  | .append, [a, b] => appendF a b
  | .pop, [a] => popF a
  | .popAt, [a, i] => popAtF a i
  | .lrg1, [a] => lrg1F a
  | .lrg2, [a, b] => lrg2F a b
  | .trg1, [a] => trg1F a
  | .dictL, [a] => dictLF a
  | .trg2, [a, b] => trg2F a b
  | .insert, [a, i, b] => insertF a i b
  | .extend, [a, b] => extendF a b
  | .get1, [a, k] => get1F a k
  | .get2, [a, k, d] => get2F a k d
  | .repL, [a, b] => repLF a b
  | .repT, [a, b] => repTF a b
  | .mkTup, es => mkTupF es
  | .mkLst, es => mkLstF es
  | .mkDct ks, es => mkDctF ks es
  | _, _ => M.no
inductive Tg where
  | one (i : Nat) | many (is : List Nat)
inductive ItK where
  | seq | rng1 | rng2 | rng3 | enum | zip | items
inductive E where
  | var (i : Nat)
  | con (v : PV)
  | prim (p : Prim) (es : List E)
  | meth (p : Prim) (o : E) (es : List E)
  | call (f : Nat) (es : List E) (perm : List Nat)
  | iff (t a b : E)
  | andE (a b : E)
  | orE (a b : E)
  | notE (a : E)
  | chkI (a : E)
  | comp (g : Tg) (k : ItK) (its : List E) (c : Option E) (elt : E) (own : List Nat)
def truthF (v : EV) : M Bool := fun s => match pvOf s v with
  | some .non => .ok false s
  | some (.bl b) => .ok b s
  | some (.int i) => .ok (i != 0) s
  | some (.tup xs) => .ok (!xs.isEmpty) s
  | some (.str x) => M.bnd (M.chk (decide (x.length ≤ sizeLine))) (fun _ => M.ret ((x.length : Int) != 0)) s
  | _ => match coOf s v with
    | some (.lst xs) => .ok (!xs.isEmpty) s
    | _ => .no
def intM (v : EV) : M EV := fun s => match optI s v with
  | some i => .ok (.pv (.int i)) s
  | none => .no
def boolF (v : EV) : M Bool := fun s => match pvOf s v with
  | some (.bl b) => .ok b s
  | _ => .no
def seqItems (v : EV) : M (List PV) := fun s => match itemsOf s v with
  | some (_, xs) => .ok xs s
  | none => .no
inductive Lk where
  | none | slot (i : Nat) (c : CO) | hp (n : Nat) (c : CO)
def lockF (v : EV) : M Lk := fun s => match v with
  | .pv (.ref n) => match s.h[n]? with
    | some (.rw c) => .ok (.hp n c) { s with h := s.h.set n (.lk c) }
    | _ => .ok .none s
  | .bw i => match s.env[i]? with
    | some (some (.own c)) => .ok (.slot i c) { s with env := s.env.set i (some (.lk c)) }
    | some (some (.pv (.ref n))) => match s.h[n]? with
      | some (.rw c) => .ok (.hp n c) { s with h := s.h.set n (.lk c) }
      | _ => .ok .none s
    | _ => .ok .none s
  | _ => .ok .none s
def unlock (l : Lk) (s : DS) : DS := match l with
  | .none => s
  | .slot i c => { s with env := s.env.set i (some (.own c)) }
  | .hp n c => { s with h := s.h.set n (.rw c) }
def withLk {α : Type} (ls : List Lk) (m : M α) : M α := fun s => match m s with
  | .ok a s' => .ok a (ls.foldl (fun s l => unlock l s) s')
  | .ex x s' => .ex x (ls.foldl (fun s l => unlock l s) s')
  | .no => .no
def lockL : List EV → List Lk → M (List Lk)
  | [], acc => M.ret acc
  | v :: vs, acc => M.bnd (lockF v) fun l => lockL vs (l :: acc)
def enumL : Nat → List PV → List PV
  | _, [] => []
  | i, x :: r => .tup [.int i, x] :: enumL (i + 1) r
def zipL : List PV → List PV → List PV
  | x :: xs, y :: ys => .tup [x, y] :: zipL xs ys
  | _, _ => []
def itemsK : ItK → List EV → M (List PV)
  | .seq, [v] => seqItems v
  | .rng1, [v] => fun s => match pvOf s v with
    | some (.int j) => M.bnd (M.chk (rngOk j)) (fun _ => M.ret (rangeL 0 j.toNat)) s
    | _ => .no
  | .rng2, [v, u] => fun s => match pvOf s v, pvOf s u with
    | some (.int i), some (.int j) => M.bnd (M.chk (rngOk i && rngOk j)) (fun _ => M.ret (rangeL i (j - i).toNat)) s
    | _, _ => .no
  | .rng3, [v, u, w] => fun s => match pvOf s v, pvOf s u, pvOf s w with
    | some (.int i), some (.int j), some (.int c) => M.bnd (M.chk (stepOk i j c)) (fun _ => M.ret (rangeC i c (stepN i j c))) s
    | _, _, _ => .no
  | .enum, [v] => fun s => match itemsOf s v with
    | some (_, xs) => .ok (enumL 0 xs) s
    | none => .no
  | .zip, [v, u] => fun s => match itemsOf s v, itemsOf s u with
    | some (true, xs), some (true, ys) => .ok (zipL xs ys) s
    | some (false, xs), some (false, ys) => .ok (zipL xs ys) s
    | _, _ => .no
  | .items, [v] => fun s => match coOf s v with
    | some (.dct kvs) => .ok (itemsD kvs) s
    | _ => .no
  | _, _ => M.no
def putSlots : List Nat → List PV → M Unit
  | [], [] => M.ret ()
  | i :: is, v :: vs => M.bnd (putSlot i (.pv v)) fun _ => putSlots is vs
  | _, _ => M.no
def putSVs : List Nat → List SV → M Unit
  | [], [] => M.ret ()
  | i :: is, v :: vs => M.bnd (putSlot i v) fun _ => putSVs is vs
  | _, _ => M.no
def assignG : Tg → PV → M Unit
  | .one i, x => putSlot i (.pv x)
  | .many is, .tup xs => M.bnd (M.chk (decide (xs.length = is.length))) fun _ => putSlots is xs
  | _, _ => M.no
def wipeE (env : List (Option SV)) : List Nat → List (Option SV)
  | [] => env
  | i :: is => (wipeE env is).set i none
def restE (env old : List (Option SV)) : List Nat → List (Option SV)
  | [] => env
  | i :: is => (restE env old is).set i (old.getD i none)
def notLk (env : List (Option SV)) (i : Nat) : Bool := match env[i]? with
  | some (some (.lk _)) => false
  | _ => true
def wipeM (own : List Nat) : M Unit := fun s => if own.all (notLk s.env) = true then .ok () { s with env := wipeE s.env own } else .no
def noEx {α : Type} (m : M α) : M α := fun s => match m s with
  | .ok a s' => .ok a s'
  | _ => .no
def compF (own : List Nat) (g : Tg) (c : M Bool) (e : M EV) : List PV → M (List PV)
  | [] => M.ret []
  | x :: xs => M.bnd (assignG g x) fun _ => M.bnd (noEx c) fun b => if b = true then
      M.bnd (noEx e) fun v => M.bnd (box v) fun p => M.bnd (wipeM own) fun _ => M.bnd (compF own g c e xs) fun r => M.ret (p :: r)
    else M.bnd (wipeM own) fun _ => compF own g c e xs
def withOwn {α : Type} (own : List Nat) (m : M α) : M α := fun s => match M.bnd (wipeM own) (fun _ => m) s with
  | .ok a s' => .ok a { s' with env := restE s'.env s.env own }
  | _ => .no
inductive RC where
  | ok (v : EV) (h : List DO) | ex (x : EX) (h : List DO) | no
abbrev FE := Nat → List SV → List DO → RC
def callM (F : FE) (f : Nat) (args : List SV) : M EV := fun s => match F f args s.h with
  | .ok v h => .ok v { s with h := h }
  | .ex x h => .ex x { s with h := h }
  | .no => .no
def permute (perm : List Nat) (vs : List EV) : Option (List EV) := match perm with
  | [] => some vs
  | p => p.mapM fun i => vs[i]?
def kindM (p : Prim) (v : EV) : M Unit := fun s => match p, coOf s v with
  | .get1, some (.dct _) => .ok () s
  | .get2, some (.dct _) => .ok () s
  | .append, some (.lst _) => .ok () s
  | .pop, some (.lst _) => .ok () s
  | .popAt, some (.lst _) => .ok () s
  | .insert, some (.lst _) => .ok () s
  | .extend, some (.lst _) => .ok () s
  | _, _ => .no
mutual
def ev2 (F : FE) : E → M EV × M Bool
  | .var i => (fun s => match s.env[i]? with
      | some (some (.pv v)) => .ok (.pv v) s
      | some (some _) => .ok (.bw i) s
      | _ => .no, fun s => match s.env[i]? with
      | some (some (.pv v)) => truthF (.pv v) s
      | some (some _) => truthF (.bw i) s
      | _ => .no)
  | .con v => (M.ret (.pv v), truthF (.pv v))
  | .prim p es => (M.bnd (evs F es) (primF p), M.bnd (M.bnd (evs F es) (primF p)) truthF)
  | .meth p o es => (M.bnd (ev2 F o).1 fun v => M.bnd (kindM p v) fun _ => M.bnd (evs F es) fun vs => primF p (v :: vs),
      M.bnd (M.bnd (ev2 F o).1 fun v => M.bnd (kindM p v) fun _ => M.bnd (evs F es) fun vs => primF p (v :: vs)) truthF)
  | .call f es perm => (M.bnd (evs F es) fun vs => M.bnd (M.opt (permute perm vs)) fun vs => M.bnd (toSVs vs) (callM F f),
      M.bnd (M.bnd (evs F es) fun vs => M.bnd (M.opt (permute perm vs)) fun vs => M.bnd (toSVs vs) (callM F f)) truthF)
  | .iff t a b => (M.bnd (ev2 F t).2 fun c => if c = true then (ev2 F a).1 else (ev2 F b).1,
      M.bnd (M.bnd (ev2 F t).2 fun c => if c = true then (ev2 F a).1 else (ev2 F b).1) truthF)
  | .andE a b => (M.bnd (ev2 F a).1 fun v => M.bnd (boolF v) fun c => if c = true then (ev2 F b).1 else vbl false,
      M.bnd (ev2 F a).2 fun c => if c = true then (ev2 F b).2 else M.ret false)
  | .orE a b => (M.bnd (ev2 F a).1 fun v => M.bnd (boolF v) fun c => if c = true then vbl true else (ev2 F b).1,
      M.bnd (ev2 F a).2 fun c => if c = true then M.ret true else (ev2 F b).2)
  | .chkI a => (M.bnd (ev2 F a).1 intM, M.bnd (M.bnd (ev2 F a).1 intM) truthF)
  | .notE a => (M.bnd (ev2 F a).1 fun v => M.bnd (boolF v) fun c => vbl (!c), M.bnd (ev2 F a).2 fun c => M.ret (!c))
  | .comp g k its c elt own =>
    let m : M EV := M.bnd (evs F its) fun vs => M.bnd (itemsK k vs) fun xs => M.bnd (M.chk (decide (xs.length ≤ sizeLine))) fun _ => M.bnd (lockL vs []) fun ls =>
      M.bnd (withLk ls (withOwn own (compF own g (evc F c) (ev2 F elt).1 xs))) fun r => M.ret (.tmp (.lst r))
    (m, M.bnd m truthF)
def evs (F : FE) : List E → M (List EV)
  | [] => M.ret []
  | e :: es => M.bnd (ev2 F e).1 fun v => M.bnd (evs F es) fun vs => M.ret (v :: vs)
def evc (F : FE) : Option E → M Bool
  | none => M.ret true
  | some c => (ev2 F c).2
end
abbrev evE (F : FE) (e : E) : M EV := (ev2 F e).1
abbrev evT (F : FE) (e : E) : M Bool := (ev2 F e).2
inductive S where
  | asg (i : Nat) (e : E)
  | par (is : List Nat) (es : List E)
  | unp (is : List Nat) (e : E)
  | setIx (o i e : E)
  | setKey (o i e : E)
  | parK (i : Nat) (o k : E) (es : List E)
  | expr (e : E)
  | ret (e : E)
  | retN
  | ite (t : E) (a b : List S)
  | wh (t : E) (b : List S)
  | forS (g : Tg) (k : ItK) (its : List E) (b : List S)
  | brk | cont | pass | stk
inductive Fl where
  | nx | bk | ct | rt (v : EV)
def whF (t : M Bool) (b : M Fl) : Nat → M Fl
  | 0 => M.no
  | n + 1 => M.bnd t fun c => if c = true then M.bnd b fun f => match f with
      | .nx => whF t b n
      | .ct => whF t b n
      | .bk => M.ret .nx
      | .rt v => M.ret (.rt v)
    else M.ret .nx
def forF (g : Tg) (b : M Fl) : List PV → M Fl
  | [] => M.ret .nx
  | x :: xs => M.bnd (assignG g x) fun _ => M.bnd b fun f => match f with
      | .nx => forF g b xs
      | .ct => forF g b xs
      | .bk => M.ret .nx
      | .rt v => M.ret (.rt v)
def wFuel : Nat := 1180591620717411303424
def setIxF (o i : EV) (v : EV) : M Unit := fun s => match liOf s o, pvOf s i with
  | some xs, some (.int k) => M.bnd (M.opt (L2.ixN xs.length k)) (fun j => M.bnd (box v) fun p => putCO o (.lst (xs.set j p))) s
  | _, _ => .no
def setKeyF (o i : EV) (v : EV) : M Unit := fun s => match coOf s o, (pvOf s i).bind keyOf with
  | some (.dct kvs), some k => M.bnd (M.chk (decide (kvs.length < sizeLine))) (fun _ => M.bnd (box v) fun p => putCO o (.dct (put kvs k p))) s
  | _, _ => .no
def parKF (i : Nat) (o k : M EV) : List EV → M Fl
  | [.pv (.int x), .pv (.int y)] => M.bnd (putSlot i (.pv (.int x))) fun _ => M.bnd o fun ov => M.bnd k fun kv => M.bnd (setKeyF ov kv (.pv (.int y))) fun _ => M.ret .nx
  | _ => M.no
mutual
def evS (F : FE) : S → M Fl
  | .asg i e => M.bnd (evE F e) fun v => M.bnd (toSV v) fun x => M.bnd (putSlot i x) fun _ => M.ret .nx
  | .par is es => M.bnd (evs F es) fun vs => M.bnd (toSVs vs) fun xs => M.bnd (putSVs is xs) fun _ => M.ret .nx
  | .unp is e => M.bnd (evE F e) fun v => fun s => match pvOf s v with
    | some (.tup xs) => M.bnd (M.chk (decide (xs.length = is.length))) (fun _ => M.bnd (putSlots is xs) fun _ => M.ret .nx) s
    | some _ => match itemsOf s v with
      | some (true, xs) => M.bnd (M.chk (decide (xs.length = is.length))) (fun _ => M.bnd (putSlots is xs) fun _ => M.ret .nx) s
      | _ => .no
    | none => match itemsOf s v with
      | some (true, xs) => M.bnd (M.chk (decide (xs.length = is.length))) (fun _ => M.bnd (putSlots is xs) fun _ => M.ret .nx) s
      | _ => .no
  | .setIx o i e => M.bnd (evE F e) fun v => M.bnd (evE F o) fun ov => M.bnd (evE F i) fun iv => M.bnd (setIxF ov iv v) fun _ => M.ret .nx
  | .setKey o i e => M.bnd (evE F e) fun v => M.bnd (evE F o) fun ov => M.bnd (evE F i) fun iv => M.bnd (setKeyF ov iv v) fun _ => M.ret .nx
  | .parK i o k es => M.bnd (evs F es) fun vs => parKF i (evE F o) (evE F k) vs
  | .expr e => M.bnd (evE F e) fun _ => M.ret .nx
  | .ret e => M.bnd (evE F e) fun v => M.ret (.rt v)
  | .retN => M.ret (.rt (.pv .non))
  | .ite t a b => M.bnd (evT F t) fun c => if c = true then evSs F a else evSs F b
  | .wh t b => whF (evT F t) (evSs F b) wFuel
  | .forS g k its b => M.bnd (evs F its) fun vs => M.bnd (itemsK k vs) fun xs => M.bnd (lockL vs []) fun ls => withLk ls (forF g (evSs F b) xs)
  | .brk => M.ret .bk
  | .cont => M.ret .ct
  | .pass => M.ret .nx
  | .stk => M.no
def evSs (F : FE) : List S → M Fl
  | [] => M.ret .nx
  | s :: ss => M.bnd (evS F s) fun f => match f with
    | .nx => evSs F ss
    | f => M.ret f
end
structure FD where
  np : Nat
  ns : Nat
  body : List S
def outV (s : DS) : EV → Option EV
  | .bw i => match s.env[i]? with
    | some (some (.pv v)) => some (.pv v)
    | some (some (.own c)) => some (.tmp c)
    | _ => none
  | v => some v
def trunc (h : List DO) (v : EV) (h' : List DO) : List DO := if v.und h.length = true then h'.take h.length else h'
def finC (h : List DO) : R Fl → RC
  | .ok .nx s => .ok (.pv .non) (s.h.take h.length)
  | .ok (.rt v) s => match outV s v with
    | some v => .ok v (trunc h v s.h)
    | none => .no
  | .ok _ _ => .no
  | .ex x s => .ex x s.h
  | .no => .no
def startE (d : FD) (args : List SV) : List (Option SV) := args.map some ++ List.replicate (d.ns - d.np) none
def callF (P : List FD) : Nat → FE
  | 0 => fun _ _ _ => .no
  | k + 1 => fun f args h => match P[f]? with
    | some d => if args.length = d.np then finC h (evSs (callF P k) d.body ⟨startE d args, h⟩) else .no
    | none => .no
end DV
namespace DV
open PySem PySem.Spec PyProof.Rows L2
abbrev Fg := PySem.W.Frag
abbrev SSt := L2.St
mutual
def VRel (K : Fg) (m : Nat → Addr) (n : Nat) (H : Hp) : PV → V → Prop
  | .non, v => v = .non
  | .bl b, v => v = .bl b
  | .int i, v => v = .int i
  | .str x, v => v = .str x
  | .tup xs, v => ∃ a vs, v = .ref a ∧ SqT K H a vs ∧ VsRel K m n H xs vs
  | .ref k, v => k < n ∧ v = .ref (m k)
def VsRel (K : Fg) (m : Nat → Addr) (n : Nat) (H : Hp) : List PV → List V → Prop
  | [], vs => vs = []
  | x :: xs, vs => ∃ v r, vs = v :: r ∧ VRel K m n H x v ∧ VsRel K m n H xs r
end
mutual
theorem VRel.mono {K : Fg} {m m' : Nat → Addr} {n n' : Nat} {H H' : Hp} (hm : ∀ k, k < n → m' k = m k) (hn : n ≤ n') (ht : ∀ a vs, SqT K H a vs → SqT K H' a vs) :
    ∀ {p : PV} {v : V}, VRel K m n H p v → VRel K m' n' H' p v
  | .non, _, h => by simpa only [VRel] using h
  | .bl _, _, h => by simpa only [VRel] using h
  | .int _, _, h => by simpa only [VRel] using h
  | .str _, _, h => by simpa only [VRel] using h
  | .tup xs, _, h => by
    simp only [VRel] at h ⊢
    obtain ⟨a, vs, e, h1, h2⟩ := h
    exact ⟨a, vs, e, ht _ _ h1, VsRel.mono hm hn ht h2⟩
  | .ref k, _, h => by
    simp only [VRel] at h ⊢
    exact ⟨Nat.lt_of_lt_of_le h.1 hn, by rw [hm k h.1]; exact h.2⟩
theorem VsRel.mono {K : Fg} {m m' : Nat → Addr} {n n' : Nat} {H H' : Hp} (hm : ∀ k, k < n → m' k = m k) (hn : n ≤ n') (ht : ∀ a vs, SqT K H a vs → SqT K H' a vs) :
    ∀ {ps : List PV} {vs : List V}, VsRel K m n H ps vs → VsRel K m' n' H' ps vs
  | [], _, h => by simpa only [VsRel] using h
  | x :: xs, _, h => by
    simp only [VsRel] at h ⊢
    obtain ⟨v, r, e, h1, h2⟩ := h
    exact ⟨v, r, e, VRel.mono hm hn ht h1, VsRel.mono hm hn ht h2⟩
end
mutual
theorem VRel.lower {K : Fg} {m : Nat → Addr} {n k : Nat} {H : Hp} : ∀ {p : PV} {v : V}, VRel K m n H p v → p.und k = true → VRel K m k H p v
  | .non, _, h, _ => by simpa only [VRel] using h
  | .bl _, _, h, _ => by simpa only [VRel] using h
  | .int _, _, h, _ => by simpa only [VRel] using h
  | .str _, _, h, _ => by simpa only [VRel] using h
  | .tup xs, _, h, u => by
    simp only [VRel] at h ⊢
    obtain ⟨a, vs, e, h1, h2⟩ := h
    exact ⟨a, vs, e, h1, VsRel.lower h2 (by simpa only [PV.und] using u)⟩
  | .ref j, _, h, u => by
    simp only [VRel] at h ⊢
    simp only [PV.und, decide_eq_true_eq] at u
    exact ⟨u, h.2⟩
theorem VsRel.lower {K : Fg} {m : Nat → Addr} {n k : Nat} {H : Hp} : ∀ {ps : List PV} {vs : List V}, VsRel K m n H ps vs → PV.undL k ps = true → VsRel K m k H ps vs
  | [], _, h, _ => by simpa only [VsRel] using h
  | x :: xs, _, h, u => by
    simp only [VsRel] at h ⊢
    simp only [PV.undL, Bool.and_eq_true] at u
    obtain ⟨v, r, e, h1, h2⟩ := h
    exact ⟨v, r, e, VRel.lower h1 u.1, VsRel.lower h2 u.2⟩
end
section
variable {K : Fg} {m : Nat → Addr} {n : Nat} {H : Hp}
theorem VsRel.length : ∀ {ps : List PV} {vs : List V}, VsRel K m n H ps vs → vs.length = ps.length
  | [], _, h => by simp only [VsRel] at h; subst h; rfl
  | x :: xs, _, h => by
    simp only [VsRel] at h
    obtain ⟨v, r, e, _, h2⟩ := h
    subst e
    simp only [List.length_cons, VsRel.length h2]
theorem VsRel.get : ∀ {ps : List PV} {vs : List V} {i : Nat} {p : PV}, VsRel K m n H ps vs → ps[i]? = some p → ∃ v, vs[i]? = some v ∧ VRel K m n H p v
  | [], _, _, _, _, e => by simp at e
  | x :: xs, _, 0, p, h, e => by
    simp only [VsRel] at h
    obtain ⟨v, r, e1, h1, _⟩ := h
    subst e1
    simp at e; subst e
    exact ⟨v, rfl, h1⟩
  | x :: xs, _, i + 1, p, h, e => by
    simp only [VsRel] at h
    obtain ⟨v, r, e1, _, h2⟩ := h
    subst e1
    simp at e
    obtain ⟨w, a, b⟩ := VsRel.get h2 e
    exact ⟨w, by simpa using a, b⟩
theorem VsRel.append : ∀ {ps qs : List PV} {vs ws : List V}, VsRel K m n H ps vs → VsRel K m n H qs ws → VsRel K m n H (ps ++ qs) (vs ++ ws)
  | [], _, _, _, h, g => by simp only [VsRel] at h; subst h; exact g
  | x :: xs, _, _, _, h, g => by
    simp only [VsRel] at h
    obtain ⟨v, r, e1, h1, h2⟩ := h
    subst e1
    simp only [List.cons_append, VsRel]
    exact ⟨v, _, rfl, h1, VsRel.append h2 g⟩
theorem VsRel.take : ∀ {ps : List PV} {vs : List V} (k : Nat), VsRel K m n H ps vs → VsRel K m n H (ps.take k) (vs.take k)
  | _, _, 0, _ => by simp only [List.take_zero, VsRel]
  | [], _, k + 1, h => by simp only [VsRel] at h; subst h; simp only [List.take_nil, VsRel]
  | x :: xs, _, k + 1, h => by
    simp only [VsRel] at h
    obtain ⟨v, r, e1, h1, h2⟩ := h
    subst e1
    simp only [List.take_succ_cons, VsRel]
    exact ⟨v, _, rfl, h1, VsRel.take k h2⟩
theorem VsRel.drop : ∀ {ps : List PV} {vs : List V} (k : Nat), VsRel K m n H ps vs → VsRel K m n H (ps.drop k) (vs.drop k)
  | _, _, 0, h => h
  | [], _, k + 1, h => by simp only [VsRel] at h; subst h; simp only [List.drop_nil, VsRel]
  | x :: xs, _, k + 1, h => by
    simp only [VsRel] at h
    obtain ⟨v, r, e1, h1, h2⟩ := h
    subst e1
    exact VsRel.drop k h2
theorem VsRel.set : ∀ {ps : List PV} {vs : List V} (i : Nat) {p : PV} {v : V}, VRel K m n H p v → VsRel K m n H ps vs → VsRel K m n H (ps.set i p) (vs.set i v)
  | [], _, _, _, _, _, h => by simp only [VsRel] at h; subst h; simp only [List.set_nil, VsRel]
  | x :: xs, _, 0, p, v, g, h => by
    simp only [VsRel] at h
    obtain ⟨w, r, e1, h1, h2⟩ := h
    subst e1
    simp only [List.set_cons_zero, VsRel]
    exact ⟨v, _, rfl, g, h2⟩
  | x :: xs, _, i + 1, p, v, g, h => by
    simp only [VsRel] at h
    obtain ⟨w, r, e1, h1, h2⟩ := h
    subst e1
    simp only [List.set_cons_succ, VsRel]
    exact ⟨w, _, rfl, h1, VsRel.set i g h2⟩
theorem VsRel.reverse : ∀ {ps : List PV} {vs : List V}, VsRel K m n H ps vs → VsRel K m n H ps.reverse vs.reverse
  | [], _, h => by simp only [VsRel] at h; subst h; simp only [List.reverse_nil, VsRel]
  | x :: xs, _, h => by
    simp only [VsRel] at h
    obtain ⟨w, r, e1, h1, h2⟩ := h
    subst e1
    rw [List.reverse_cons, List.reverse_cons]
    exact VsRel.append (VsRel.reverse h2) (by simp only [VsRel]; exact ⟨w, [], rfl, h1, rfl⟩)
theorem VsRel.dropLast {ps : List PV} {vs : List V} (h : VsRel K m n H ps vs) : VsRel K m n H ps.dropLast vs.dropLast := by
  rw [List.dropLast_eq_take, List.dropLast_eq_take, h.length]
  exact h.take _
theorem VsRel.cut {ps : List PV} {vs : List V} (lo hi : Option Int) (h : VsRel K m n H ps vs) : VsRel K m n H (cut ps lo hi) (cutV vs lo hi) := by
  unfold DV.cut cutV
  rw [h.length]
  exact (h.drop _).take _
theorem VsRel.ints : ∀ {ps : List PV} {vs : List V} {ns : List Int}, VsRel K m n H ps vs → intsOf ps = some ns → vs = ns.map V.int ∧ ps = ns.map PV.int
  | [], _, ns, h, e => by
    simp only [VsRel] at h
    simp only [intsOf, Option.some.injEq] at e
    subst h; subst e
    exact ⟨rfl, rfl⟩
  | .int i :: xs, _, ns, h, e => by
    simp only [VsRel] at h
    obtain ⟨w, r, e1, h1, h2⟩ := h
    simp only [VRel] at h1
    subst e1; subst h1
    simp only [intsOf, Option.map_eq_some_iff] at e
    obtain ⟨ms, e2, e3⟩ := e
    obtain ⟨q1, q2⟩ := VsRel.ints h2 e2
    subst e3
    exact ⟨by rw [q1]; rfl, by rw [q2]; rfl⟩
  | .non :: _, _, _, _, e => by simp [intsOf] at e
  | .bl _ :: _, _, _, _, e => by simp [intsOf] at e
  | .str _ :: _, _, _, _, e => by simp [intsOf] at e
  | .tup _ :: _, _, _, _, e => by simp [intsOf] at e
  | .ref _ :: _, _, _, _, e => by simp [intsOf] at e
theorem VsRel.bools : ∀ {ps : List PV} {vs : List V} {bs : List Bool}, VsRel K m n H ps vs → boolsOf ps = some bs → vs = bs.map V.bl
  | [], _, ns, h, e => by
    simp only [VsRel] at h
    simp only [boolsOf, Option.some.injEq] at e
    subst h; subst e
    rfl
  | .bl i :: xs, _, ns, h, e => by
    simp only [VsRel] at h
    obtain ⟨w, r, e1, h1, h2⟩ := h
    simp only [VRel] at h1
    subst e1; subst h1
    simp only [boolsOf, Option.map_eq_some_iff] at e
    obtain ⟨ms, e2, e3⟩ := e
    have q1 := VsRel.bools h2 e2
    subst e3
    simp only [List.map_cons, q1]
  | .non :: _, _, _, _, e => by simp [boolsOf] at e
  | .int _ :: _, _, _, _, e => by simp [boolsOf] at e
  | .str _ :: _, _, _, _, e => by simp [boolsOf] at e
  | .tup _ :: _, _, _, _, e => by simp [boolsOf] at e
  | .ref _ :: _, _, _, _, e => by simp [boolsOf] at e
theorem VsRel.ofInts : ∀ (ns : List Int), VsRel K m n H (ns.map PV.int) (ns.map V.int)
  | [] => by simp only [List.map_nil, VsRel]
  | i :: r => by
    simp only [List.map_cons, VsRel]
    exact ⟨_, _, rfl, by simp only [VRel], VsRel.ofInts r⟩
end
def CORel (K : Fg) (m : Nat → Addr) (n : Nat) (H : Hp) : CO → Addr → Prop
  | .lst xs, a => ∃ vs, H a = some (.lst vs) ∧ VsRel K m n H xs vs
  | .dct kvs, a => ∃ kvs', H a = some (.dK kvs') ∧ kvs'.map (·.1) = kvs.map (·.1) ∧ VsRel K m n H (kvs.map (·.2)) (kvs'.map (·.2))
def LKRel (K : Fg) (m : Nat → Addr) (n : Nat) (H : Hp) : CO → Addr → Prop
  | .lst xs, a => ∃ vs, H a = some (.lst vs) ∧ VsRel K m n H xs vs
  | .dct kvs, a => ∃ od kvs', H a = some (.frz od (.dK kvs')) ∧ kvs'.map (·.1) = kvs.map (·.1) ∧ VsRel K m n H (kvs.map (·.2)) (kvs'.map (·.2))
def KLst (K : Fg) (a : Addr) (vs : List V) : Prop :=
  ∃ (o : Obj) (its : Array Value) (k : Nat), K.lookup a = some o ∧ o.cls = .type "list" ∧ o.dict = none ∧ o.data = .seq its k ∧ its.size ≤ sizeLine ∧ Vals vs its.toList
def FZRel (K : Fg) (m : Nat → Addr) (n : Nat) (H : Hp) (xs : List PV) (a : Addr) : Prop :=
  ∃ vs, VsRel K m n H xs vs ∧ ((∃ o, H a = some (.frz o (.lst vs))) ∨ KLst K a vs)
def DRel (K : Fg) (m : Nat → Addr) (n : Nat) (H : Hp) : DO → Addr → Prop
  | .rw c, a => CORel K m n H c a
  | .lk c, a => LKRel K m n H c a
  | .fz xs, a => FZRel K m n H xs a
def SRel (K : Fg) (m : Nat → Addr) (n : Nat) (H : Hp) : SV → V → Prop
  | .pv p, v => VRel K m n H p v
  | .own c, v => ∃ a, v = .ref a ∧ CORel K m n H c a
  | .lk c, v => ∃ a, v = .ref a ∧ LKRel K m n H c a
def DO.isFz : DO → Bool
  | .fz _ => true
  | _ => false
def OwnS (s : DS) (i : Nat) : Prop := ∃ c, s.env[i]? = some (some (.own c)) ∨ s.env[i]? = some (some (.lk c))
def Own (m : Nat → Addr) (s : DS) (σ : SSt) (a : Addr) : Prop :=
  (∃ (n : Nat) (o : DO), s.h[n]? = some o ∧ o.isFz = false ∧ a = m n) ∨ ∃ i : Nat, OwnS s i ∧ σ[i]? = some (some (.ref a))
structure Rel (K : Fg) (m : Nat → Addr) (s : DS) (σ : SSt) (H : Hp) : Prop where
  hp : ∀ (n : Nat) (o : DO), s.h[n]? = some o → DRel K m n H o (m n)
  sl : ∀ (i : Nat) (x : SV), s.env[i]? = some (some x) → ∃ v, σ[i]? = some (some v) ∧ SRel K m s.h.length H x v
  len : s.env.length = σ.length
  inj : ∀ (n n' : Nat) (o o' : DO), s.h[n]? = some o → s.h[n']? = some o' → o.isFz = false → o'.isFz = false → m n = m n' → n = n'
  inj2 : ∀ (n : Nat) (o : DO) (i : Nat) (a : Addr), s.h[n]? = some o → o.isFz = false → OwnS s i → σ[i]? = some (some (.ref a)) → a ≠ m n
  inj3 : ∀ (i j : Nat) (a : Addr), OwnS s i → OwnS s j → σ[i]? = some (some (.ref a)) → σ[j]? = some (some (.ref a)) → i = j
def OKind : HO → Prop
  | .lst _ => True
  | .dK _ => True
  | .frz _ (.dK _) => True
  | _ => False
section
variable {K : Fg} {m m' : Nat → Addr} {n n' : Nat} {s s' : DS} {σ σ' : SSt} {H H' : Hp} {a : Addr}
theorem CORel.kind {c : CO} (h : CORel K m n H c a) : ∃ o, H a = some o ∧ OKind o := by
  cases c with
  | lst xs => obtain ⟨vs, e, _⟩ := h; exact ⟨_, e, trivial⟩
  | dct kvs => obtain ⟨vs, e, _⟩ := h; exact ⟨_, e, trivial⟩
theorem LKRel.kind {c : CO} (h : LKRel K m n H c a) : ∃ o, H a = some o ∧ OKind o := by
  cases c with
  | lst xs => obtain ⟨vs, e, _⟩ := h; exact ⟨_, e, trivial⟩
  | dct kvs => obtain ⟨od, vs, e, _⟩ := h; exact ⟨_, e, trivial⟩
theorem Rel.okind (r : Rel K m s σ H) (h : Own m s σ a) : ∃ o, H a = some o ∧ OKind o := by
  rcases h with ⟨k, o, e, hf, rfl⟩ | ⟨i, ⟨c, e⟩, hs⟩
  · have q := r.hp k o e
    cases o with
    | rw c => exact CORel.kind q
    | lk c => exact LKRel.kind q
    | fz xs => cases hf
  · rcases e with e | e
    · obtain ⟨v, h1, b, h2, h3⟩ := r.sl i _ e
      rw [hs] at h1; cases h1; cases h2
      exact CORel.kind h3
    · obtain ⟨v, h1, b, h2, h3⟩ := r.sl i _ e
      rw [hs] at h1; cases h1; cases h2
      exact LKRel.kind h3
structure Ext (T : Addr → Prop) (m : Nat → Addr) (s : DS) (σ : SSt) (H : Hp) (m' : Nat → Addr) (s' : DS) (σ' : SSt) (H' : Hp) : Prop where
  len : s.h.length ≤ s'.h.length
  mm : ∀ k, k < s.h.length → m' k = m k
  fr : ∀ a o, H a = some o → ¬ Own m s σ a → ¬ T a → H' a = some o
  ow : ∀ a, Own m' s' σ' a → Own m s σ a ∨ T a ∨ H a = none
  dom : ∀ a, H' a = none → H a = none
  lks : ∀ (i : Nat) (c : CO), s.env[i]? = some (some (.lk c)) → s'.env[i]? = some (some (.lk c)) ∧ σ'[i]? = σ[i]?
  lkh : ∀ (k : Nat) (c : CO), s.h[k]? = some (.lk c) → s'.h[k]? = some (.lk c)
  fzh : ∀ (k : Nat) (xs : List PV), s.h[k]? = some (.fz xs) → s'.h[k]? = some (.fz xs)
  nfz : ∀ (k : Nat) (o : DO), s.h[k]? = some o → o.isFz = false → ∃ o' : DO, s'.h[k]? = some o' ∧ o'.isFz = false
abbrev NoT : Addr → Prop := fun _ => False
theorem Ext.refl : Ext NoT m s σ H m s σ H :=
  ⟨Nat.le_refl _, fun _ _ => rfl, fun _ _ e _ _ => e, fun _ h => .inl h, fun _ h => h, fun _ _ h => ⟨h, rfl⟩, fun _ _ h => h, fun _ _ h => h, fun _ o h f => ⟨o, h, f⟩⟩
theorem Ext.transT {T : Addr → Prop} {m0 m1 m2 : Nat → Addr} {s0 s1 s2 : DS} {σ0 σ1 σ2 : SSt} {H0 H1 H2 : Hp} (x : Ext NoT m0 s0 σ0 H0 m1 s1 σ1 H1) (y : Ext T m1 s1 σ1 H1 m2 s2 σ2 H2) (ht : ∀ a, T a → H0 a = none) :
    Ext NoT m0 s0 σ0 H0 m2 s2 σ2 H2 where
  len := Nat.le_trans x.len y.len
  mm := fun k hk => (y.mm k (Nat.lt_of_lt_of_le hk x.len)).trans (x.mm k hk)
  fr := fun a o e no _ => by
    refine y.fr a o (x.fr a o e no (fun z => z)) (fun z => ?_) (fun z => ?_)
    · rcases x.ow a z with z | z | z
      · exact no z
      · exact z
      · rw [e] at z; cases z
    · have q := ht a z
      rw [e] at q; cases q
  ow := fun a h => by
    rcases y.ow a h with z | z | z
    · exact x.ow a z
    · exact .inr (.inr (ht a z))
    · exact .inr (.inr (x.dom a z))
  dom := fun a h => x.dom a (y.dom a h)
  lks := fun i c h => let ⟨p, q⟩ := x.lks i c h; let ⟨p', q'⟩ := y.lks i c p; ⟨p', q'.trans q⟩
  lkh := fun k c h => y.lkh k c (x.lkh k c h)
  fzh := fun k c h => y.fzh k c (x.fzh k c h)
  nfz := fun k o h f => let ⟨o1, h1, f1⟩ := x.nfz k o h f; y.nfz k o1 h1 f1
theorem Ext.trans {m0 m1 m2 : Nat → Addr} {s0 s1 s2 : DS} {σ0 σ1 σ2 : SSt} {H0 H1 H2 : Hp} (x : Ext NoT m0 s0 σ0 H0 m1 s1 σ1 H1) (y : Ext NoT m1 s1 σ1 H1 m2 s2 σ2 H2) : Ext NoT m0 s0 σ0 H0 m2 s2 σ2 H2 :=
  x.transT y fun _ z => z.elim
theorem sqT_keep {vs : List V} (hk : ∀ o, H a = some o → ¬ OKind o → H' a = some o) (h : SqT K H a vs) : SqT K H' a vs := by
  rcases h with (h | ⟨o, h⟩) | h
  · exact .inl (.inl (hk _ h (fun z => z)))
  · exact .inl (.inr ⟨o, hk _ h (fun z => z)⟩)
  · exact .inr h
theorem Ext.sqT {T : Addr → Prop} (r : Rel K m s σ H) (x : Ext T m s σ H m' s' σ' H') (hT : ∀ a, T a → ∃ o, H a = some o ∧ OKind o) : ∀ a vs, SqT K H a vs → SqT K H' a vs := fun a vs h =>
  sqT_keep (fun o e nk => x.fr a o e (fun z => by
    obtain ⟨o', e', k⟩ := r.okind z
    rw [e] at e'; cases e'; exact nk k) fun z => by
    obtain ⟨o', e', k⟩ := hT a z
    rw [e] at e'; cases e'; exact nk k) h
end
def EVRel (K : Fg) (m : Nat → Addr) (s : DS) (σ : SSt) (H : Hp) : EV → V → Prop
  | .pv p, v => VRel K m s.h.length H p v
  | .tmp c, v => ∃ a, v = .ref a ∧ CORel K m s.h.length H c a ∧ ¬ Own m s σ a
  | .bw i, v => σ[i]? = some (some v)
def Fresh (H : Hp) (e : EV) (v : V) : Prop := ∀ c a, e = .tmp c → v = .ref a → H a = none
def TmpAt : List EV → List V → Addr → Prop
  | e :: es, v :: vs, a => ((∃ c, e = .tmp c) ∧ v = .ref a) ∨ TmpAt es vs a
  | _, _, _ => False
def EVsRel (K : Fg) (m : Nat → Addr) (s : DS) (σ : SSt) (H : Hp) : List EV → List V → Prop
  | [], vs => vs = []
  | e :: es, vs => ∃ v r, vs = v :: r ∧ EVRel K m s σ H e v ∧ (∀ c a, e = .tmp c → v = .ref a → ¬ TmpAt es r a) ∧ EVsRel K m s σ H es r
section
variable {K : Fg} {m m' : Nat → Addr} {s s' : DS} {σ σ' : SSt} {H H' : Hp} {a : Addr}
theorem CORel.mono {n n' : Nat} {c : CO} (hm : ∀ k, k < n → m' k = m k) (hn : n ≤ n') (ht : ∀ a vs, SqT K H a vs → SqT K H' a vs) (ha : ∀ o, H a = some o → H' a = some o) (h : CORel K m n H c a) : CORel K m' n' H' c a := by
  cases c with
  | lst xs => obtain ⟨vs, e, q⟩ := h; exact ⟨vs, ha _ e, q.mono hm hn ht⟩
  | dct kvs => obtain ⟨vs, e, q1, q⟩ := h; exact ⟨vs, ha _ e, q1, q.mono hm hn ht⟩
theorem LKRel.mono {n n' : Nat} {c : CO} (hm : ∀ k, k < n → m' k = m k) (hn : n ≤ n') (ht : ∀ a vs, SqT K H a vs → SqT K H' a vs) (ha : ∀ o, H a = some o → H' a = some o) (h : LKRel K m n H c a) : LKRel K m' n' H' c a := by
  cases c with
  | lst xs => obtain ⟨vs, e, q⟩ := h; exact ⟨vs, ha _ e, q.mono hm hn ht⟩
  | dct kvs => obtain ⟨od, vs, e, q1, q⟩ := h; exact ⟨od, vs, ha _ e, q1, q.mono hm hn ht⟩
theorem FZRel.mono {n n' : Nat} {xs : List PV} (hm : ∀ k, k < n → m' k = m k) (hn : n ≤ n') (ht : ∀ a vs, SqT K H a vs → SqT K H' a vs) (ha : ∀ o vs, H a = some (.frz o (.lst vs)) → H' a = some (.frz o (.lst vs))) (h : FZRel K m n H xs a) : FZRel K m' n' H' xs a := by
  obtain ⟨vs, q, e | e⟩ := h
  · obtain ⟨o, e⟩ := e
    exact ⟨vs, q.mono hm hn ht, .inl ⟨o, ha _ _ e⟩⟩
  · exact ⟨vs, q.mono hm hn ht, .inr e⟩
theorem EVRel.step {e : EV} {v : V} (h : EVRel K m s σ H e v) (r : Rel K m s σ H) (x : Ext NoT m s σ H m' s' σ H') : EVRel K m' s' σ H' e v := by
  have ht := x.sqT r fun _ z => z.elim
  cases e with
  | pv p => exact VRel.mono x.mm x.len ht h
  | bw i => exact h
  | tmp c =>
    obtain ⟨a, e, q, no⟩ := h
    obtain ⟨o, ho, _⟩ := q.kind
    refine ⟨a, e, q.mono x.mm x.len ht (fun o' e' => x.fr a o' e' no (fun z => z)), fun z => ?_⟩
    rcases x.ow a z with z | z | z
    · exact no z
    · exact z
    · rw [ho] at z; cases z
theorem tmpAt_some {es : List EV} {vs : List V} (h : EVsRel K m s σ H es vs) : TmpAt es vs a → ∃ o, H a = some o ∧ OKind o := by
  induction es generalizing vs with
  | nil => intro z; cases h; exact z.elim
  | cons e es ih =>
    obtain ⟨v, r, e1, h1, _, h2⟩ := h
    subst e1
    rintro (⟨⟨c, rfl⟩, rfl⟩ | z)
    · obtain ⟨b, e, q, _⟩ := h1
      cases e
      exact q.kind
    · exact ih h2 z
theorem tmpAt_no {es : List EV} {vs : List V} (h : EVsRel K m s σ H es vs) : TmpAt es vs a → ¬ Own m s σ a := by
  induction es generalizing vs with
  | nil => intro z; cases h; exact z.elim
  | cons e es ih =>
    obtain ⟨v, r, e1, h1, _, h2⟩ := h
    subst e1
    rintro (⟨⟨c, rfl⟩, rfl⟩ | z)
    · obtain ⟨b, e, q, no⟩ := h1
      cases e
      exact no
    · exact ih h2 z
end
end DV
namespace DV
open PySem PySem.Spec PyProof.Rows L2
section
variable {K : Fg} {m m' : Nat → Addr} {s s' : DS} {σ σ' : SSt} {H H' : Hp} {a : Addr} {T : Addr → Prop}
theorem Rel.grow (r : Rel K m s σ H) (g : ∀ a o, H a = some o → H' a = some o) : Rel K m s σ H' := by
  have ht : ∀ a vs, SqT K H a vs → SqT K H' a vs := fun a vs h => sqT_keep (fun o e _ => g a o e) h
  refine ⟨fun n o e => ?_, fun i x e => ?_, r.len, r.inj, r.inj2, r.inj3⟩
  · have q := r.hp n o e
    cases o with
    | rw c => exact CORel.mono (fun _ _ => rfl) (Nat.le_refl _) ht (fun o e => g _ o e) q
    | lk c => exact LKRel.mono (fun _ _ => rfl) (Nat.le_refl _) ht (fun o e => g _ o e) q
    | fz xs => exact FZRel.mono (fun _ _ => rfl) (Nat.le_refl _) ht (fun o vs e => g _ _ e) q
  · obtain ⟨v, h1, h2⟩ := r.sl i x e
    refine ⟨v, h1, ?_⟩
    cases x with
    | pv p => exact VRel.mono (fun _ _ => rfl) (Nat.le_refl _) ht h2
    | own c =>
      obtain ⟨b, h3, h4⟩ := h2
      exact ⟨b, h3, h4.mono (fun _ _ => rfl) (Nat.le_refl _) ht (fun o e => g _ o e)⟩
    | lk c =>
      obtain ⟨b, h3, h4⟩ := h2
      exact ⟨b, h3, h4.mono (fun _ _ => rfl) (Nat.le_refl _) ht (fun o e => g _ o e)⟩
theorem Ext.grow (g : ∀ a o, H a = some o → H' a = some o) : Ext T m s σ H m s σ H' :=
  ⟨Nat.le_refl _, fun _ _ => rfl, fun a o e _ _ => g a o e, fun _ h => .inl h, fun a h => (by
    cases q : H a with
    | none => rfl
    | some o =>
      rw [g a o q] at h
      cases h), fun _ _ h => ⟨h, rfl⟩, fun _ _ h => h, fun _ _ h => h, fun _ o h f => ⟨o, h, f⟩⟩
theorem Ext.toT (x : Ext NoT m s σ H m' s' σ' H') : Ext T m s σ H m' s' σ' H' :=
  ⟨x.len, x.mm, fun a o e n _ => x.fr a o e n (fun z => z), fun a h => (x.ow a h).elim .inl fun z => z.elim (fun z => z.elim) fun z => .inr (.inr z), x.dom, x.lks, x.lkh, x.fzh, x.nfz⟩
theorem Ext.weak {T' : Addr → Prop} (x : Ext T m s σ H m' s' σ' H') (h : ∀ a, T a → T' a) : Ext T' m s σ H m' s' σ' H' :=
  ⟨x.len, x.mm, fun a o e n nt => x.fr a o e n (fun z => nt (h a z)), fun a q => (x.ow a q).elim .inl fun z => z.elim (fun z => .inr (.inl (h a z))) fun z => .inr (.inr z), x.dom, x.lks, x.lkh, x.fzh, x.nfz⟩
theorem Ext.then' {T' : Addr → Prop} {m0 m1 m2 : Nat → Addr} {s0 s1 s2 : DS} {σ0 σ1 σ2 : SSt} {H0 H1 H2 : Hp} (x : Ext T m0 s0 σ0 H0 m1 s1 σ1 H1) (y : Ext T' m1 s1 σ1 H1 m2 s2 σ2 H2) :
    Ext (fun a => T a ∨ T' a) m0 s0 σ0 H0 m2 s2 σ2 H2 where
  len := Nat.le_trans x.len y.len
  mm := fun k hk => (y.mm k (Nat.lt_of_lt_of_le hk x.len)).trans (x.mm k hk)
  fr := fun a o e no nt => by
    refine y.fr a o (x.fr a o e no (fun z => nt (.inl z))) (fun z => ?_) (fun z => nt (.inr z))
    rcases x.ow a z with z | z | z
    · exact no z
    · exact nt (.inl z)
    · rw [e] at z; cases z
  ow := fun a h => by
    rcases y.ow a h with z | z | z
    · rcases x.ow a z with z | z | z
      · exact .inl z
      · exact .inr (.inl (.inl z))
      · exact .inr (.inr z)
    · exact .inr (.inl (.inr z))
    · exact .inr (.inr (x.dom a z))
  dom := fun a h => x.dom a (y.dom a h)
  lks := fun i c h => let ⟨p, q⟩ := x.lks i c h; let ⟨p', q'⟩ := y.lks i c p; ⟨p', q'.trans q⟩
  lkh := fun k c h => y.lkh k c (x.lkh k c h)
  fzh := fun k c h => y.fzh k c (x.fzh k c h)
  nfz := fun k o h f => let ⟨o1, h1, f1⟩ := x.nfz k o h f; y.nfz k o1 h1 f1
theorem EVRel.stepT {e : EV} {v : V} (h : EVRel K m s σ H e v) (r : Rel K m s σ H) (x : Ext T m s σ H m' s' σ H') (hT : ∀ a, T a → ∃ o, H a = some o ∧ OKind o) (hn : ∀ c a, e = .tmp c → v = .ref a → ¬ T a) : EVRel K m' s' σ H' e v := by
  have ht := x.sqT r hT
  cases e with
  | pv p => exact VRel.mono x.mm x.len ht h
  | bw i => exact h
  | tmp c =>
    obtain ⟨a, e, q, no⟩ := h
    obtain ⟨o, ho, _⟩ := q.kind
    have nt := hn c a rfl e
    refine ⟨a, e, q.mono x.mm x.len ht (fun o' e' => x.fr a o' e' no nt), fun z => ?_⟩
    rcases x.ow a z with z | z | z
    · exact no z
    · exact nt z
    · rw [ho] at z; cases z
theorem EVsRel.stepT {es : List EV} {vs : List V} (h : EVsRel K m s σ H es vs) (r : Rel K m s σ H) (x : Ext T m s σ H m' s' σ H') (hT : ∀ a, T a → ∃ o, H a = some o ∧ OKind o) (hn : ∀ a, TmpAt es vs a → ¬ T a) : EVsRel K m' s' σ H' es vs := by
  induction es generalizing vs with
  | nil => exact h
  | cons e es ih =>
    obtain ⟨v, rr, e1, h1, h2, h3⟩ := h
    subst e1
    exact ⟨v, rr, rfl, h1.stepT r x hT (fun c a e1 e2 => hn a (.inl ⟨⟨c, e1⟩, e2⟩)), h2, ih h3 fun a z => hn a (.inr z)⟩
theorem getElem?_snoc {α : Type} (l : List α) (x : α) (n : Nat) : (l ++ [x])[n]? = if n = l.length then some x else l[n]? := by
  by_cases h : n < l.length
  · rw [List.getElem?_append_left h, if_neg (by omega)]
  · rw [List.getElem?_append_right (by omega)]
    by_cases h2 : n = l.length
    · subst h2; simp
    · rw [if_neg h2, List.getElem?_eq_none (l := l) (by omega), List.getElem?_eq_none]
      simp; omega
def ext1 (m : Nat → Addr) (n : Nat) (a : Addr) : Nat → Addr := fun k => if k = n then a else m k
theorem alloc_ok {c : CO} {env' : List (Option SV)} (r : Rel K m s σ H) (q : CORel K m s.h.length H c a) (hT : ∀ b, T b ↔ b = a)
    (he : (env' = s.env ∧ ¬ Own m s σ a) ∨ ∃ i, s.env[i]? = some (some (.own c)) ∧ σ[i]? = some (some (.ref a)) ∧ env' = s.env.set i (some (.pv (.ref s.h.length)))) :
    Rel K (ext1 m s.h.length a) ⟨env', s.h ++ [.rw c]⟩ σ H ∧ Ext T m s σ H (ext1 m s.h.length a) ⟨env', s.h ++ [.rw c]⟩ σ H := by
  have hm : ∀ k, k < s.h.length → ext1 m s.h.length a k = m k := fun k hk => if_neg (Nat.ne_of_lt hk)
  have hl : ext1 m s.h.length a s.h.length = a := if_pos rfl
  have hlen : (s.h ++ [DO.rw c]).length = s.h.length + 1 := by simp
  have hs : ∀ (j : Nat) (x : SV), env'[j]? = some (some x) → s.env[j]? = some (some x) ∨ (x = .pv (.ref s.h.length) ∧ σ[j]? = some (some (.ref a))) := fun j x e => by
    rcases he with ⟨rfl, _⟩ | ⟨i, h1, h2, rfl⟩
    · exact .inl e
    · by_cases hj : i = j
      · subst hj
        have : i < s.env.length := (List.getElem?_eq_some_iff.mp h1).1
        rw [List.getElem?_set_self this] at e
        cases e
        exact .inr ⟨rfl, h2⟩
      · rw [List.getElem?_set_ne hj] at e
        exact .inl e
  have ho : ∀ j, OwnS ⟨env', s.h ++ [DO.rw c]⟩ j → OwnS s j ∧ (σ[j]? = some (some (.ref a)) → False) := fun j ⟨d, hd⟩ => by
    have e1 : s.env[j]? = some (some (.own d)) ∨ s.env[j]? = some (some (.lk d)) := by
      rcases hd with hd | hd
      · rcases hs j _ hd with z | ⟨z, _⟩
        · exact .inl z
        · cases z
      · rcases hs j _ hd with z | ⟨z, _⟩
        · exact .inr z
        · cases z
    refine ⟨⟨d, e1⟩, fun h => ?_⟩
    rcases he with ⟨rfl, no⟩ | ⟨i, h1, h2, rfl⟩
    · exact no (.inr ⟨j, ⟨d, e1⟩, h⟩)
    · have : i = j := r.inj3 i j a ⟨c, .inl h1⟩ ⟨d, e1⟩ h2 h
      subst this
      have : i < s.env.length := (List.getElem?_eq_some_iff.mp h1).1
      rcases hd with hd | hd <;> (simp only at hd; rw [List.getElem?_set_self this] at hd; cases hd)
  have hna : ∀ n o, s.h[n]? = some o → o.isFz = false → m n ≠ a := fun n o e f z => by
    rcases he with ⟨_, no⟩ | ⟨i, h1, h2, _⟩
    · exact no (.inl ⟨n, o, e, f, z.symm⟩)
    · exact r.inj2 n o i a e f ⟨c, .inl h1⟩ h2 z.symm
  have cases_h : ∀ n o, (s.h ++ [DO.rw c])[n]? = some o → (n = s.h.length ∧ o = .rw c) ∨ (n < s.h.length ∧ s.h[n]? = some o) := fun n o e => by
    rw [getElem?_snoc] at e
    by_cases hn : n = s.h.length
    · rw [if_pos hn] at e; cases e; exact .inl ⟨hn, rfl⟩
    · rw [if_neg hn] at e; exact .inr ⟨(List.getElem?_eq_some_iff.mp e).1, e⟩
  have id2 : ∀ a vs, SqT K H a vs → SqT K H a vs := fun _ _ h => h
  refine ⟨⟨fun n o e => ?_, fun j x e => ?_, ?_, fun n n' o o' e e' f f' h => ?_, fun n o i b e f hi hb => ?_, fun i j b hi hj h1 h2 => r.inj3 i j b (ho i hi).1 (ho j hj).1 h1 h2⟩,
    ⟨?_, hm, fun _ _ e _ _ => e, fun b hb => ?_, fun _ h => h, fun i d h => ?_, fun k d h => ?_, fun k xs h => ?_, fun k o h f => ⟨o, (List.getElem?_append_left (List.getElem?_eq_some_iff.mp h).1).trans h, f⟩⟩⟩
  · rcases cases_h n o e with ⟨rfl, rfl⟩ | ⟨hn, e⟩
    · rw [hl]; exact CORel.mono hm (Nat.le_refl _) id2 (fun _ h => h) q
    · rw [hm n hn]
      have hm' : ∀ k, k < n → ext1 m s.h.length a k = m k := fun k hk => hm k (Nat.lt_trans hk hn)
      have z := r.hp n o e
      cases o with
      | rw c => exact CORel.mono hm' (Nat.le_refl _) id2 (fun _ h => h) z
      | lk c => exact LKRel.mono hm' (Nat.le_refl _) id2 (fun _ h => h) z
      | fz xs => exact FZRel.mono hm' (Nat.le_refl _) id2 (fun _ _ h => h) z
  · show ∃ v, _ ∧ SRel K _ (s.h ++ [DO.rw c]).length H x v
    rw [hlen]
    rcases hs j x e with e | ⟨rfl, e2⟩
    · obtain ⟨v, h1, h2⟩ := r.sl j x e
      refine ⟨v, h1, ?_⟩
      cases x with
      | pv p => exact VRel.mono hm (Nat.le_succ _) id2 h2
      | own c => obtain ⟨b, h3, h4⟩ := h2; exact ⟨b, h3, h4.mono hm (Nat.le_succ _) id2 (fun _ h => h)⟩
      | lk c => obtain ⟨b, h3, h4⟩ := h2; exact ⟨b, h3, h4.mono hm (Nat.le_succ _) id2 (fun _ h => h)⟩
    · refine ⟨_, e2, ?_⟩
      show VRel K _ _ H (.ref s.h.length) (.ref a)
      simp only [VRel]
      exact ⟨Nat.lt_succ_self _, by rw [hl]⟩
  · show env'.length = σ.length
    rcases he with ⟨rfl, _⟩ | ⟨i, _, _, rfl⟩
    · exact r.len
    · rw [List.length_set]; exact r.len
  · rcases cases_h n o e with ⟨rfl, rfl⟩ | ⟨hn, e⟩ <;> rcases cases_h n' o' e' with ⟨rfl, rfl⟩ | ⟨hn', e'⟩
    · rfl
    · rw [hl, hm n' hn'] at h; exact (hna n' o' e' f' h.symm).elim
    · rw [hl, hm n hn] at h; exact (hna n o e f h).elim
    · rw [hm n hn, hm n' hn'] at h; exact r.inj n n' o o' e e' f f' h
  · rcases cases_h n o e with ⟨rfl, rfl⟩ | ⟨hn, e⟩
    · rw [hl]
      rintro rfl
      exact (ho i hi).2 hb
    · rw [hm n hn]; exact r.inj2 n o i b e f (ho i hi).1 hb
  · show s.h.length ≤ (s.h ++ [DO.rw c]).length
    rw [hlen]; exact Nat.le_succ _
  · rcases hb with ⟨n, o, e, f, rfl⟩ | ⟨i, hi, hb⟩
    · rcases cases_h n o e with ⟨rfl, rfl⟩ | ⟨hn, e⟩
      · rw [hl]
        exact .inr (.inl ((hT a).mpr rfl))
      · rw [hm n hn]; exact .inl (.inl ⟨n, o, e, f, rfl⟩)
    · exact .inl (.inr ⟨i, (ho i hi).1, hb⟩)
  · refine ⟨?_, rfl⟩
    show env'[i]? = _
    rcases he with ⟨rfl, _⟩ | ⟨j, h1, _, rfl⟩
    · exact h
    · by_cases hj : j = i
      · subst hj; rw [h1] at h; cases h
      · rw [List.getElem?_set_ne hj]; exact h
  · show (s.h ++ [DO.rw c])[k]? = _
    rw [List.getElem?_append_left (List.getElem?_eq_some_iff.mp h).1]; exact h
  · show (s.h ++ [DO.rw c])[k]? = _
    rw [List.getElem?_append_left (List.getElem?_eq_some_iff.mp h).1]; exact h
theorem put_ok {i : Nat} {x : SV} {v : V} {y : Option SV} (r : Rel K m s σ H) (hy : s.env[i]? = some y) (nl : ∀ c, y ≠ some (.lk c)) (hx : SRel K m s.h.length H x v) (hn : ∀ c a, x = .own c → v = .ref a → ¬ Own m s σ a) (nk : ∀ c, x ≠ .lk c)
    (hT : ∀ c a, x = .own c → v = .ref a → T a) : Rel K m { s with env := s.env.set i (some x) } (σ.set i (some v)) H ∧ Ext T m s σ H m { s with env := s.env.set i (some x) } (σ.set i (some v)) H := by
  have hi : i < s.env.length := (List.getElem?_eq_some_iff.mp hy).1
  have hiσ : i < σ.length := by rw [← r.len]; exact hi
  have hs : ∀ (j : Nat) (z : SV), (s.env.set i (some x))[j]? = some (some z) → (j = i ∧ z = x) ∨ (j ≠ i ∧ s.env[j]? = some (some z)) := fun j z e => by
    by_cases hj : i = j
    · subst hj; rw [List.getElem?_set_self hi] at e; cases e; exact .inl ⟨rfl, rfl⟩
    · rw [List.getElem?_set_ne hj] at e; exact .inr ⟨Ne.symm hj, e⟩
  have hv : (σ.set i (some v))[i]? = some (some v) := List.getElem?_set_self hiσ
  have hv' : ∀ j, j ≠ i → (σ.set i (some v))[j]? = σ[j]? := fun j hj => List.getElem?_set_ne (Ne.symm hj)
  have ho : ∀ j b, OwnS { s with env := s.env.set i (some x) } j → (σ.set i (some v))[j]? = some (some (.ref b)) → (j = i ∧ (∃ c, x = .own c) ∧ v = .ref b) ∨ (j ≠ i ∧ OwnS s j ∧ σ[j]? = some (some (.ref b))) := fun j b ⟨d, hd⟩ e => by
    rcases hd with hd | hd
    · rcases hs j _ hd with ⟨rfl, z⟩ | ⟨hj, z⟩
      · rw [hv] at e; cases e; exact .inl ⟨rfl, ⟨d, z.symm⟩, rfl⟩
      · rw [hv' j hj] at e; exact .inr ⟨hj, ⟨d, .inl z⟩, e⟩
    · rcases hs j _ hd with ⟨rfl, z⟩ | ⟨hj, z⟩
      · exact (nk d z.symm).elim
      · rw [hv' j hj] at e; exact .inr ⟨hj, ⟨d, .inr z⟩, e⟩
  refine ⟨⟨r.hp, fun j z e => ?_, ?_, r.inj, fun n o j b e f hj hb => ?_, fun j k b hj hk h1 h2 => ?_⟩, ⟨Nat.le_refl _, fun _ _ => rfl, fun _ _ e _ _ => e, fun b hb => ?_, fun _ h => h, fun j d h => ?_, fun _ _ h => h, fun _ _ h => h, fun _ o h f => ⟨o, h, f⟩⟩⟩
  · rcases hs j z e with ⟨rfl, rfl⟩ | ⟨hj, e⟩
    · exact ⟨v, hv, hx⟩
    · rw [hv' j hj]; exact r.sl j z e
  · show (s.env.set i (some x)).length = _
    rw [List.length_set, List.length_set]; exact r.len
  · rcases ho j b hj hb with ⟨rfl, ⟨c, z⟩, z2⟩ | ⟨_, z, z2⟩
    · intro q
      exact hn c b z z2 (.inl ⟨n, o, e, f, q⟩)
    · exact r.inj2 n o j b e f z z2
  · rcases ho j b hj h1 with ⟨rfl, ⟨c, z⟩, z2⟩ | ⟨q1, z, z2⟩ <;> rcases ho k b hk h2 with ⟨rfl, ⟨c', z'⟩, z2'⟩ | ⟨q1', z', z2'⟩
    · rfl
    · exact (hn c b z z2 (.inr ⟨k, z', z2'⟩)).elim
    · exact (hn c' b z' z2' (.inr ⟨j, z, z2⟩)).elim
    · exact r.inj3 j k b z z' z2 z2'
  · rcases hb with ⟨n, o, e, f, rfl⟩ | ⟨j, hj, hb⟩
    · exact .inl (.inl ⟨n, o, e, f, rfl⟩)
    · rcases ho j b hj hb with ⟨rfl, ⟨c, z⟩, z2⟩ | ⟨_, z, z2⟩
      · exact .inr (.inl (hT c b z z2))
      · exact .inl (.inr ⟨j, z, z2⟩)
  · have hj : j ≠ i := by
      rintro rfl
      rw [hy] at h; cases h; exact nl d rfl
    refine ⟨?_, hv' j hj⟩
    show (s.env.set i (some x))[j]? = _
    rw [List.getElem?_set_ne (Ne.symm hj)]; exact h
theorem write_ok {c c0 : CO} {o' : HO} (r : Rel K m s σ H) (k' : OKind o') {s' : DS}
    (he : (∃ n, s.h[n]? = some (.rw c0) ∧ a = m n ∧ CORel K m n (upd H a o') c a ∧ s' = { s with h := s.h.set n (.rw c) }) ∨
      ∃ i, s.env[i]? = some (some (.own c0)) ∧ σ[i]? = some (some (.ref a)) ∧ CORel K m s.h.length (upd H a o') c a ∧ s' = { s with env := s.env.set i (some (.own c)) }) :
    Rel K m s' σ (upd H a o') ∧ Ext T m s σ H m s' σ (upd H a o') := by
  have own : Own m s σ a := by
    rcases he with ⟨n, h1, h2, _, _⟩ | ⟨i, h1, h2, _, _⟩
    · exact .inl ⟨n, _, h1, rfl, h2⟩
    · exact .inr ⟨i, ⟨c0, .inl h1⟩, h2⟩
  obtain ⟨oa, hoa, koa⟩ := r.okind own
  have up : ∀ b o, b ≠ a → H b = some o → upd H a o' b = some o := fun b o hb e => by rw [upd_ne hb]; exact e
  have ht : ∀ b vs, SqT K H b vs → SqT K (upd H a o') b vs := fun b vs h => sqT_keep (fun o e nk => up b o (fun z => by
    subst z; rw [hoa] at e; cases e; exact nk koa) e) h
  have hh : ∀ n o, s'.h[n]? = some o → DRel K m n (upd H a o') o (m n) := by
    intro n o e
    have old : s.h[n]? = some o → (o.isFz = false → m n ≠ a) → DRel K m n (upd H a o') o (m n) := fun e ne => by
      have z := r.hp n o e
      cases o with
      | rw c => exact CORel.mono (fun _ _ => rfl) (Nat.le_refl _) ht (fun o e => up _ o (ne rfl) e) z
      | lk c => exact LKRel.mono (fun _ _ => rfl) (Nat.le_refl _) ht (fun o e => up _ o (ne rfl) e) z
      | fz xs => exact FZRel.mono (fun _ _ => rfl) (Nat.le_refl _) ht (fun o vs e => up _ _ (fun z => by
          rw [z, hoa] at e; cases e; exact koa) e) z
    rcases he with ⟨k, h1, rfl, h3, rfl⟩ | ⟨i, h1, h2, h3, rfl⟩
    · have hk : k < s.h.length := (List.getElem?_eq_some_iff.mp h1).1
      by_cases hn : k = n
      · subst hn
        have e' : (s.h.set k (.rw c))[k]? = some o := e
        rw [List.getElem?_set_self hk] at e'; cases e'
        exact h3
      · have e' : (s.h.set k (.rw c))[n]? = some o := e
        rw [List.getElem?_set_ne hn] at e'
        exact old e' fun f z => hn (r.inj k n _ o h1 e' rfl f z.symm)
    · exact old e fun f z => r.inj2 n o i a e f ⟨c0, .inl h1⟩ h2 z.symm
  have hlen : s'.h.length = s.h.length := by
    rcases he with ⟨k, _, _, _, rfl⟩ | ⟨i, _, _, _, rfl⟩
    · exact List.length_set
    · rfl
  have henv : ∀ (j : Nat) (x : SV), s'.env[j]? = some (some x) → (s.env[j]? = some (some x) ∧ ∀ b, OwnS s j → σ[j]? = some (some (.ref b)) → b ≠ a) ∨ (x = .own c ∧ σ[j]? = some (some (.ref a)) ∧ s.env[j]? = some (some (.own c0)) ∧ CORel K m s.h.length (upd H a o') c a) := by
    intro j x e
    rcases he with ⟨k, h1, rfl, h3, rfl⟩ | ⟨i, h1, h2, h3, rfl⟩
    · exact .inl ⟨e, fun b hj hb => r.inj2 k _ j b h1 rfl hj hb⟩
    · have hi : i < s.env.length := (List.getElem?_eq_some_iff.mp h1).1
      by_cases hj : i = j
      · subst hj
        have e' : (s.env.set i (some (.own c)))[i]? = some (some x) := e
        rw [List.getElem?_set_self hi] at e'; cases e'
        exact .inr ⟨rfl, h2, h1, h3⟩
      · have e' : (s.env.set i (some (.own c)))[j]? = some (some x) := e
        rw [List.getElem?_set_ne hj] at e'
        exact .inl ⟨e', fun b hb hb2 z => hj (r.inj3 i j a ⟨c0, .inl h1⟩ hb h2 (by rw [← z]; exact hb2))⟩
  have hown : ∀ j, OwnS s' j → OwnS s j := fun j ⟨d, hd⟩ => by
    rcases hd with hd | hd
    · rcases henv j _ hd with ⟨z, _⟩ | ⟨z, _, z3, _⟩
      · exact ⟨d, .inl z⟩
      · exact ⟨c0, .inl z3⟩
    · rcases henv j _ hd with ⟨z, _⟩ | ⟨z, _⟩
      · exact ⟨d, .inr z⟩
      · cases z
  have hhb : ∀ (n : Nat) (o : DO), s'.h[n]? = some o → ∃ o1 : DO, s.h[n]? = some o1 ∧ o1.isFz = o.isFz := fun n o e => by
    rcases he with ⟨k, h1, rfl, h3, rfl⟩ | ⟨i, h1, h2, h3, rfl⟩
    · have hk : k < s.h.length := (List.getElem?_eq_some_iff.mp h1).1
      by_cases hn : k = n
      · subst hn
        have e' : (s.h.set k (.rw c))[k]? = some o := e
        rw [List.getElem?_set_self hk] at e'; cases e'
        exact ⟨_, h1, rfl⟩
      · have e' : (s.h.set k (.rw c))[n]? = some o := e
        rw [List.getElem?_set_ne hn] at e'
        exact ⟨o, e', rfl⟩
    · exact ⟨o, e, rfl⟩
  refine ⟨⟨hh, fun j x e => ?_, ?_, fun n n' o o' e e' f f' h => ?_, fun n o j b e f hj hb => ?_, fun i j b hi hj h1 h2 => r.inj3 i j b (hown i hi) (hown j hj) h1 h2⟩,
    ⟨by rw [hlen]; exact Nat.le_refl _, fun _ _ => rfl, fun b o e no _ => up b o (fun z => no (z ▸ own)) e, fun b hb => ?_, fun b hb => ?_, fun j d h => ⟨?_, rfl⟩, fun k d h => ?_, fun k xs h => ?_, fun k o h f => ?_⟩⟩
  · rw [hlen]
    rcases henv j x e with ⟨e, hne⟩ | ⟨rfl, e, _, h3⟩
    · obtain ⟨v, h1, h2⟩ := r.sl j x e
      refine ⟨v, h1, ?_⟩
      cases x with
      | pv p => exact VRel.mono (fun _ _ => rfl) (Nat.le_refl _) ht h2
      | own d => obtain ⟨b, h3, h4⟩ := h2; subst h3; exact ⟨b, rfl, h4.mono (fun _ _ => rfl) (Nat.le_refl _) ht (fun o e' => up b o (hne b ⟨d, .inl e⟩ h1) e')⟩
      | lk d => obtain ⟨b, h3, h4⟩ := h2; subst h3; exact ⟨b, rfl, h4.mono (fun _ _ => rfl) (Nat.le_refl _) ht (fun o e' => up b o (hne b ⟨d, .inr e⟩ h1) e')⟩
    · exact ⟨_, e, a, rfl, h3⟩
  · rcases he with ⟨k, _, _, _, rfl⟩ | ⟨i, _, _, _, rfl⟩
    · exact r.len
    · show (s.env.set i _).length = _
      rw [List.length_set]; exact r.len
  · obtain ⟨o1, q1, f1⟩ := hhb n o e
    obtain ⟨o2, q2, f2⟩ := hhb n' o' e'
    exact r.inj n n' o1 o2 q1 q2 (f1.trans f) (f2.trans f') h
  · obtain ⟨o1, q1, f1⟩ := hhb n o e
    exact r.inj2 n o1 j b q1 (f1.trans f) (hown j hj) hb
  · rcases hb with ⟨n, o, e, f, rfl⟩ | ⟨j, hj, hb⟩
    · obtain ⟨o1, q1, f1⟩ := hhb n o e
      exact .inl (.inl ⟨n, o1, q1, f1.trans f, rfl⟩)
    · exact .inl (.inr ⟨j, hown j hj, hb⟩)
  · by_cases z : b = a
    · subst z; rw [upd_same] at hb; cases hb
    · rw [upd_ne z] at hb; exact hb
  · rcases he with ⟨k, _, _, _, rfl⟩ | ⟨i, h1, _, _, rfl⟩
    · exact h
    · show (s.env.set i _)[j]? = _
      by_cases hj : i = j
      · subst hj; rw [h1] at h; cases h
      · rw [List.getElem?_set_ne hj]; exact h
  · rcases he with ⟨n, h1, _, _, rfl⟩ | ⟨i, _, _, _, rfl⟩
    · show (s.h.set n _)[k]? = _
      by_cases hn : n = k
      · subst hn; rw [h1] at h; cases h
      · rw [List.getElem?_set_ne hn]; exact h
    · exact h
  · rcases he with ⟨n, h1, _, _, rfl⟩ | ⟨i, _, _, _, rfl⟩
    · show (s.h.set n _)[k]? = _
      by_cases hn : n = k
      · subst hn; rw [h1] at h; cases h
      · rw [List.getElem?_set_ne hn]; exact h
    · exact h
  · rcases he with ⟨n, h1, _, _, rfl⟩ | ⟨i, _, _, _, rfl⟩
    · by_cases hn : n = k
      · subst hn
        exact ⟨.rw c, List.getElem?_set_self (List.getElem?_eq_some_iff.mp h1).1, rfl⟩
      · exact ⟨o, (List.getElem?_set_ne hn).trans h, f⟩
    · exact ⟨o, h, f⟩
end
end DV
namespace DV
open PySem PySem.Spec PyProof.Rows L2
def wp {α : Type} (c : M α) (s : DS) (Q : α → DS → Prop) (X : EX → DS → Prop) : Prop := match c s with
  | .ok a s' => Q a s'
  | .ex x s' => X x s'
  | .no => False
theorem wp_bnd {α β : Type} {c : M α} {f : α → M β} {s : DS} {Q : β → DS → Prop} {X : EX → DS → Prop} : wp (M.bnd c f) s Q X ↔ wp c s (fun a s' => wp (f a) s' Q X) X := by
  unfold wp M.bnd
  cases c s <;> exact Iff.rfl
theorem wp_ret {α : Type} {a : α} {s : DS} {Q : α → DS → Prop} {X : EX → DS → Prop} : wp (M.ret a) s Q X ↔ Q a s := Iff.rfl
theorem wp_mono {α : Type} {c : M α} {s : DS} {Q Q' : α → DS → Prop} {X X' : EX → DS → Prop} (h : wp c s Q X) (hq : ∀ a s', Q a s' → Q' a s') (hx : ∀ x s', X x s' → X' x s') : wp c s Q' X' := by
  unfold wp at h ⊢
  cases e : c s with
  | ok a s' => rw [e] at h; exact hq _ _ h
  | ex x s' => rw [e] at h; exact hx _ _ h
  | no => rw [e] at h; exact h.elim
theorem wp_chk {b : Bool} {s : DS} {Q : Unit → DS → Prop} {X : EX → DS → Prop} : wp (M.chk b) s Q X ↔ b = true ∧ Q () s := by
  unfold wp M.chk
  cases b <;> simp
theorem wp_opt {α : Type} {o : Option α} {s : DS} {Q : α → DS → Prop} {X : EX → DS → Prop} : wp (M.opt o) s Q X ↔ ∃ a, o = some a ∧ Q a s := by
  unfold wp M.opt
  cases o <;> simp
abbrev WX := EX → (Nat → Addr) → DS → Hp → Prop
section
variable (K : Fg) (F : FE) (W : WX)
def ExW (m : Nat → Addr) (s : DS) (σ : SSt) (H : Hp) : EX → DS → Prop := fun x s' => ∀ m' σ' H', Rel K m' s' σ' H' → Ext NoT m s σ H m' s' σ' H' → W x m' s' H'
def OkE (m : Nat → Addr) (s : DS) (σ : SSt) (H : Hp) (Q : VK) : EV → DS → Prop := fun e s' => ∀ m' H' v, Rel K m' s' σ H' → Ext NoT m s σ H m' s' σ H' → EVRel K m' s' σ H' e v → Fresh H e v → Q v H'
def OkT (m : Nat → Addr) (s : DS) (σ : SSt) (H : Hp) (Q : Bool → Hp → Prop) : Bool → DS → Prop := fun b s' => ∀ m' H', Rel K m' s' σ H' → Ext NoT m s σ H m' s' σ H' → Q b H'
def OkA (m : Nat → Addr) (s : DS) (σ : SSt) (H : Hp) (Q : List V → Hp → Prop) : List EV → DS → Prop := fun es s' => ∀ m' H' vs, Rel K m' s' σ H' → Ext NoT m s σ H m' s' σ H' → EVsRel K m' s' σ H' es vs → (∀ a, TmpAt es vs a → H a = none) → Q vs H'
def OkS (m : Nat → Addr) (s : DS) (σ : SSt) (H : Hp) (D : Ends) : Fl → DS → Prop := fun f s' => ∀ m' σ' H', Rel K m' s' σ' H' → Ext NoT m s σ H m' s' σ' H' → match f with
  | .nx => D.nx σ' H'
  | .bk => D.bk σ' H'
  | .ct => D.ct σ' H'
  | .rt e => ∀ v, EVRel K m' s' σ' H' e v → Fresh H e v → D.rt v H'
def De (c : M EV) : TE := fun σ H Q => ∃ m s, Rel K m s σ H ∧ wp c s (OkE K m s σ H Q) (ExW K W m s σ H)
def Dt (c : M Bool) : TT := fun σ H Q => ∃ m s, Rel K m s σ H ∧ wp c s (OkT K m s σ H Q) (ExW K W m s σ H)
def Da (c : M (List EV)) : TA := fun σ H Q => ∃ m s, Rel K m s σ H ∧ wp c s (OkA K m s σ H Q) (ExW K W m s σ H)
def Ds (c : M Fl) : TS := fun D σ H => ∃ m s, Rel K m s σ H ∧ wp c s (OkS K m s σ H D) (ExW K W m s σ H)
end
section
variable {K : Fg} {F : FE} {W : WX} {m m' : Nat → Addr} {s s' : DS} {σ σ' : SSt} {H H' : Hp}
theorem ExW.step {x : EX} {s2 : DS} (h : ExW K W m s σ H x s2) (e : Ext NoT m s σ H m' s' σ' H') : ExW K W m' s' σ' H' x s2 := fun m2 σ2 H2 r x => h m2 σ2 H2 r (e.trans x)
theorem De.mono {c : M EV} {Q Q' : VK} (h : De K W c σ H Q) (hq : ∀ v H', Q v H' → Q' v H') : De K W c σ H Q' := by
  obtain ⟨m, s, r, w⟩ := h
  exact ⟨m, s, r, wp_mono w (fun e s' ok m' H' v r x e f => hq _ _ (ok m' H' v r x e f)) fun _ _ z => z⟩
theorem Dt.mono {c : M Bool} {Q Q' : Bool → Hp → Prop} (h : Dt K W c σ H Q) (hq : ∀ v H', Q v H' → Q' v H') : Dt K W c σ H Q' := by
  obtain ⟨m, s, r, w⟩ := h
  exact ⟨m, s, r, wp_mono w (fun e s' ok m' H' r x => hq _ _ (ok m' H' r x)) fun _ _ z => z⟩
theorem Da.mono {c : M (List EV)} {Q Q' : List V → Hp → Prop} (h : Da K W c σ H Q) (hq : ∀ v H', Q v H' → Q' v H') : Da K W c σ H Q' := by
  obtain ⟨m, s, r, w⟩ := h
  exact ⟨m, s, r, wp_mono w (fun e s' ok m' H' v r x e f => hq _ _ (ok m' H' v r x e f)) fun _ _ z => z⟩
theorem Ends_mono {D D' : Ends} (hn : ∀ σ H, D.nx σ H → D'.nx σ H) (hr : ∀ v H, D.rt v H → D'.rt v H) (hb : ∀ σ H, D.bk σ H → D'.bk σ H) (hc : ∀ σ H, D.ct σ H → D'.ct σ H) {f : Fl} (h : OkS K m s σ H D f s') : OkS K m s σ H D' f s' := fun m' σ' H' r x => by
  have q := h m' σ' H' r x
  cases f with
  | nx => exact hn _ _ q
  | bk => exact hb _ _ q
  | ct => exact hc _ _ q
  | rt e => exact fun v z y => hr _ _ (q v z y)
theorem De.bind {β : Type} {c : M EV} {f : EV → M β} {Q : VK} {R : β → DS → Prop} (r : Rel K m s σ H) (w : wp (M.bnd c f) s R (ExW K W m s σ H))
    (h : ∀ e s1 m1 H1 v, Rel K m1 s1 σ H1 → Ext NoT m s σ H m1 s1 σ H1 → EVRel K m1 s1 σ H1 e v → Fresh H e v → wp (f e) s1 R (ExW K W m s σ H) → Q v H1) : De K W c σ H Q :=
  ⟨m, s, r, wp_mono (wp_bnd.mp w) (fun e s1 w1 m1 H1 v r1 x1 e1 f1 => h e s1 m1 H1 v r1 x1 e1 f1 w1) fun _ _ z => z⟩
theorem Dt.bind {β : Type} {c : M Bool} {f : Bool → M β} {Q : Bool → Hp → Prop} {R : β → DS → Prop} (r : Rel K m s σ H) (w : wp (M.bnd c f) s R (ExW K W m s σ H))
    (h : ∀ b s1 m1 H1, Rel K m1 s1 σ H1 → Ext NoT m s σ H m1 s1 σ H1 → wp (f b) s1 R (ExW K W m s σ H) → Q b H1) : Dt K W c σ H Q :=
  ⟨m, s, r, wp_mono (wp_bnd.mp w) (fun b s1 w1 m1 H1 r1 x1 => h b s1 m1 H1 r1 x1 w1) fun _ _ z => z⟩
theorem Da.bind {β : Type} {c : M (List EV)} {f : List EV → M β} {Q : List V → Hp → Prop} {R : β → DS → Prop} (r : Rel K m s σ H) (w : wp (M.bnd c f) s R (ExW K W m s σ H))
    (h : ∀ es s1 m1 H1 vs, Rel K m1 s1 σ H1 → Ext NoT m s σ H m1 s1 σ H1 → EVsRel K m1 s1 σ H1 es vs → (∀ a, TmpAt es vs a → H a = none) → wp (f es) s1 R (ExW K W m s σ H) → Q vs H1) : Da K W c σ H Q :=
  ⟨m, s, r, wp_mono (wp_bnd.mp w) (fun e s1 w1 m1 H1 v r1 x1 e1 f1 => h e s1 m1 H1 v r1 x1 e1 f1 w1) fun _ _ z => z⟩
theorem da_nil : Da K W (evs F []) σ H Q → tNil σ H Q := fun ⟨m, s, r, w⟩ => w m H [] r Ext.refl rfl (fun _ z => z.elim)
theorem da_cons {e : E} {es : List E} {Q : List V → Hp → Prop} (h : Da K W (evs F (e :: es)) σ H Q) : tCons (De K W (evE F e)) (Da K W (evs F es)) σ H Q := by
  obtain ⟨m, s, r, w⟩ := h
  simp only [evs] at w
  refine De.bind r w fun ev s1 m1 H1 v r1 x1 e1 f1 w1 => ?_
  refine ⟨m1, s1, r1, wp_mono (wp_bnd.mp w1) (fun es' s2 w2 m2 H2 vs r2 x2 e2 f2 => ?_) fun x s2 z => z.step x1⟩
  refine w2 m2 H2 (v :: vs) r2 (x1.trans x2) ⟨v, vs, rfl, e1.step r1 x2, fun c a z z2 q => ?_, e2⟩ fun a q => ?_
  · subst z z2
    obtain ⟨b, z, q2, _⟩ := e1
    cases z
    obtain ⟨o, ho, _⟩ := q2.kind
    rw [f2 _ q] at ho; cases ho
  · rcases q with ⟨⟨c, z⟩, z2⟩ | q
    · exact f1 c a z z2
    · exact x1.dom a (f2 a q)
theorem Da.pa {X : Cx} : ∀ {es : List Expr} {cs : List E}, Paired (fun e c => PE X e (De K W (evE F c))) es cs → (∀ (e : Expr) (es : List Expr), starEach (e :: es) X.env = (false, eval e X.env) :: starEach es X.env ∨ True) → True := fun _ _ => trivial
end
section
variable {K : Fg} {m : Nat → Addr} {s : DS} {σ : SSt} {H : Hp} {e : EV} {v : V}
theorem pvOf_rel {p : PV} (r : Rel K m s σ H) (h : EVRel K m s σ H e v) (q : pvOf s e = some p) : VRel K m s.h.length H p v := by
  cases e with
  | pv p' => cases q; exact h
  | tmp c => cases q
  | bw i =>
    simp only [pvOf] at q
    split at q
    · rename_i p' e1
      cases q
      obtain ⟨v', h1, h2⟩ := r.sl i _ e1
      have z : σ[i]? = some (some v) := h
      rw [z] at h1; cases h1
      exact h2
    · cases q
def CRd (K : Fg) (m : Nat → Addr) (n : Nat) (H : Hp) : CO → V → Prop
  | .lst xs, v => ∃ a vs, v = .ref a ∧ SqL K H a vs ∧ VsRel K m n H xs vs
  | .dct kvs, v => ∃ a kvs', v = .ref a ∧ Rd H a (.dK kvs') ∧ kvs'.map (·.1) = kvs.map (·.1) ∧ VsRel K m n H (kvs.map (·.2)) (kvs'.map (·.2))
theorem CORel.rd {n : Nat} {c : CO} {a : Addr} (h : CORel K m n H c a) : CRd K m n H c (.ref a) := by
  cases c with
  | lst xs => obtain ⟨vs, e, q⟩ := h; exact ⟨a, vs, rfl, SqL.of e, q⟩
  | dct kvs => obtain ⟨vs, e, q⟩ := h; exact ⟨a, vs, rfl, .inl e, q⟩
theorem LKRel.rd {n : Nat} {c : CO} {a : Addr} (h : LKRel K m n H c a) : CRd K m n H c (.ref a) := by
  cases c with
  | lst xs => obtain ⟨vs, e, q⟩ := h; exact ⟨a, vs, rfl, SqL.of e, q⟩
  | dct kvs => obtain ⟨od, vs, e, q⟩ := h; exact ⟨a, vs, rfl, .inr ⟨od, e⟩, q⟩
theorem FZRel.rd {n : Nat} {xs : List PV} {a : Addr} (h : FZRel K m n H xs a) : CRd K m n H (.lst xs) (.ref a) := by
  obtain ⟨vs, q, ⟨o, e⟩ | e⟩ := h
  · exact ⟨a, vs, rfl, .inl (.inr ⟨o, e⟩), q⟩
  · exact ⟨a, vs, rfl, .inr e, q⟩
theorem CRd.mono {n n' : Nat} {c : CO} (hn : n ≤ n') (h : CRd K m n H c v) : CRd K m n' H c v := by
  cases c with
  | lst xs => obtain ⟨a, vs, e, q1, q⟩ := h; exact ⟨a, vs, e, q1, q.mono (fun _ _ => rfl) hn (fun _ _ z => z)⟩
  | dct kvs => obtain ⟨a, vs, e, q1, q2, q⟩ := h; exact ⟨a, vs, e, q1, q2, q.mono (fun _ _ => rfl) hn (fun _ _ z => z)⟩
theorem heap_rd {n : Nat} {o : DO} (r : Rel K m s σ H) (e : s.h[n]? = some o) : CRd K m s.h.length H o.co (.ref (m n)) := by
  have hn : n ≤ s.h.length := Nat.le_of_lt (List.getElem?_eq_some_iff.mp e).1
  have q := r.hp n o e
  refine CRd.mono hn ?_
  cases o with
  | rw c => exact CORel.rd q
  | lk c => exact LKRel.rd q
  | fz xs => exact FZRel.rd q
theorem coOf_rel {c : CO} (r : Rel K m s σ H) (h : EVRel K m s σ H e v) (q : coOf s e = some c) : CRd K m s.h.length H c v := by
  have viaRef : ∀ n w, VRel K m s.h.length H (.ref n) w → (s.h[n]?).map DO.co = some c → CRd K m s.h.length H c w := fun n w hv q => by
    obtain ⟨o, e1, e2⟩ := Option.map_eq_some_iff.mp q
    subst e2
    simp only [VRel] at hv
    obtain ⟨_, rfl⟩ := hv
    exact heap_rd r e1
  cases e with
  | pv p =>
    cases p with
    | ref n => exact viaRef n v h q
    | _ => simp [coOf] at q
  | tmp c' =>
    simp only [coOf, Option.some.injEq] at q
    subst q
    obtain ⟨a, rfl, h1, _⟩ := h
    exact h1.rd
  | bw i =>
    have hv : σ[i]? = some (some v) := h
    simp only [coOf] at q
    split at q
    · rename_i c' e1
      cases q
      obtain ⟨v', h1, a, h2, h3⟩ := r.sl i _ e1
      rw [hv] at h1; cases h1; subst h2
      exact h3.rd
    · rename_i c' e1
      cases q
      obtain ⟨v', h1, a, h2, h3⟩ := r.sl i _ e1
      rw [hv] at h1; cases h1; subst h2
      exact h3.rd
    · rename_i n e1
      obtain ⟨v', h1, h2⟩ := r.sl i _ e1
      rw [hv] at h1; cases h1
      exact viaRef n v h2 q
    · cases q
theorem liOf_rel {xs : List PV} (r : Rel K m s σ H) (h : EVRel K m s σ H e v) (q : liOf s e = some xs) : ∃ a vs, v = .ref a ∧ H a = some (.lst vs) ∧ VsRel K m s.h.length H xs vs := by
  have viaRef : ∀ n w, VRel K m s.h.length H (.ref n) w → (s.h[n]? = some (.rw (.lst xs)) ∨ s.h[n]? = some (.lk (.lst xs))) → ∃ a vs, w = .ref a ∧ H a = some (.lst vs) ∧ VsRel K m s.h.length H xs vs := fun n w hv q => by
    simp only [VRel] at hv
    obtain ⟨hn, rfl⟩ := hv
    have z : ∃ vs, H (m n) = some (.lst vs) ∧ VsRel K m n H xs vs := by
      rcases q with q | q
      · exact r.hp n _ q
      · exact r.hp n _ q
    obtain ⟨vs, e1, e2⟩ := z
    exact ⟨_, vs, rfl, e1, e2.mono (fun _ _ => rfl) (Nat.le_of_lt hn) (fun _ _ z => z)⟩
  cases e with
  | pv p =>
    cases p with
    | ref n =>
      simp only [liOf] at q
      split at q
      · rename_i e1; cases q; exact viaRef n v h (.inl e1)
      · rename_i e1; cases q; exact viaRef n v h (.inr e1)
      · cases q
    | _ => simp [liOf] at q
  | tmp c' =>
    cases c' with
    | lst ys =>
      simp only [liOf, Option.some.injEq] at q
      subst q
      obtain ⟨a, rfl, ⟨vs, h1, h2⟩, _⟩ := h
      exact ⟨a, vs, rfl, h1, h2⟩
    | dct _ => simp [liOf] at q
  | bw i =>
    have hv : σ[i]? = some (some v) := h
    simp only [liOf] at q
    split at q
    · rename_i e1
      cases q
      obtain ⟨v', h1, a, h2, vs, h3, h4⟩ := r.sl i _ e1
      rw [hv] at h1; cases h1; subst h2
      exact ⟨a, vs, rfl, h3, h4⟩
    · rename_i e1
      cases q
      obtain ⟨v', h1, a, h2, vs, h3, h4⟩ := r.sl i _ e1
      rw [hv] at h1; cases h1; subst h2
      exact ⟨a, vs, rfl, h3, h4⟩
    · rename_i n e1
      obtain ⟨v', h1, h2⟩ := r.sl i _ e1
      rw [hv] at h1; cases h1
      split at q
      · rename_i e2; cases q; exact viaRef n v h2 (.inl e2)
      · rename_i e2; cases q; exact viaRef n v h2 (.inr e2)
      · cases q
    · cases q
theorem itemsOf_rel {b : Bool} {xs : List PV} (r : Rel K m s σ H) (h : EVRel K m s σ H e v) (q : itemsOf s e = some (b, xs)) : ∃ a vs, v = .ref a ∧ (if b = true then SqL K H a vs else SqT K H a vs) ∧ VsRel K m s.h.length H xs vs := by
  unfold itemsOf at q
  split at q
  · cases q
    have h : VRel K m s.h.length H (.tup xs) v := h
    simp only [VRel] at h
    exact h
  · split at q
    · rename_i e1
      cases q
      exact coOf_rel r h e1
    · cases q
end
end DV
namespace DV
open PySem PySem.Spec PyProof.Rows L2
section
variable (K : Fg)
def OkP (m : Nat → Addr) (s : DS) (σ : SSt) (H : Hp) (T : Addr → Prop) (Q : VK) : EV → DS → Prop := fun e s' => ∀ m' H' v, Rel K m' s' σ H' → Ext T m s σ H m' s' σ H' → EVRel K m' s' σ H' e v → Fresh H e v → Q v H'
def PrS (p : Prim) (r : List V → Hp → VK → Prop) : Prop := ∀ (m : Nat → Addr) (s : DS) (σ : SSt) (H : Hp) (es : List EV) (vs : List V) (Q : VK) (X : EX → DS → Prop),
  Rel K m s σ H → EVsRel K m s σ H es vs → wp (primF p es) s (OkP K m s σ H (TmpAt es vs) Q) X → r vs H Q
end
section
variable {K : Fg} {F : FE} {W : WX} {m m' : Nat → Addr} {s s' : DS} {σ σ' : SSt} {H H' : Hp} {T : Addr → Prop} {Q : VK} {X : EX → DS → Prop}
theorem OkP.of {m1 : Nat → Addr} {s1 : DS} {H1 : Hp} {e : EV} (h : OkE K m s σ H Q e s') (x : Ext NoT m s σ H m1 s1 σ H1) (ht : ∀ a, T a → H a = none) : OkP K m1 s1 σ H1 T Q e s' := fun m' H' v r y ev fr =>
  h m' H' v r (x.transT y ht) ev fun c a e1 e2 => x.dom a (fr c a e1 e2)
theorem de_prim {p : Prim} {es : List E} {r : List V → Hp → VK → Prop} (hp : PrS K p r) (h : De K W (evE F (.prim p es)) σ H Q) : Da K W (evs F es) σ H fun vs H1 => r vs H1 Q := by
  obtain ⟨m, s, r0, w⟩ := h
  simp only [evE, ev2] at w
  exact Da.bind r0 w fun es' s1 m1 H1 vs r1 x1 e1 f1 w1 => hp m1 s1 σ H1 es' vs Q _ r1 e1 (wp_mono w1 (fun e s' ok => OkP.of ok x1 f1) fun _ _ z => z)
theorem da_0 {R : List V → Hp → Prop} (h : Da K W (evs F []) σ H R) : R [] H := da_nil h
theorem da_1 {a : E} {R : List V → Hp → Prop} (h : Da K W (evs F [a]) σ H R) : De K W (evE F a) σ H fun x H1 => R [x] H1 :=
  De.mono (da_cons h) fun x H1 q => da_nil q
theorem da_2 {a b : E} {R : List V → Hp → Prop} (h : Da K W (evs F [a, b]) σ H R) : De K W (evE F a) σ H fun x H1 => De K W (evE F b) σ H1 fun y H2 => R [x, y] H2 :=
  De.mono (da_cons h) fun x H1 q => da_1 q
theorem da_3 {a b c : E} {R : List V → Hp → Prop} (h : Da K W (evs F [a, b, c]) σ H R) : De K W (evE F a) σ H fun x H1 => De K W (evE F b) σ H1 fun y H2 => De K W (evE F c) σ H2 fun z H3 => R [x, y, z] H3 :=
  De.mono (da_cons h) fun x H1 q => da_2 q
theorem evs0 {vs : List V} (h : EVsRel K m s σ H [] vs) : vs = [] := h
theorem evs1 {a : EV} {vs : List V} (h : EVsRel K m s σ H [a] vs) : ∃ x, vs = [x] ∧ EVRel K m s σ H a x := by
  obtain ⟨v, r, e, h1, _, h2⟩ := h
  cases h2
  exact ⟨v, e, h1⟩
theorem evs2 {a b : EV} {vs : List V} (h : EVsRel K m s σ H [a, b] vs) : ∃ x y, vs = [x, y] ∧ EVRel K m s σ H a x ∧ EVRel K m s σ H b y := by
  obtain ⟨v, r, e, h1, _, h2⟩ := h
  obtain ⟨y, e2, h3⟩ := evs1 h2
  subst e2
  exact ⟨v, y, e, h1, h3⟩
theorem evs3 {a b c : EV} {vs : List V} (h : EVsRel K m s σ H [a, b, c] vs) : ∃ x y z, vs = [x, y, z] ∧ EVRel K m s σ H a x ∧ EVRel K m s σ H b y ∧ EVRel K m s σ H c z := by
  obtain ⟨v, r, e, h1, _, h2⟩ := h
  obtain ⟨y, z, e2, h3, h4⟩ := evs2 h2
  subst e2
  exact ⟨v, y, z, e, h1, h3, h4⟩
theorem fin_pv {p : PV} {v : V} (h : OkP K m s σ H T Q (.pv p) s) (r : Rel K m s σ H) (hv : VRel K m s.h.length H p v) : Q v H :=
  h m H v r (Ext.toT Ext.refl) hv fun _ _ z => nomatch z
theorem upd_grow {q : Addr} {o : HO} (hq : H q = none) : ∀ a o', H a = some o' → upd H q o a = some o' := fun a o' e => by rw [upd_ne (ne_of_none e hq)]; exact e
theorem sqT_grow (g : ∀ a o, H a = some o → H' a = some o) : ∀ a vs, SqT K H a vs → SqT K H' a vs := fun a vs h => sqT_keep (fun o e _ => g a o e) h
theorem fin_lst {ps : List PV} {vs : List V} {q : Addr} (h : OkP K m s σ H T Q (.tmp (.lst ps)) s) (r : Rel K m s σ H) (hv : VsRel K m s.h.length H ps vs) (hq : H q = none) : Q (.ref q) (upd H q (.lst vs)) :=
  h m _ _ (r.grow (upd_grow hq)) (Ext.grow (upd_grow hq)) ⟨q, rfl, ⟨vs, upd_same, hv.mono (fun _ _ => rfl) (Nat.le_refl _) (sqT_grow (upd_grow hq))⟩, fun z => by
    obtain ⟨o, ho, _⟩ := r.okind z
    rw [hq] at ho; cases ho⟩ fun c a _ e => by cases e; exact hq
theorem fin_tup {ps : List PV} {vs : List V} {q : Addr} (h : OkP K m s σ H T Q (.pv (.tup ps)) s) (r : Rel K m s σ H) (hv : VsRel K m s.h.length H ps vs) (hq : H q = none) : Q (.ref q) (upd H q (.tup vs)) := by
  refine h m _ _ (r.grow (upd_grow hq)) (Ext.grow (upd_grow hq)) ?_ fun _ _ z => nomatch z
  show VRel K m s.h.length _ (.tup ps) (.ref q)
  simp only [VRel]
  exact ⟨q, vs, rfl, SqT.of upd_same, hv.mono (fun _ _ => rfl) (Nat.le_refl _) (sqT_grow (upd_grow hq))⟩
theorem fin_dct {kvs : List (Key × PV)} {kvs' : List (Key × V)} {q : Addr} (h : OkP K m s σ H T Q (.tmp (.dct kvs)) s) (r : Rel K m s σ H) (hk : kvs'.map (·.1) = kvs.map (·.1)) (hv : VsRel K m s.h.length H (kvs.map (·.2)) (kvs'.map (·.2))) (hq : H q = none) : Q (.ref q) (upd H q (.dK kvs')) :=
  h m _ _ (r.grow (upd_grow hq)) (Ext.grow (upd_grow hq)) ⟨q, rfl, ⟨kvs', upd_same, hk, hv.mono (fun _ _ => rfl) (Nat.le_refl _) (sqT_grow (upd_grow hq))⟩, fun z => by
    obtain ⟨o, ho, _⟩ := r.okind z
    rw [hq] at ho; cases ho⟩ fun c a _ e => by cases e; exact hq
theorem vr_int {i : Int} {v : V} {n : Nat} (h : VRel K m n H (.int i) v) : v = .int i := by simpa only [VRel] using h
theorem vr_bl {i : Bool} {v : V} {n : Nat} (h : VRel K m n H (.bl i) v) : v = .bl i := by simpa only [VRel] using h
theorem vr_str {i : Str} {v : V} {n : Nat} (h : VRel K m n H (.str i) v) : v = .str i := by simpa only [VRel] using h
theorem vr_non {v : V} {n : Nat} (h : VRel K m n H .non v) : v = .non := by simpa only [VRel] using h
theorem vr_tup {v : V} {n : Nat} {xs : List PV} (h : VRel K m n H (.tup xs) v) : ∃ a vs, v = .ref a ∧ SqT K H a vs ∧ VsRel K m n H xs vs := by simpa only [VRel] using h
theorem vi {i : Int} {n : Nat} : VRel K m n H (.int i) (.int i) := by simp only [VRel]
theorem vb {i : Bool} {n : Nat} : VRel K m n H (.bl i) (.bl i) := by simp only [VRel]
theorem vstr {i : Str} {n : Nat} : VRel K m n H (.str i) (.str i) := by simp only [VRel]
theorem vnon {n : Nat} : VRel K m n H .non .non := by simp only [VRel]
theorem wp_int2 {f : Int → Int → M EV} {a b : EV} {R : EV → DS → Prop} : wp (int2 f a b) s R X → ∃ i j, pvOf s a = some (.int i) ∧ pvOf s b = some (.int j) ∧ wp (f i j) s R X := by
  intro h
  unfold wp int2 at h
  cases q1 : pvOf s a with
  | none => rw [q1] at h; exact (show False from h).elim
  | some p =>
    cases q2 : pvOf s b with
    | none => rw [q1, q2] at h; cases p <;> exact (show False from h).elim
    | some p2 =>
      rw [q1, q2] at h
      cases p with
      | int i =>
        cases p2 with
        | int j => exact ⟨i, j, rfl, rfl, h⟩
        | _ => exact (show False from h).elim
      | _ => exact (show False from h).elim
end
section
variable {K : Fg}
abbrev b2 (r : R2) : List V → Hp → VK → Prop := fun vs H Q => ∃ x y, vs = [x, y] ∧ r x y H Q
theorem prs_int2 {p : Prim} {f : Int → Int → M EV} {r : R2} (hp : ∀ es s R X, wp (primF p es) s R X → ∃ a b, es = [a, b] ∧ wp (int2 f a b) s R X)
    (hr : ∀ (m : Nat → Addr) (s : DS) (σ : SSt) (H : Hp) (T : Addr → Prop) (Q : VK) (X : EX → DS → Prop) i j, Rel K m s σ H → wp (f i j) s (OkP K m s σ H T Q) X → r (.int i) (.int j) H Q) : PrS K p (b2 r) := by
  intro m s σ H es vs Q X r0 e0 w
  obtain ⟨a, b, rfl, w⟩ := hp _ _ _ _ w
  obtain ⟨x, y, rfl, h1, h2⟩ := evs2 e0
  obtain ⟨i, j, q1, q2, w⟩ := wp_int2 w
  obtain rfl := vr_int (pvOf_rel r0 h1 q1)
  obtain rfl := vr_int (pvOf_rel r0 h2 q2)
  exact ⟨_, _, rfl, hr m s σ H _ Q X i j r0 w⟩
theorem two {p : Prim} {f : EV → EV → M EV} (h2 : ∀ a b, primF p [a, b] = f a b) (h0 : primF p [] = M.no) (h1 : ∀ a, primF p [a] = M.no) (h3 : ∀ a b c r, primF p (a :: b :: c :: r) = M.no) :
    ∀ es s R X, wp (primF p es) s R X → ∃ a b, es = [a, b] ∧ wp (f a b) s R X := fun es s R X w => by
  match es, w with
  | [], w => rw [h0] at w; exact w.elim
  | [a], w => rw [h1] at w; exact w.elim
  | [a, b], w => rw [h2] at w; exact ⟨a, b, rfl, w⟩
  | a :: b :: c :: r, w => rw [h3] at w; exact w.elim
theorem one {p : Prim} {f : EV → M EV} (h1 : ∀ a, primF p [a] = f a) (h0 : primF p [] = M.no) (h2 : ∀ a b r, primF p (a :: b :: r) = M.no) :
    ∀ es s R X, wp (primF p es) s R X → ∃ a, es = [a] ∧ wp (f a) s R X := fun es s R X w => by
  match es, w with
  | [], w => rw [h0] at w; exact w.elim
  | [a], w => rw [h1] at w; exact ⟨a, rfl, w⟩
  | a :: b :: r, w => rw [h2] at w; exact w.elim
theorem three {p : Prim} {f : EV → EV → EV → M EV} (h3 : ∀ a b c, primF p [a, b, c] = f a b c) (h0 : primF p [] = M.no) (h1 : ∀ a, primF p [a] = M.no) (h2 : ∀ a b, primF p [a, b] = M.no) (h4 : ∀ a b c d r, primF p (a :: b :: c :: d :: r) = M.no) :
    ∀ es s R X, wp (primF p es) s R X → ∃ a b c, es = [a, b, c] ∧ wp (f a b c) s R X := fun es s R X w => by
  match es, w with
  | [], w => rw [h0] at w; exact w.elim
  | [a], w => rw [h1] at w; exact w.elim
  | [a, b], w => rw [h2] at w; exact w.elim
  | [a, b, c], w => rw [h3] at w; exact ⟨a, b, c, rfl, w⟩
  | a :: b :: c :: d :: r, w => rw [h4] at w; exact w.elim
theorem prs_sub : PrS K .sub (b2 (rI0 fun i j => .int (i - j))) := prs_int2 (two (fun _ _ => rfl) rfl (fun _ => rfl) fun _ _ _ _ => rfl) fun m s σ H T Q X i j r w => ⟨i, j, rfl, rfl, fin_pv w r vi⟩
def CMulA (i j : Int) : Prop := CMul i j ∨ CMulW i j
theorem op_mulA {X : Cx} : OpR X (binaryOp .Mult) (rI CMulA fun i j => .int (i * j)) := opI fun _ _ _ _ _ _ _ hc q => mul_int q (hc.elim (fun z => z.ok) fun z => z.ok)
theorem mulOk_ok {i j : Int} (h : mulOk i j = true) : CMulA i j := by
  unfold mulOk at h
  simp only [Bool.or_eq_true, decide_eq_true_eq] at h
  rcases h with (h | h) | h
  · exact .inl (.inl ⟨by omega, by omega⟩)
  · exact .inl (.inr ⟨by omega, by omega⟩)
  · exact .inr h
theorem prs_mul : PrS K .mul (b2 (rI CMulA fun i j => .int (i * j))) := prs_int2 (two (fun _ _ => rfl) rfl (fun _ => rfl) fun _ _ _ _ => rfl) fun m s σ H T Q X i j r w => by
  obtain ⟨h, w⟩ := wp_chk.mp (wp_bnd.mp w)
  exact ⟨i, j, rfl, rfl, mulOk_ok h, fin_pv w r vi⟩
theorem divOk_ok {i j : Int} (h : divOk j = true) : CDivW i j := by
  unfold divOk at h
  simp only [Bool.and_eq_true, decide_eq_true_eq] at h
  exact h
theorem prs_fdiv : PrS K .fdiv (b2 (rI CDivW fun i j => .int (i / j))) := prs_int2 (two (fun _ _ => rfl) rfl (fun _ => rfl) fun _ _ _ _ => rfl) fun m s σ H T Q X i j r w => by
  obtain ⟨h, w⟩ := wp_chk.mp (wp_bnd.mp w)
  exact ⟨i, j, rfl, rfl, divOk_ok h, fin_pv w r vi⟩
theorem prs_mod : PrS K .mod (b2 (rI (fun _ j => 0 < j) fun i j => .int (i % j))) := prs_int2 (two (fun _ _ => rfl) rfl (fun _ => rfl) fun _ _ _ _ => rfl) fun m s σ H T Q X i j r w => by
  obtain ⟨h, w⟩ := wp_chk.mp (wp_bnd.mp w)
  exact ⟨i, j, rfl, rfl, of_decide_eq_true h, fin_pv w r vi⟩
theorem powOk_ok {i j : Int} (h : powOk i j = true) : CPow i j := by
  unfold powOk at h
  simp only [Bool.and_eq_true, decide_eq_true_eq] at h
  exact ⟨h.1.1, h.1.2, h.2⟩
theorem prs_pow : PrS K .pow (b2 (rI CPow fun i j => .int (i ^ j.toNat))) := prs_int2 (two (fun _ _ => rfl) rfl (fun _ => rfl) fun _ _ _ _ => rfl) fun m s σ H T Q X i j r w => by
  obtain ⟨h, w⟩ := wp_chk.mp (wp_bnd.mp w)
  exact ⟨i, j, rfl, rfl, powOk_ok h, fin_pv w r vi⟩
theorem shlOk_ok {i j : Int} (h : shlOk i j = true) : CShl i j := by
  unfold shlOk at h
  simp only [Bool.or_eq_true, Bool.and_eq_true, decide_eq_true_eq] at h
  rcases h with h | ⟨h1, h2⟩
  · obtain ⟨h1, h2, h3⟩ := powOk_ok h
    have := shl_ok (j := j.toNat) h3 (by omega)
    rwa [Int.toNat_of_nonneg h1] at this
  · have := shl_ok (i := i) (j := j.toNat) (n := i.natAbs.log2 + 1) Nat.lt_log2_self h2
    rwa [Int.toNat_of_nonneg h1] at this
theorem prs_shl : PrS K .shl (b2 (rI CShl fun i j => .int (i * 2 ^ j.toNat))) := prs_int2 (two (fun _ _ => rfl) rfl (fun _ => rfl) fun _ _ _ _ => rfl) fun m s σ H T Q X i j r w => by
  obtain ⟨h, w⟩ := wp_chk.mp (wp_bnd.mp w)
  exact ⟨i, j, rfl, rfl, shlOk_ok h, fin_pv w r vi⟩
theorem prs_shr : PrS K .shr (b2 (rI (fun _ j => 0 ≤ j) fun i j => .int (i / 2 ^ j.toNat))) := prs_int2 (two (fun _ _ => rfl) rfl (fun _ => rfl) fun _ _ _ _ => rfl) fun m s σ H T Q X i j r w => by
  obtain ⟨h, w⟩ := wp_chk.mp (wp_bnd.mp w)
  exact ⟨i, j, rfl, rfl, of_decide_eq_true h, fin_pv w r vi⟩
theorem prs_band : PrS K .band (b2 (rI0 fun i j => .int (Builtin.bitAnd i j))) := prs_int2 (two (fun _ _ => rfl) rfl (fun _ => rfl) fun _ _ _ _ => rfl) fun m s σ H T Q X i j r w => ⟨i, j, rfl, rfl, fin_pv w r vi⟩
theorem prs_bor : PrS K .bor (b2 (rI0 fun i j => .int (Builtin.bitOr i j))) := prs_int2 (two (fun _ _ => rfl) rfl (fun _ => rfl) fun _ _ _ _ => rfl) fun m s σ H T Q X i j r w => ⟨i, j, rfl, rfl, fin_pv w r vi⟩
theorem prs_lt : PrS K .lt (b2 (rI0 fun i j => .bl (decide (i < j)))) := prs_int2 (two (fun _ _ => rfl) rfl (fun _ => rfl) fun _ _ _ _ => rfl) fun m s σ H T Q X i j r w => ⟨i, j, rfl, rfl, fin_pv w r vb⟩
theorem prs_le : PrS K .le (b2 (rI0 fun i j => .bl (decide (i ≤ j)))) := prs_int2 (two (fun _ _ => rfl) rfl (fun _ => rfl) fun _ _ _ _ => rfl) fun m s σ H T Q X i j r w => ⟨i, j, rfl, rfl, fin_pv w r vb⟩
theorem prs_gt : PrS K .gt (b2 (rI0 fun i j => .bl (decide (j < i)))) := prs_int2 (two (fun _ _ => rfl) rfl (fun _ => rfl) fun _ _ _ _ => rfl) fun m s σ H T Q X i j r w => ⟨i, j, rfl, rfl, fin_pv w r vb⟩
theorem prs_ge : PrS K .ge (b2 (rI0 fun i j => .bl (decide (j ≤ i)))) := prs_int2 (two (fun _ _ => rfl) rfl (fun _ => rfl) fun _ _ _ _ => rfl) fun m s σ H T Q X i j r w => ⟨i, j, rfl, rfl, fin_pv w r vb⟩
abbrev rMax2 : List V → Hp → VK → Prop := fun xs H Q => ∃ i j, xs = [.int i, .int j] ∧ Q (.int (if j > i then j else i)) H
abbrev rMin2 : List V → Hp → VK → Prop := fun xs H Q => ∃ i j, xs = [.int i, .int j] ∧ Q (.int (if j < i then j else i)) H
theorem prs_max2 : PrS K .max2 rMax2 := fun m s σ H es vs Q X r e w => by
  obtain ⟨x, y, h, i, j, rfl, rfl, q⟩ := prs_int2 (K := K) (p := .max2) (f := fun i j => vint (if j > i then j else i)) (r := rI0 fun i j => .int (if j > i then j else i)) (two (fun _ _ => rfl) rfl (fun _ => rfl) fun _ _ _ _ => rfl) (fun m s σ H T Q X i j r w => ⟨i, j, rfl, rfl, fin_pv w r vi⟩) m s σ H es vs Q X r e w
  exact ⟨i, j, h, q⟩
theorem prs_min2 : PrS K .min2 rMin2 := fun m s σ H es vs Q X r e w => by
  obtain ⟨x, y, h, i, j, rfl, rfl, q⟩ := prs_int2 (K := K) (p := .min2) (f := fun i j => vint (if j < i then j else i)) (r := rI0 fun i j => .int (if j < i then j else i)) (two (fun _ _ => rfl) rfl (fun _ => rfl) fun _ _ _ _ => rfl) (fun m s σ H T Q X i j r w => ⟨i, j, rfl, rfl, fin_pv w r vi⟩) m s σ H es vs Q X r e w
  exact ⟨i, j, h, q⟩
abbrev b1 (r : V → Hp → VK → Prop) : List V → Hp → VK → Prop := fun vs H Q => ∃ x, vs = [x] ∧ r x H Q
theorem prs_neg : PrS K .neg (b1 (rU fun i => .int (-i))) := by
  intro m s σ H es vs Q X r0 e0 w
  obtain ⟨a, rfl, w⟩ := one (f := negF) (fun _ => rfl) rfl (fun _ _ _ => rfl) _ _ _ _ w
  obtain ⟨x, rfl, h1⟩ := evs1 e0
  unfold wp negF at w
  cases q : pvOf s a with
  | none => rw [q] at w; exact (show False from w).elim
  | some p =>
    rw [q] at w
    cases p with
    | int i =>
      obtain rfl := vr_int (pvOf_rel r0 h1 q)
      exact ⟨_, rfl, i, rfl, fin_pv w r0 vi⟩
    | _ => exact (show False from w).elim
abbrev rAbs : List V → Hp → VK → Prop := fun xs H Q => ∃ i, xs = [.int i] ∧ Q (.int (if i < 0 then -i else i)) H
theorem prs_abs : PrS K .abs rAbs := by
  intro m s σ H es vs Q X r0 e0 w
  obtain ⟨a, rfl, w⟩ := one (f := absF) (fun _ => rfl) rfl (fun _ _ _ => rfl) _ _ _ _ w
  obtain ⟨x, rfl, h1⟩ := evs1 e0
  unfold wp absF at w
  cases q : pvOf s a with
  | none => rw [q] at w; exact (show False from w).elim
  | some p =>
    rw [q] at w
    cases p with
    | int i =>
      obtain rfl := vr_int (pvOf_rel r0 h1 q)
      exact ⟨i, rfl, fin_pv w r0 vi⟩
    | _ => exact (show False from w).elim
abbrev rInt : List V → Hp → VK → Prop := fun xs H Q => (∃ i, xs = [.int i] ∧ Q (.int i) H) ∨ ∃ k, xs = [.bl k] ∧ Q (.int (if k then 1 else 0)) H
theorem prs_toInt : PrS K .int rInt := by
  intro m s σ H es vs Q X r0 e0 w
  obtain ⟨a, rfl, w⟩ := one (f := intF) (fun _ => rfl) rfl (fun _ _ _ => rfl) _ _ _ _ w
  obtain ⟨x, rfl, h1⟩ := evs1 e0
  unfold wp intF at w
  cases q : pvOf s a with
  | none => rw [q] at w; exact (show False from w).elim
  | some p =>
    rw [q] at w
    cases p with
    | int i =>
      obtain rfl := vr_int (pvOf_rel r0 h1 q)
      exact .inl ⟨i, rfl, fin_pv w r0 vi⟩
    | bl i =>
      obtain rfl := vr_bl (pvOf_rel r0 h1 q)
      exact .inr ⟨i, rfl, fin_pv w r0 vi⟩
    | _ => exact (show False from w).elim
theorem isNon_rel {m : Nat → Addr} {s : DS} {σ : SSt} {H : Hp} {a : EV} {x : V} {b : Bool} (r : Rel K m s σ H) (h : EVRel K m s σ H a x) (q : isNon s a = some b) : b = decide (x = .non) := by
  unfold isNon at q
  cases q1 : pvOf s a with
  | some p =>
    have z := pvOf_rel r h q1
    rw [q1] at q
    cases p with
    | non => cases q; rw [vr_non z]; rfl
    | bl b => cases q; rw [vr_bl z]; rfl
    | int b => cases q; rw [vr_int z]; rfl
    | str b => cases q; rw [vr_str z]; rfl
    | tup b => cases q; obtain ⟨_, _, e, _⟩ := vr_tup z; rw [e]; rfl
    | ref b => cases q; simp only [VRel] at z; rw [z.2]; rfl
  | none =>
    rw [q1] at q
    cases q2 : coOf s a with
    | none => rw [q2] at q; cases q
    | some c =>
      rw [q2] at q; cases q
      have z := coOf_rel r h q2
      cases c with
      | lst xs => obtain ⟨_, _, e, _⟩ := z; rw [e]; rfl
      | dct xs => obtain ⟨_, _, e, _⟩ := z; rw [e]; rfl
abbrev rIs (f : Bool → Bool) : List V → Hp → VK → Prop := fun vs H Q => ∃ x, vs = [x] ∧ Q (.bl (f (decide (x = .non)))) H
theorem prs_isN : PrS K .isN (rIs id) := by
  intro m s σ H es vs Q X r0 e0 w
  obtain ⟨a, rfl, w⟩ := one (f := isNF) (fun _ => rfl) rfl (fun _ _ _ => rfl) _ _ _ _ w
  obtain ⟨x, rfl, h1⟩ := evs1 e0
  unfold wp isNF at w
  cases q : isNon s a with
  | none => rw [q] at w; exact (show False from w).elim
  | some b =>
    rw [q] at w
    have e := isNon_rel r0 h1 q
    subst e
    exact ⟨x, rfl, fin_pv w r0 vb⟩
theorem prs_notN : PrS K .notN (rIs not) := by
  intro m s σ H es vs Q X r0 e0 w
  obtain ⟨a, rfl, w⟩ := one (f := notNF) (fun _ => rfl) rfl (fun _ _ _ => rfl) _ _ _ _ w
  obtain ⟨x, rfl, h1⟩ := evs1 e0
  unfold wp notNF at w
  cases q : isNon s a with
  | none => rw [q] at w; exact (show False from w).elim
  | some b =>
    rw [q] at w
    have e := isNon_rel r0 h1 q
    subst e
    exact ⟨x, rfl, fin_pv w r0 vb⟩
end
end DV
namespace DV
open PySem PySem.Spec PyProof.Rows L2
section
variable {K : Fg} {F : FE} {W : WX} {m m' : Nat → Addr} {s s' : DS} {σ σ' : SSt} {H H' : Hp} {T : Addr → Prop} {Q : VK} {X : EX → DS → Prop}
theorem wp_newL {ps : List PV} {R : EV → DS → Prop} (w : wp (newL ps) s R X) : ps.length ≤ sizeLine ∧ R (.tmp (.lst ps)) s := by
  obtain ⟨h, w⟩ := wp_chk.mp (wp_bnd.mp w)
  exact ⟨of_decide_eq_true h, w⟩
theorem wp_newT {ps : List PV} {R : EV → DS → Prop} (w : wp (newT ps) s R X) : ps.length ≤ sizeLine ∧ R (.pv (.tup ps)) s := by
  obtain ⟨h, w⟩ := wp_chk.mp (wp_bnd.mp w)
  exact ⟨of_decide_eq_true h, w⟩
theorem vsrel_nil {vs : List V} {n : Nat} (h : VsRel K m n H [] vs) : vs = [] := by simpa only [VsRel] using h
theorem cutP_length {ps : List PV} {lo hi : Option Int} : (cut ps lo hi).length ≤ ps.length := by
  unfold cut
  rw [List.length_take, List.length_drop]
  omega
def rAdd4 (K : Fg) : R2 := fun x y H Q => rI0 (fun i j => .int (i + j)) x y H Q ∨ (∃ i j, x = .str i ∧ y = .str j ∧ i.length + j.length ≤ sizeLine ∧ Q (.str (i ++ j)) H) ∨ rCat x y H Q ∨ rCatA K x y H Q
theorem op_addA {X : Cx} : OpR X (binaryOp .Add) (rAdd4 X.K) := op_add.or (op_add_str.or (op_cat.or op_catA))
theorem add_lists {a b : EV} {x y : V} (r0 : Rel K m s σ H) (h1 : EVRel K m s σ H a x) (h2 : EVRel K m s σ H b y) {xs ys : List PV} (q1 : liOf s a = some xs) (q2 : liOf s b = some ys)
    (w : wp (newL (xs ++ ys)) s (OkP K m s σ H T Q) X) : rAdd4 K x y H Q := by
  obtain ⟨hz, w⟩ := wp_newL w
  obtain ⟨l, vs, rfl, e1, e2⟩ := liOf_rel r0 h1 q1
  obtain ⟨l2, vs2, rfl, e3, e4⟩ := liOf_rel r0 h2 q2
  refine .inr (.inr (.inl ⟨l, l2, vs, vs2, rfl, rfl, e1, e3, ?_, fun p hp => fin_lst w r0 (e2.append e4) hp⟩))
  rw [e2.length, e4.length, ← List.length_append]
  exact hz
theorem addF_cases (s : DS) (a b : EV) : addF a b s = R.no ∨ (∃ xs ys, liOf s a = some xs ∧ liOf s b = some ys ∧ addF a b s = newL (xs ++ ys) s) ∨ (∃ i j, pvOf s a = some (.int i) ∧ pvOf s b = some (.int j) ∧ addF a b s = .ok (.pv (.int (i + j))) s) ∨
    (∃ i j, pvOf s a = some (.tup i) ∧ pvOf s b = some (.tup j) ∧ addF a b s = newT (i ++ j) s) ∨ (∃ i j, pvOf s a = some (.str i) ∧ pvOf s b = some (.str j) ∧ addF a b s = M.bnd (M.chk (decide (i.length + j.length ≤ sizeLine))) (fun _ => val (.str (i ++ j))) s) := by
  have viaL : (∀ r, (match liOf s a, liOf s b with | some xs, some ys => newL (xs ++ ys) s | _, _ => R.no) = r → addF a b s = r) → addF a b s = R.no ∨ (∃ xs ys, liOf s a = some xs ∧ liOf s b = some ys ∧ addF a b s = newL (xs ++ ys) s) := fun h => by
    cases q1 : liOf s a with
    | none => exact .inl (h _ (by rw [q1]))
    | some xs =>
      cases q2 : liOf s b with
      | none => exact .inl (h _ (by rw [q1, q2]))
      | some ys => exact .inr ⟨xs, ys, rfl, rfl, h _ (by rw [q1, q2])⟩
  have viaL' : (∀ r, (match liOf s a, liOf s b with | some xs, some ys => newL (xs ++ ys) s | _, _ => R.no) = r → addF a b s = r) → ∀ P : Prop, addF a b s = R.no ∨ (∃ xs ys, liOf s a = some xs ∧ liOf s b = some ys ∧ addF a b s = newL (xs ++ ys) s) ∨ P := fun h P => by
    rcases viaL h with z | z
    · exact .inl z
    · exact .inr (.inl z)
  have un : addF a b s = match pvOf s a, pvOf s b with
      | some (.int i), some (.int j) => .ok (.pv (.int (i + j))) s
      | some (.tup xs), some (.tup ys) => newT (xs ++ ys) s
      | some (.str x), some (.str y) => M.bnd (M.chk (decide (x.length + y.length ≤ sizeLine))) (fun _ => val (.str (x ++ y))) s
      | _, _ => match liOf s a, liOf s b with
        | some xs, some ys => newL (xs ++ ys) s
        | _, _ => .no := rfl
  rcases q1 : pvOf s a with _ | p1 <;> rcases q2 : pvOf s b with _ | p2
  · exact viaL' (fun r h => by rw [un, q1, q2]; exact h) _
  · exact viaL' (fun r h => by rw [un, q1, q2]; exact h) _
  · exact viaL' (fun r h => by rw [un, q1, q2]; cases p1 <;> exact h) _
  · rw [q1, q2] at un
    cases p1 <;> cases p2 <;> first
      | exact .inr (.inr (.inl ⟨_, _, rfl, rfl, un⟩))
      | exact .inr (.inr (.inr (.inl ⟨_, _, rfl, rfl, un⟩)))
      | exact .inr (.inr (.inr (.inr ⟨_, _, rfl, rfl, un⟩)))
      | exact viaL' (fun r h => by rw [un]; exact h) _
theorem wp_eq {α : Type} {c d : M α} {R : α → DS → Prop} (w : wp c s R X) (h : c s = d s) : wp d s R X := by
  unfold wp at w ⊢
  rw [← h]
  exact w
theorem VsRel.rep {m : Nat → Addr} {n : Nat} {H : Hp} {ps : List PV} {vs : List V} (h : VsRel K m n H ps vs) : ∀ k : Nat, VsRel K m n H (List.replicate k ps).flatten (List.replicate k vs).flatten
  | 0 => by simp only [List.replicate, List.flatten_nil, VsRel]
  | k + 1 => by
    rw [List.replicate_succ, List.replicate_succ, List.flatten_cons, List.flatten_cons]
    exact h.append (VsRel.rep h k)
theorem prs_repL : PrS K .repL (b2 rRep) := by
  intro m s σ H es vs Q X r0 e0 w
  obtain ⟨a, b, rfl, w⟩ := two (f := repLF) (fun _ _ => rfl) rfl (fun _ => rfl) (fun _ _ _ _ => rfl) _ _ _ _ w
  obtain ⟨x, y, rfl, h1, h2⟩ := evs2 e0
  cases q1 : liOf s a with
  | none => exact (show False from wp_eq (d := M.no) w (by simp only [repLF, q1])).elim
  | some xs =>
    cases q2 : pvOf s b with
    | none => exact (show False from wp_eq (d := M.no) w (by simp only [repLF, q1, q2])).elim
    | some p =>
      cases p with
      | int k =>
        have w2 := wp_eq (d := M.bnd (M.chk (decide (-(2 ^ 63) ≤ k) && decide (k < 2 ^ 63))) (fun _ => newL (List.replicate k.toNat xs).flatten)) w (by simp only [repLF, q1, q2])
        obtain ⟨hk, w2⟩ := wp_chk.mp (wp_bnd.mp w2)
        simp only [Bool.and_eq_true, decide_eq_true_eq] at hk
        obtain ⟨hz, w2⟩ := wp_newL w2
        obtain rfl := vr_int (pvOf_rel r0 h2 q2)
        obtain ⟨l, us, rfl, e1, e2⟩ := liOf_rel r0 h1 q1
        refine ⟨_, _, rfl, l, k, us, rfl, rfl, e1, hk.1, hk.2, ?_, fun p hp => fin_lst w2 r0 (e2.rep _) hp⟩
        rw [e2.length]
        have : (List.replicate k.toNat xs).flatten.length = k.toNat * xs.length := by simp
        rw [this] at hz
        rw [Nat.mul_comm]; exact hz
      | _ => exact (show False from wp_eq (d := M.no) w (by simp only [repLF, q1, q2])).elim
theorem prs_add : PrS K .add (b2 (rAdd4 K)) := by
  intro m s σ H es vs Q X r0 e0 w
  obtain ⟨a, b, rfl, w⟩ := two (f := addF) (fun _ _ => rfl) rfl (fun _ => rfl) (fun _ _ _ _ => rfl) _ _ _ _ w
  obtain ⟨x, y, rfl, h1, h2⟩ := evs2 e0
  refine ⟨x, y, rfl, ?_⟩
  rcases addF_cases s a b with z | ⟨xs, ys, q1, q2, z⟩ | ⟨i, j, q1, q2, z⟩ | ⟨i, j, q1, q2, z⟩ | ⟨i, j, q1, q2, z⟩
  · exact (show False from wp_eq (d := M.no) w z).elim
  · exact add_lists r0 h1 h2 q1 q2 (wp_eq w z)
  · obtain rfl := vr_int (pvOf_rel r0 h1 q1)
    obtain rfl := vr_int (pvOf_rel r0 h2 q2)
    exact .inl ⟨i, j, rfl, rfl, fin_pv (wp_eq (d := vint (i + j)) w z) r0 vi⟩
  · obtain ⟨hz, w⟩ := wp_newT (wp_eq w z)
    obtain ⟨p, vs, rfl, e1, e2⟩ := vr_tup (pvOf_rel r0 h1 q1)
    obtain ⟨p2, vs2, rfl, e3, e4⟩ := vr_tup (pvOf_rel r0 h2 q2)
    refine .inr (.inr (.inr ⟨p, p2, vs, vs2, rfl, rfl, e1, e3, ?_, fun z => ?_, fun z z2 => ?_, fun z z2 q hq => ?_⟩))
    · rw [e2.length, e4.length, ← List.length_append]
      exact hz
    · subst z
      have : i = [] := List.eq_nil_of_length_eq_zero (by rw [← e2.length]; rfl)
      subst this
      refine fin_pv w r0 ?_
      simp only [VRel]
      exact ⟨p2, vs2, rfl, e3, e4⟩
    · subst z2
      have : j = [] := List.eq_nil_of_length_eq_zero (by rw [← e4.length]; rfl)
      subst this
      refine fin_pv w r0 ?_
      simp only [VRel, List.append_nil]
      exact ⟨p, vs, rfl, e1, e2⟩
    · exact fin_tup w r0 (e2.append e4) hq
  · obtain ⟨hz, w⟩ := wp_chk.mp (wp_bnd.mp (wp_eq w z))
    obtain rfl := vr_str (pvOf_rel r0 h1 q1)
    obtain rfl := vr_str (pvOf_rel r0 h2 q2)
    exact .inr (.inl ⟨i, j, rfl, rfl, of_decide_eq_true hz, fin_pv w r0 vstr⟩)
abbrev rLen (K : Fg) : List V → Hp → VK → Prop := fun xs H Q => (∃ p ys, xs = [.ref p] ∧ (SqL K H p ys ∨ SqT K H p ys) ∧ Q (.int ys.length) H) ∨ ∃ a kvs, xs = [V.ref a] ∧ H a = some (.dK kvs) ∧ Q (.int kvs.length) H
theorem seq_or {b : Bool} {a : Addr} {vs : List V} (h : if b = true then SqL K H a vs else SqT K H a vs) : SqL K H a vs ∨ SqT K H a vs := by
  cases b with
  | true => exact .inl h
  | false => exact .inr h
theorem prs_len : PrS K .len (fun xs H Q => ∃ p ys, xs = [.ref p] ∧ (SqL K H p ys ∨ SqT K H p ys) ∧ Q (.int ys.length) H) := by
  intro m s σ H es vs Q X r0 e0 w
  obtain ⟨a, rfl, w⟩ := one (f := lenF) (fun _ => rfl) rfl (fun _ _ _ => rfl) _ _ _ _ w
  obtain ⟨x, rfl, h1⟩ := evs1 e0
  unfold wp lenF at w
  cases q : itemsOf s a with
  | none => rw [q] at w; exact (show False from w).elim
  | some z =>
    obtain ⟨b, xs⟩ := z
    rw [q] at w
    obtain ⟨p, vs, rfl, e1, e2⟩ := itemsOf_rel r0 h1 q
    refine ⟨p, vs, rfl, seq_or e1, ?_⟩
    rw [e2.length]
    exact fin_pv w r0 vi
theorem prs_lenD : PrS K .lenD (fun xs H Q => ∃ a kvs, xs = [V.ref a] ∧ Rd H a (.dK kvs) ∧ Q (.int kvs.length) H) := by
  intro m s σ H es vs Q X r0 e0 w
  obtain ⟨a, rfl, w⟩ := one (f := lenDF) (fun _ => rfl) rfl (fun _ _ _ => rfl) _ _ _ _ w
  obtain ⟨x, rfl, h1⟩ := evs1 e0
  unfold wp lenDF at w
  cases q : coOf s a with
  | none => rw [q] at w; exact (show False from w).elim
  | some c =>
    rw [q] at w
    cases c with
    | lst _ => exact (show False from w).elim
    | dct kvs =>
      obtain ⟨p, kvs', rfl, e1, e2, e3⟩ := coOf_rel r0 h1 q
      refine ⟨p, kvs', rfl, e1, ?_⟩
      have : kvs'.length = kvs.length := by rw [← List.length_map (f := (·.1)), e2, List.length_map]
      rw [this]
      exact fin_pv w r0 vi
theorem atI_rel {ps : List PV} {vs : List V} {n : Nat} {i : Int} {p : PV} (h : VsRel K m n H ps vs) (q : atI ps i = some p) : ∃ v, atI vs i = some v ∧ VRel K m n H p v := by
  unfold atI at q ⊢
  rw [h.length]
  cases e : ixN ps.length i with
  | none => rw [e] at q; cases q
  | some j => rw [e] at q; exact h.get q
abbrev rIxA (K : Fg) : R2 := fun x y H Q => rIx K x y H Q
theorem prs_idx : PrS K .idx (b2 (rIx K)) := by
  intro m s σ H es vs Q X r0 e0 w
  obtain ⟨a, b, rfl, w⟩ := two (f := idxF) (fun _ _ => rfl) rfl (fun _ => rfl) (fun _ _ _ _ => rfl) _ _ _ _ w
  obtain ⟨x, y, rfl, h1, h2⟩ := evs2 e0
  refine ⟨x, y, rfl, ?_⟩
  unfold wp idxF at w
  cases q : itemsOf s a with
  | none => rw [q] at w; exact (show False from w).elim
  | some z =>
    obtain ⟨bb, xs⟩ := z
    cases q2 : pvOf s b with
    | none => rw [q, q2] at w; exact (show False from w).elim
    | some p2 =>
      rw [q, q2] at w
      cases p2 with
      | int i =>
        obtain ⟨v, e3, w2⟩ := wp_opt.mp (wp_bnd.mp (show wp (M.bnd (M.opt (atI xs i)) (fun v => val v)) s (OkP K m s σ H (TmpAt [a, b] [x, y]) Q) X from w))
        clear w
        obtain ⟨p, vs, rfl, e1, e2⟩ := itemsOf_rel r0 h1 q
        obtain rfl := vr_int (pvOf_rel r0 h2 q2)
        obtain ⟨u, e4, e5⟩ := atI_rel e2 e3
        cases bb with
        | true => exact .inl ⟨p, vs, i, u, rfl, rfl, e1, e4, fin_pv w2 r0 e5⟩
        | false => exact .inr (.inl ⟨p, vs, i, u, rfl, rfl, e1, e4, fin_pv w2 r0 e5⟩)
      | _ => exact (show False from w).elim
def rSlB (K : Fg) : V → Option Int → Option Int → Hp → VK → Prop := fun x lo hi H Q => rSlL K x lo hi H Q ∨ rSlA K x lo hi H Q
theorem cut_all {α : Type} {xs : List α} {lo hi : Option Int} (h : HT.sIx xs.length 0 lo = 0 ∧ HT.sIx xs.length xs.length hi = xs.length) : cut xs lo hi = xs := by
  unfold cut
  rw [h.1, h.2, Nat.sub_zero, List.drop_zero, List.take_length]
theorem cut_rel {a : EV} {x : V} {lo hi : Option Int} (r0 : Rel K m s σ H) (h1 : EVRel K m s σ H a x) (w : wp (cutF a lo hi) s (OkP K m s σ H T Q) X) : rSlB K x lo hi H Q := by
  unfold wp cutF at w
  cases q : itemsOf s a with
  | none => rw [q] at w; exact (show False from w).elim
  | some z =>
    obtain ⟨bb, xs⟩ := z
    rw [q] at w
    obtain ⟨p, vs, rfl, e1, e2⟩ := itemsOf_rel r0 h1 q
    cases bb with
    | true => exact .inl ⟨p, vs, rfl, e1, fun q hq => fin_lst w r0 (e2.cut lo hi) hq⟩
    | false =>
      refine .inr ⟨p, vs, rfl, e1, fun z => ?_, fun z q hq => fin_tup w r0 (e2.cut lo hi) hq⟩
      refine fin_pv w r0 ?_
      rw [e2.length] at z
      simp only [VRel]
      rw [cut_all z]
      exact ⟨p, vs, rfl, e1, e2⟩
theorem optI_rel {a : EV} {x : V} {i : Int} (r0 : Rel K m s σ H) (h1 : EVRel K m s σ H a x) (q : optI s a = some i) : x = .int i := by
  unfold optI at q
  cases q2 : pvOf s a with
  | none => rw [q2] at q; cases q
  | some p =>
    rw [q2] at q
    cases p with
    | int j => cases q; exact vr_int (pvOf_rel r0 h1 q2)
    | _ => cases q
theorem prs_slFF : PrS K (.slice false false) (fun vs H Q => ∃ x, vs = [x] ∧ rSlB K x none none H Q) := by
  intro m s σ H es vs Q X r0 e0 w
  obtain ⟨a, rfl, w⟩ := one (f := sliceFFF) (fun _ => rfl) rfl (fun _ _ _ => rfl) _ _ _ _ w
  obtain ⟨x, rfl, h1⟩ := evs1 e0
  exact ⟨x, rfl, cut_rel r0 h1 w⟩
theorem prs_slTF : PrS K (.slice true false) (fun vs H Q => ∃ x i, vs = [x, .int i] ∧ rSlB K x (some i) none H Q) := by
  intro m s σ H es vs Q X r0 e0 w
  obtain ⟨a, b, rfl, w⟩ := two (f := sliceTFF) (fun _ _ => rfl) rfl (fun _ => rfl) (fun _ _ _ _ => rfl) _ _ _ _ w
  obtain ⟨x, y, rfl, h1, h2⟩ := evs2 e0
  unfold wp sliceTFF at w
  cases q : optI s b with
  | none => rw [q] at w; exact (show False from w).elim
  | some i =>
    rw [q] at w
    obtain rfl := optI_rel r0 h2 q
    exact ⟨x, i, rfl, cut_rel (X := X) r0 h1 w⟩
theorem prs_slFT : PrS K (.slice false true) (fun vs H Q => ∃ x i, vs = [x, .int i] ∧ rSlB K x none (some i) H Q) := by
  intro m s σ H es vs Q X r0 e0 w
  obtain ⟨a, b, rfl, w⟩ := two (f := sliceFTF) (fun _ _ => rfl) rfl (fun _ => rfl) (fun _ _ _ _ => rfl) _ _ _ _ w
  obtain ⟨x, y, rfl, h1, h2⟩ := evs2 e0
  unfold wp sliceFTF at w
  cases q : optI s b with
  | none => rw [q] at w; exact (show False from w).elim
  | some i =>
    rw [q] at w
    obtain rfl := optI_rel r0 h2 q
    exact ⟨x, i, rfl, cut_rel (X := X) r0 h1 w⟩
theorem prs_slTT : PrS K (.slice true true) (fun vs H Q => ∃ x i j, vs = [x, .int i, .int j] ∧ rSlB K x (some i) (some j) H Q) := by
  intro m s σ H es vs Q X r0 e0 w
  obtain ⟨a, b, c, rfl, w⟩ := three (f := sliceTTF) (fun _ _ _ => rfl) rfl (fun _ => rfl) (fun _ _ => rfl) (fun _ _ _ _ _ => rfl) _ _ _ _ w
  obtain ⟨x, y, z, rfl, h1, h2, h3⟩ := evs3 e0
  unfold wp sliceTTF at w
  cases q : optI s b with
  | none => rw [q] at w; exact (show False from w).elim
  | some i =>
    cases q2 : optI s c with
    | none => rw [q, q2] at w; exact (show False from w).elim
    | some j =>
      rw [q, q2] at w
      obtain rfl := optI_rel r0 h2 q
      obtain rfl := optI_rel r0 h3 q2
      exact ⟨x, i, j, rfl, cut_rel (X := X) r0 h1 w⟩
theorem prs_rev : PrS K .rev (fun vs H Q => ∃ x, vs = [x] ∧ ∃ a xs, x = .ref a ∧ SqL K H a xs ∧ ∀ p, H p = none → Q (.ref p) (upd H p (.lst xs.reverse))) := by
  intro m s σ H es vs Q X r0 e0 w
  obtain ⟨a, rfl, w⟩ := one (f := revF) (fun _ => rfl) rfl (fun _ _ _ => rfl) _ _ _ _ w
  obtain ⟨x, rfl, h1⟩ := evs1 e0
  unfold wp revF at w
  cases q : coOf s a with
  | none => rw [q] at w; exact (show False from w).elim
  | some c =>
    rw [q] at w
    cases c with
    | lst xs =>
      obtain ⟨p, vs, rfl, e1, e2⟩ := coOf_rel r0 h1 q
      exact ⟨_, rfl, p, vs, rfl, e1, fun q hq => fin_lst w r0 e2.reverse hq⟩
    | dct _ => exact (show False from w).elim
theorem co_lst {a : EV} {f : List PV → M EV} {RR : EV → DS → Prop} (h : wp (fun s => match coOf s a with | some (.lst xs) => f xs s | _ => R.no) s RR X) : ∃ xs, coOf s a = some (.lst xs) ∧ wp (f xs) s RR X := by
  cases q : coOf s a with
  | none => exact (show False from wp_eq (d := M.no) h (by simp only [q])).elim
  | some c =>
    cases c with
    | lst xs => exact ⟨xs, rfl, wp_eq h (by simp only [q])⟩
    | dct _ => exact (show False from wp_eq (d := M.no) h (by simp only [q])).elim
theorem co_seq {a : EV} {f : List PV → M EV} {RR : EV → DS → Prop} (h : wp (fun s => match itemsOf s a with | some (_, xs) => f xs s | none => R.no) s RR X) : ∃ b xs, itemsOf s a = some (b, xs) ∧ wp (f xs) s RR X := by
  cases q : itemsOf s a with
  | none => exact (show False from wp_eq (d := M.no) h (by simp only [q])).elim
  | some z =>
    obtain ⟨b, xs⟩ := z
    exact ⟨b, xs, rfl, wp_eq h (by simp only [q])⟩
def rSum2 (K : Fg) : List V → Hp → VK → Prop := fun vs H Q => ∃ (a : Addr) (ns : List Int), vs = [V.ref a] ∧ (SqL K H a (ns.map V.int) ∨ SqT K H a (ns.map V.int)) ∧ Q (.int ns.sum) H
theorem prs_sum : PrS K .sum (rSum2 K) := by
  intro m s σ H es vs Q X r0 e0 w
  obtain ⟨a, rfl, w⟩ := one (f := sumF) (fun _ => rfl) rfl (fun _ _ _ => rfl) _ _ _ _ w
  obtain ⟨x, rfl, h1⟩ := evs1 e0
  obtain ⟨b, xs, q, w⟩ := co_seq (f := fun xs => M.bnd (M.opt (intsOf xs)) fun ns => vint ns.sum) w
  obtain ⟨ns, e3, w⟩ := wp_opt.mp (wp_bnd.mp w)
  obtain ⟨p, vs, rfl, e1, e2⟩ := itemsOf_rel r0 h1 q
  obtain ⟨e4, _⟩ := e2.ints e3
  subst e4
  refine ⟨p, ns, rfl, ?_, fin_pv w r0 vi⟩
  cases b with
  | true => exact .inl (by simpa using e1)
  | false => exact .inr (by simpa using e1)
theorem rg_rel {n : Nat} (i j : Int) : VsRel K m n H (rangeL i (j - i).toNat) (rgV i j) := by
  have key : ∀ (k : Nat) (lo : Int), VsRel K m n H (rangeL lo k) ((List.range k).map fun t => V.int (lo + (t : Nat))) := by
    intro k
    induction k with
    | zero => intro lo; simp only [rangeL, List.range_zero, List.map_nil, VsRel]
    | succ k ih =>
      intro lo
      rw [List.range_succ_eq_map, List.map_cons, List.map_map, rangeL]
      simp only [VsRel]
      refine ⟨_, _, rfl, by simp only [VRel]; simp, ?_⟩
      have := ih (lo + 1)
      have e : ((fun t => V.int (lo + (t : Nat))) ∘ Nat.succ) = fun (t : Nat) => V.int (lo + 1 + (t : Nat)) := by
        funext t
        show V.int (lo + ((t + 1 : Nat) : Int)) = _
        congr 1
        omega
      rw [e]; exact this
  exact key _ _
theorem rgOk_of {i j : Int} (h : rgOkB i j = true) : RgOk i j := by
  unfold rgOkB at h
  simp only [Bool.and_eq_true, decide_eq_true_eq] at h
  exact ⟨h.1.1.1.1, h.1.1.1.2, h.1.1.2, h.1.2, h.2⟩
theorem prs_lrg1 : PrS K .lrg1 (fun vs H Q => ∃ j, vs = [.int j] ∧ RgOk 0 j ∧ ∀ q, H q = none → Q (.ref q) (upd H q (.lst (rgV 0 j)))) := by
  intro m s σ H es vs Q X r0 e0 w
  obtain ⟨a, rfl, w⟩ := one (f := lrg1F) (fun _ => rfl) rfl (fun _ _ _ => rfl) _ _ _ _ w
  obtain ⟨x, rfl, h1⟩ := evs1 e0
  rcases q : pvOf s a with _ | p
  · exact (show False from wp_eq (d := M.no) w (by simp only [lrg1F, q])).elim
  · cases p with
    | int j =>
      have w := wp_eq (d := lrgF 0 j) w (by simp only [lrg1F, q])
      obtain ⟨hz, w⟩ := wp_chk.mp (wp_bnd.mp w)
      obtain rfl := vr_int (pvOf_rel r0 h1 q)
      exact ⟨j, rfl, rgOk_of hz, fun q hq => fin_lst w r0 (rg_rel 0 j) hq⟩
    | _ => exact (show False from wp_eq (d := M.no) w (by simp only [lrg1F, q])).elim
theorem prs_trg1 : PrS K .trg1 (fun vs H Q => ∃ j, vs = [.int j] ∧ RgOk 0 j ∧ ∀ q, H q = none → Q (.ref q) (upd H q (.tup (rgV 0 j)))) := by
  intro m s σ H es vs Q X r0 e0 w
  obtain ⟨a, rfl, w⟩ := one (f := trg1F) (fun _ => rfl) rfl (fun _ _ _ => rfl) _ _ _ _ w
  obtain ⟨x, rfl, h1⟩ := evs1 e0
  rcases q : pvOf s a with _ | p
  · exact (show False from wp_eq (d := M.no) w (by simp only [trg1F, q])).elim
  · cases p with
    | int j =>
      have w := wp_eq (d := trgF 0 j) w (by simp only [trg1F, q])
      obtain ⟨hz, w⟩ := wp_chk.mp (wp_bnd.mp w)
      obtain rfl := vr_int (pvOf_rel r0 h1 q)
      exact ⟨j, rfl, rgOk_of hz, fun q hq => fin_tup w r0 (rg_rel 0 j) hq⟩
    | _ => exact (show False from wp_eq (d := M.no) w (by simp only [trg1F, q])).elim
theorem int2_at {a b : EV} {f : Int → Int → M EV} {RR : EV → DS → Prop} (w : wp (int2 f a b) s RR X) : ∃ i j, pvOf s a = some (.int i) ∧ pvOf s b = some (.int j) ∧ wp (f i j) s RR X := by
  rcases q : pvOf s a with _ | p
  · exact (show False from wp_eq (d := M.no) w (by simp only [int2, q])).elim
  · cases p with
    | int i =>
      rcases q2 : pvOf s b with _ | p2
      · exact (show False from wp_eq (d := M.no) w (by simp only [int2, q, q2])).elim
      · cases p2 with
        | int j => exact ⟨i, j, rfl, rfl, wp_eq w (by simp only [int2, q, q2])⟩
        | _ => exact (show False from wp_eq (d := M.no) w (by simp only [int2, q, q2])).elim
    | _ => exact (show False from wp_eq (d := M.no) w (by simp only [int2, q])).elim
theorem prs_lrg2 : PrS K .lrg2 (fun vs H Q => ∃ i j, vs = [.int i, .int j] ∧ RgOk i j ∧ ∀ q, H q = none → Q (.ref q) (upd H q (.lst (rgV i j)))) := by
  intro m s σ H es vs Q X r0 e0 w
  obtain ⟨a, b, rfl, w⟩ := two (f := lrg2F) (fun _ _ => rfl) rfl (fun _ => rfl) (fun _ _ _ _ => rfl) _ _ _ _ w
  obtain ⟨x, y, rfl, h1, h2⟩ := evs2 e0
  obtain ⟨i, j, q1, q2, w⟩ := int2_at w
  obtain ⟨hz, w⟩ := wp_chk.mp (wp_bnd.mp w)
  obtain rfl := vr_int (pvOf_rel r0 h1 q1)
  obtain rfl := vr_int (pvOf_rel r0 h2 q2)
  exact ⟨i, j, rfl, rgOk_of hz, fun q hq => fin_lst w r0 (rg_rel i j) hq⟩
theorem prs_trg2 : PrS K .trg2 (fun vs H Q => ∃ i j, vs = [.int i, .int j] ∧ RgOk i j ∧ ∀ q, H q = none → Q (.ref q) (upd H q (.tup (rgV i j)))) := by
  intro m s σ H es vs Q X r0 e0 w
  obtain ⟨a, b, rfl, w⟩ := two (f := trg2F) (fun _ _ => rfl) rfl (fun _ => rfl) (fun _ _ _ _ => rfl) _ _ _ _ w
  obtain ⟨x, y, rfl, h1, h2⟩ := evs2 e0
  obtain ⟨i, j, q1, q2, w⟩ := int2_at w
  obtain ⟨hz, w⟩ := wp_chk.mp (wp_bnd.mp w)
  obtain rfl := vr_int (pvOf_rel r0 h1 q1)
  obtain rfl := vr_int (pvOf_rel r0 h2 q2)
  exact ⟨i, j, rfl, rgOk_of hz, fun q hq => fin_tup w r0 (rg_rel i j) hq⟩
theorem prs_all : PrS K .all (rAll K) := by
  intro m s σ H es vs Q X r0 e0 w
  obtain ⟨a, rfl, w⟩ := one (f := allF) (fun _ => rfl) rfl (fun _ _ _ => rfl) _ _ _ _ w
  obtain ⟨x, rfl, h1⟩ := evs1 e0
  obtain ⟨xs, q, w⟩ := co_lst (f := fun xs => M.bnd (M.opt (boolsOf xs)) fun ns => vbl (ns.all id)) w
  obtain ⟨ns, e3, w⟩ := wp_opt.mp (wp_bnd.mp w)
  obtain ⟨p, vs, rfl, e1, e2⟩ := coOf_rel r0 h1 q
  have e4 := e2.bools e3
  subst e4
  exact ⟨p, ns, rfl, e1, fin_pv w r0 vb⟩
theorem prs_any : PrS K .any (rAny K) := by
  intro m s σ H es vs Q X r0 e0 w
  obtain ⟨a, rfl, w⟩ := one (f := anyF) (fun _ => rfl) rfl (fun _ _ _ => rfl) _ _ _ _ w
  obtain ⟨x, rfl, h1⟩ := evs1 e0
  obtain ⟨xs, q, w⟩ := co_lst (f := fun xs => M.bnd (M.opt (boolsOf xs)) fun ns => vbl (ns.any id)) w
  obtain ⟨ns, e3, w⟩ := wp_opt.mp (wp_bnd.mp w)
  obtain ⟨p, vs, rfl, e1, e2⟩ := coOf_rel r0 h1 q
  have e4 := e2.bools e3
  subst e4
  exact ⟨p, ns, rfl, e1, fin_pv w r0 vb⟩
theorem insI_perm (x : Int) : ∀ l : List Int, (insI x l).Perm (x :: l)
  | [] => .refl _
  | y :: r => by
    unfold insI
    split
    · exact .refl _
    · exact ((insI_perm x r).cons y).trans (.swap x y r)
theorem sortI_perm : ∀ l : List Int, (sortI l).Perm l
  | [] => .refl _
  | x :: r => (insI_perm x (sortI r)).trans ((sortI_perm r).cons x)
theorem insI_sorted (x : Int) : ∀ l : List Int, l.Pairwise (· ≤ ·) → (insI x l).Pairwise (· ≤ ·)
  | [], _ => by simp [insI]
  | y :: r, h => by
    unfold insI
    rw [List.pairwise_cons] at h
    split
    · rename_i hx
      rw [List.pairwise_cons, List.pairwise_cons]
      exact ⟨fun z hz => by
        rcases List.mem_cons.mp hz with rfl | hz
        · exact hx
        · exact Int.le_trans hx (h.1 z hz), h⟩
    · rename_i hx
      rw [List.pairwise_cons]
      refine ⟨fun z hz => ?_, insI_sorted x r h.2⟩
      rcases List.mem_cons.mp ((insI_perm x r).mem_iff.mp hz) with rfl | hz
      · omega
      · exact h.1 z hz
theorem sortI_sorted : ∀ l : List Int, (sortI l).Pairwise (· ≤ ·)
  | [] => .nil
  | x :: r => insI_sorted x _ (sortI_sorted r)
theorem sortI_only {ns l : List Int} (h : l.Perm ns) (h2 : l.Pairwise (· ≤ ·)) : l = sortI ns := PySem.W.ksm_same (h.trans (sortI_perm ns).symm) h2 (sortI_sorted ns)
def PairsR (K : Fg) (H : Hp) : List V → List (Int × Int) → Prop
  | [], [] => True
  | x :: xs, z :: zs => (∃ t, x = V.ref t ∧ SqT K H t [.int z.1, .int z.2]) ∧ PairsR K H xs zs
  | _, _ => False
def pairAt (h : Heap) : Value → Int × Int
  | .ref t => match h.get? t with
    | some o => match o.data with
      | .seq its _ => match its.toList with
        | [.int i _, .int j _] => (i, j)
        | _ => (0, 0)
      | _ => (0, 0)
    | none => (0, 0)
  | _ => (0, 0)
theorem pairAt_ok {X : Cx} {pins : List (Addr × Obj)} {σ : SSt} {H : Hp} {s : Shared} {t : Addr} {z : Int × Int} (I : Inv X pins σ H s) (q : SqT X.K H t [.int z.1, .int z.2]) : pairAt s.heap (.ref t) = z ∧ Srt.IsPair s.heap (.ref t) z.1 z.2 := by
  obtain ⟨ws, rw', ⟨ob, hob, hcl, nn, hdt⟩, _⟩ := I.tuple q
  obtain ⟨w1, w2, rfl, r1, r2⟩ := vals2 rw'
  obtain ⟨k1, rfl⟩ := r1
  obtain ⟨k2, rfl⟩ := r2
  refine ⟨?_, t, ob, k1, k2, nn, rfl, hob, hcl, hdt⟩
  simp only [pairAt, hob, hdt]
def rSortQ (K : Fg) : List V → Hp → VK → Prop := fun vs H Q => ∃ (a : Addr) (xs : List V) (zs : List (Int × Int)), vs = [V.ref a] ∧ SqL K H a xs ∧ PairsR K H xs zs ∧
  ∀ ys us p, us.Perm zs → us.Pairwise (fun x y => SrtO.lexB y x = false) → PairsR K H ys us → H p = none → Q (.ref p) (upd H p (.lst ys))
theorem pairsR_vals {X : Cx} {pins : List (Addr × Obj)} {σ : SSt} {H : Hp} {s : Shared} (I : Inv X pins σ H s) : ∀ (xs : List V) (zs : List (Int × Int)) (ws : List Value), PairsR X.K H xs zs → Vals xs ws →
    ws.map (pairAt s.heap) = zs ∧ ∀ v ∈ ws, Srt.IsPair s.heap v (pairAt s.heap v).1 (pairAt s.heap v).2 ∧ ∃ t, v = Value.ref t ∧ SqT X.K H t [.int (pairAt s.heap v).1, .int (pairAt s.heap v).2] := by
  intro xs
  induction xs with
  | nil =>
    intro zs ws h r
    cases r
    cases zs with
    | nil => exact ⟨rfl, fun _ h => absurd h (by simp)⟩
    | cons _ _ => exact False.elim h
  | cons x xs ih =>
    intro zs ws h r
    cases zs with
    | nil => exact False.elim h
    | cons z zs =>
      obtain ⟨⟨t, e, q⟩, h⟩ := h
      subst e
      cases r with
      | cons r rr =>
        obtain ⟨h1, h2⟩ := ih _ _ h rr
        obtain ⟨e1, e2⟩ := pairAt_ok I q
        have r : _ = Value.ref t := r
        subst r
        refine ⟨by rw [List.map_cons, e1, h1], fun v hv => ?_⟩
        rcases List.mem_cons.mp hv with rfl | hv
        · rw [e1]; exact ⟨e2, t, rfl, q⟩
        · exact h2 v hv
theorem pairsR_back {K : Fg} {H : Hp} {k : Value → Int × Int} : ∀ {us : List Value}, (∀ v ∈ us, ∃ t, v = Value.ref t ∧ SqT K H t [.int (k v).1, .int (k v).2]) → PairsR K H (us.map backV) (us.map k) ∧ Vals (us.map backV) us
  | [], _ => ⟨trivial, .nil⟩
  | u :: us, h => by
    obtain ⟨t, rfl, q⟩ := h u List.mem_cons_self
    obtain ⟨h1, h2⟩ := pairsR_back (us := us) fun v hv => h v (List.mem_cons_of_mem _ hv)
    exact ⟨⟨⟨t, rfl, q⟩, h1⟩, .cons rfl h2⟩
theorem cr_sortQ {X : Cx} : CallR X (.builtin "sorted") (rSortQ X.K) := by
  intro pins s σ H vs us Q I r ⟨a, xs, zs, e, hs, hp, q⟩
  subst e
  obtain ⟨ws, rv, hl, hz⟩ := I.list hs
  obtain ⟨u, e, ru⟩ := vals1 r
  subst e
  obtain rfl : u = Value.ref a := ru
  obtain ⟨k1, k2⟩ := pairsR_vals I _ _ _ hp rv
  refine SrtO.sorted_pairsO (k := pairAt s.heap) hl.isList (by rw [← rv.length]; exact hz) (fun v hv => (k2 v hv).1) fun h' d out h1 h2 kp hd ⟨n, hn⟩ => ?_
  obtain ⟨b1, b2⟩ := pairsR_back (K := X.K) (H := H) (k := pairAt s.heap) (us := out) fun v hv => (k2 v (h2.perm.mem_iff.mp hv)).2
  refine ⟨.ref d, upd H d (.lst (out.map backV)), I.laid (t' := s.toks) kp hd ⟨?_, out, n, b2, hn⟩, rfl, q _ (out.map (pairAt s.heap)) d (by rw [← k1]; exact h2.perm.map _) ?_ b1 (I.hok.fresh hd)⟩
  · rw [List.length_map, h2.perm.length_eq, ← rv.length]; exact hz
  · rw [List.pairwise_map]; exact h1
theorem insP_perm (x : Int × Int) : ∀ l, (insP x l).Perm (x :: l)
  | [] => .refl _
  | y :: r => by
    unfold insP
    split
    · exact .refl _
    · exact ((insP_perm x r).cons y).trans (.swap x y r)
theorem sortP_perm : ∀ l, (sortP l).Perm l
  | [] => .refl _
  | x :: r => (insP_perm x (sortP r)).trans ((sortP_perm r).cons x)
theorem leP_iff {a b : Int × Int} : leP a b = true ↔ SrtO.lexB b a = false := by
  rw [SrtO.lexB_no]
  unfold leP
  simp only [Bool.or_eq_true, Bool.and_eq_true, decide_eq_true_eq]
  omega
theorem insP_sorted (x : Int × Int) : ∀ l, l.Pairwise (fun a b => leP a b = true) → (insP x l).Pairwise (fun a b => leP a b = true)
  | [], _ => by simp [insP]
  | y :: r, h => by
    unfold insP
    rw [List.pairwise_cons] at h
    split
    · rename_i hx
      rw [List.pairwise_cons, List.pairwise_cons]
      refine ⟨fun z hz => ?_, h⟩
      rcases List.mem_cons.mp hz with rfl | hz
      · exact hx
      · have := h.1 z hz
        unfold leP at hx this ⊢
        simp only [Bool.or_eq_true, Bool.and_eq_true, decide_eq_true_eq] at hx this ⊢
        omega
    · rename_i hx
      rw [List.pairwise_cons]
      refine ⟨fun z hz => ?_, insP_sorted x r h.2⟩
      rcases List.mem_cons.mp ((insP_perm x r).mem_iff.mp hz) with rfl | hz
      · unfold leP at hx ⊢
        simp only [Bool.or_eq_true, Bool.and_eq_true, decide_eq_true_eq] at hx ⊢
        omega
      · exact h.1 z hz
theorem sortP_sorted : ∀ l, (sortP l).Pairwise (fun a b => leP a b = true)
  | [] => .nil
  | x :: r => insP_sorted x _ (sortP_sorted r)
theorem sortP_only {zs us : List (Int × Int)} (h : us.Perm zs) (h2 : us.Pairwise (fun x y => SrtO.lexB y x = false)) : us = sortP zs := by
  refine List.Perm.eq_of_pairwise (le := fun a b => leP a b = true) (fun a b _ _ h1 h2 => ?_) (h2.imp fun h => leP_iff.mpr h) (sortP_sorted zs) (h.trans (sortP_perm zs).symm)
  unfold leP at h1 h2
  simp only [Bool.or_eq_true, Bool.and_eq_true, decide_eq_true_eq] at h1 h2
  exact Prod.ext (by omega) (by omega)
theorem VsRel.pairs : ∀ {ps : List PV} {vs : List V} {zs : List (Int × Int)} {m : Nat → Addr} {n : Nat}, VsRel K m n H ps vs → pairsOf ps = some zs → PairsR K H vs zs
  | [], _, _, _, _, h, e => by
    simp only [VsRel] at h
    simp only [pairsOf, Option.some.injEq] at e
    subst h; subst e
    trivial
  | .tup [.int i, .int j] :: xs, _, _, _, _, h, e => by
    simp only [VsRel] at h
    obtain ⟨v, r, rfl, h1, h2⟩ := h
    simp only [pairsOf, Option.map_eq_some_iff] at e
    obtain ⟨zs, e2, rfl⟩ := e
    simp only [VRel] at h1
    obtain ⟨t, us, rfl, hq, hu⟩ := h1
    simp only [VsRel, VRel] at hu
    obtain ⟨_, _, rfl, rfl, _, _, rfl, rfl, rfl⟩ := hu
    exact ⟨⟨t, rfl, hq⟩, VsRel.pairs h2 e2⟩
  | .tup [] :: _, _, _, _, _, _, e => by simp [pairsOf] at e
  | .non :: _, _, _, _, _, _, e => by simp [pairsOf] at e
  | .bl _ :: _, _, _, _, _, _, e => by simp [pairsOf] at e
  | .str _ :: _, _, _, _, _, _, e => by simp [pairsOf] at e
  | .int _ :: _, _, _, _, _, _, e => by simp [pairsOf] at e
  | .ref _ :: _, _, _, _, _, _, e => by simp [pairsOf] at e
  | .tup [_] :: _, _, _, _, _, _, e => by simp [pairsOf] at e
  | .tup (_ :: _ :: _ :: _) :: _, _, _, _, _, _, e => by simp [pairsOf] at e
  | .tup (.non :: _) :: _, _, _, _, _, _, e => by simp [pairsOf] at e
  | .tup (.bl _ :: _) :: _, _, _, _, _, _, e => by simp [pairsOf] at e
  | .tup (.str _ :: _) :: _, _, _, _, _, _, e => by simp [pairsOf] at e
  | .tup (.tup _ :: _) :: _, _, _, _, _, _, e => by simp [pairsOf] at e
  | .tup (.ref _ :: _) :: _, _, _, _, _, _, e => by simp [pairsOf] at e
  | .tup [_, .non] :: _, _, _, _, _, _, e => by simp [pairsOf] at e
  | .tup [_, .bl _] :: _, _, _, _, _, _, e => by simp [pairsOf] at e
  | .tup [_, .str _] :: _, _, _, _, _, _, e => by simp [pairsOf] at e
  | .tup [_, .tup _] :: _, _, _, _, _, _, e => by simp [pairsOf] at e
  | .tup [_, .ref _] :: _, _, _, _, _, _, e => by simp [pairsOf] at e
theorem VsRel.ofPairs {m : Nat → Addr} {n : Nat} : ∀ {ys : List V} {us : List (Int × Int)}, PairsR K H ys us → VsRel K m n H (us.map mkP) ys
  | [], [], _ => by simp only [List.map_nil, VsRel]
  | [], _ :: _, h => h.elim
  | _ :: _, [], h => h.elim
  | y :: ys, u :: us, ⟨⟨t, e, q⟩, h⟩ => by
    simp only [List.map_cons, VsRel, mkP, VRel]
    exact ⟨y, ys, rfl, ⟨t, _, e, q, _, _, rfl, rfl, _, _, rfl, rfl, rfl⟩, VsRel.ofPairs h⟩
theorem prs_sorted : PrS K .sorted (fun vs H Q => rSortedI K vs H Q ∨ rSortQ K vs H Q) := by
  intro m s σ H es vs Q X r0 e0 w
  obtain ⟨a, rfl, w⟩ := one (f := sortedF) (fun _ => rfl) rfl (fun _ _ _ => rfl) _ _ _ _ w
  obtain ⟨x, rfl, h1⟩ := evs1 e0
  obtain ⟨xs, q, w⟩ := co_lst (f := sortL) w
  obtain ⟨p, vs, rfl, e1, e2⟩ := coOf_rel r0 h1 q
  cases e3 : intsOf xs with
  | some ns =>
    refine .inl ?_
    have w := wp_eq (d := newL ((sortI ns).map .int)) w (by simp only [sortL, e3])
    obtain ⟨_, w⟩ := wp_newL w
    obtain ⟨e4, _⟩ := e2.ints e3
    subst e4
    refine ⟨p, ns, rfl, e1, fun l q hp hs hq => ?_⟩
    obtain rfl := sortI_only hp hs
    exact fin_lst w r0 (VsRel.ofInts _) hq
  | none =>
    refine .inr ?_
    have w := wp_eq (d := M.bnd (M.opt (pairsOf xs)) fun zs => newL ((sortP zs).map mkP)) w (by simp only [sortL, e3])
    obtain ⟨zs, e4, w⟩ := wp_opt.mp (wp_bnd.mp w)
    obtain ⟨_, w⟩ := wp_newL w
    refine ⟨p, vs, zs, rfl, e1, e2.pairs e4, fun ys us q hp hs hr hq => ?_⟩
    obtain rfl := sortP_only hp hs
    exact fin_lst w r0 (VsRel.ofPairs hr) hq
theorem cr_sortB {X : Cx} : CallR X (.builtin "sorted") (fun vs H Q => rSortedI X.K vs H Q ∨ rSortQ X.K vs H Q) := fun pins s σ H vs us Q I r h => h.elim (fun h => cr_sortedI pins s σ H vs us Q I r h) fun h => cr_sortQ pins s σ H vs us Q I r h
theorem prs_tuple : PrS K .tuple (fun xs H Q => ∃ p ys, xs = [.ref p] ∧ ((SqL K H p ys ∧ ∀ l, H l = none → Q (.ref l) (upd H l (.tup ys))) ∨ (SqT K H p ys ∧ Q (.ref p) H))) := by
  intro m s σ H es vs Q X r0 e0 w
  obtain ⟨a, rfl, w⟩ := one (f := tupleF) (fun _ => rfl) rfl (fun _ _ _ => rfl) _ _ _ _ w
  obtain ⟨x, rfl, h1⟩ := evs1 e0
  unfold wp tupleF at w
  cases q : itemsOf s a with
  | none => rw [q] at w; exact (show False from w).elim
  | some z =>
    obtain ⟨bb, xs⟩ := z
    rw [q] at w
    obtain ⟨p, vs, rfl, e1, e2⟩ := itemsOf_rel r0 h1 q
    refine ⟨p, vs, rfl, ?_⟩
    cases bb with
    | true => exact .inl ⟨e1, fun q hq => fin_tup w r0 e2 hq⟩
    | false =>
      refine .inr ⟨e1, fin_pv w r0 ?_⟩
      simp only [VRel]
      exact ⟨p, vs, rfl, e1, e2⟩
theorem prs_list : PrS K .list (fun xs H Q => ∃ p ys, xs = [.ref p] ∧ (SqL K H p ys ∨ SqT K H p ys) ∧ ∀ l, H l = none → Q (.ref l) (upd H l (.lst ys))) := by
  intro m s σ H es vs Q X r0 e0 w
  obtain ⟨a, rfl, w⟩ := one (f := listF) (fun _ => rfl) rfl (fun _ _ _ => rfl) _ _ _ _ w
  obtain ⟨x, rfl, h1⟩ := evs1 e0
  unfold wp listF at w
  cases q : itemsOf s a with
  | none => rw [q] at w; exact (show False from w).elim
  | some z =>
    obtain ⟨bb, xs⟩ := z
    rw [q] at w
    obtain ⟨p, vs, rfl, e1, e2⟩ := itemsOf_rel r0 h1 q
    exact ⟨p, vs, rfl, seq_or e1, fun q hq => fin_lst w r0 e2 hq⟩
theorem maxI_mem : ∀ (r : List Int) (x : Int), maxI x r ∈ x :: r ∧ ∀ y, y ∈ x :: r → y ≤ maxI x r
  | [], x => by simp [maxI]
  | z :: r, x => by
    unfold maxI
    by_cases hc : z > x
    · rw [if_pos hc]
      obtain ⟨h1, h2⟩ := maxI_mem r z
      have hz := h2 z List.mem_cons_self
      refine ⟨List.mem_cons_of_mem _ h1, fun y hy => ?_⟩
      rcases List.mem_cons.mp hy with rfl | hy
      · omega
      · exact h2 _ hy
    · rw [if_neg hc]
      obtain ⟨h1, h2⟩ := maxI_mem r x
      have hz := h2 x List.mem_cons_self
      refine ⟨?_, fun y hy => ?_⟩
      · rcases List.mem_cons.mp h1 with e | e
        · rw [e]; exact List.mem_cons_self
        · exact List.mem_cons_of_mem _ (List.mem_cons_of_mem _ e)
      · rcases List.mem_cons.mp hy with rfl | hy
        · exact hz
        · rcases List.mem_cons.mp hy with rfl | hy
          · omega
          · exact h2 _ (List.mem_cons_of_mem _ hy)
theorem minI_mem : ∀ (r : List Int) (x : Int), minI x r ∈ x :: r ∧ ∀ y, y ∈ x :: r → minI x r ≤ y
  | [], x => by simp [minI]
  | z :: r, x => by
    unfold minI
    by_cases hc : z < x
    · rw [if_pos hc]
      obtain ⟨h1, h2⟩ := minI_mem r z
      have hz := h2 z List.mem_cons_self
      refine ⟨List.mem_cons_of_mem _ h1, fun y hy => ?_⟩
      rcases List.mem_cons.mp hy with rfl | hy
      · omega
      · exact h2 _ hy
    · rw [if_neg hc]
      obtain ⟨h1, h2⟩ := minI_mem r x
      have hz := h2 x List.mem_cons_self
      refine ⟨?_, fun y hy => ?_⟩
      · rcases List.mem_cons.mp h1 with e | e
        · rw [e]; exact List.mem_cons_self
        · exact List.mem_cons_of_mem _ (List.mem_cons_of_mem _ e)
      · rcases List.mem_cons.mp hy with rfl | hy
        · exact hz
        · rcases List.mem_cons.mp hy with rfl | hy
          · omega
          · exact h2 _ (List.mem_cons_of_mem _ hy)
theorem prs_maxL : PrS K .maxL (rMax K) := by
  intro m s σ H es vs Q X r0 e0 w
  obtain ⟨a, rfl, w⟩ := one (f := maxLF) (fun _ => rfl) rfl (fun _ _ _ => rfl) _ _ _ _ w
  obtain ⟨x, rfl, h1⟩ := evs1 e0
  obtain ⟨xs, q, w⟩ := co_lst (f := fun xs s => match intsOf xs with | some (x :: r) => .ok (.pv (.int (maxI x r))) s | _ => .no) w
  unfold wp at w
  cases e3 : intsOf xs with
  | none => rw [e3] at w; exact (show False from w).elim
  | some ns =>
    rw [e3] at w
    cases ns with
    | nil => exact (show False from w).elim
    | cons z r =>
      obtain ⟨p, vs, rfl, e1, e2⟩ := coOf_rel r0 h1 q
      obtain ⟨e4, _⟩ := e2.ints e3
      subst e4
      refine ⟨p, z :: r, rfl, e1, by simp, fun k hk hle => ?_⟩
      obtain ⟨m1, m2⟩ := maxI_mem r z
      have : k = maxI z r := by have := hle _ m1; have := m2 _ hk; omega
      subst this
      exact fin_pv w r0 vi
theorem prs_minL : PrS K .minL (rMin K) := by
  intro m s σ H es vs Q X r0 e0 w
  obtain ⟨a, rfl, w⟩ := one (f := minLF) (fun _ => rfl) rfl (fun _ _ _ => rfl) _ _ _ _ w
  obtain ⟨x, rfl, h1⟩ := evs1 e0
  obtain ⟨xs, q, w⟩ := co_lst (f := fun xs s => match intsOf xs with | some (x :: r) => .ok (.pv (.int (minI x r))) s | _ => .no) w
  unfold wp at w
  cases e3 : intsOf xs with
  | none => rw [e3] at w; exact (show False from w).elim
  | some ns =>
    rw [e3] at w
    cases ns with
    | nil => exact (show False from w).elim
    | cons z r =>
      obtain ⟨p, vs, rfl, e1, e2⟩ := coOf_rel r0 h1 q
      obtain ⟨e4, _⟩ := e2.ints e3
      subst e4
      refine ⟨p, z :: r, rfl, e1, by simp, fun k hk hle => ?_⟩
      obtain ⟨m1, m2⟩ := minI_mem r z
      have : k = minI z r := by have := hle _ m1; have := m2 _ hk; omega
      subst this
      exact fin_pv w r0 vi
theorem flat_rel {p : PV} {v : V} {n : Nat} (h : VRel K m n H p v) (f : flatP p = true) : flatV v = true := by
  cases p with
  | non => rw [vr_non h]; rfl
  | bl b => rw [vr_bl h]; rfl
  | int b => rw [vr_int h]; rfl
  | str b => rw [vr_str h]; rfl
  | tup b => cases f
  | ref b => cases f
theorem eq_rel {p q : PV} {v u : V} {n : Nat} (h : VRel K m n H p v) (h2 : VRel K m n H q u) (f : flatP p = true) (f2 : flatP q = true) : eqV v u = eqP p q := by
  cases p with
  | tup b => cases f
  | ref b => cases f
  | non => rw [vr_non h]; cases q with
    | tup b => cases f2
    | ref b => cases f2
    | non => rw [vr_non h2]; rfl
    | bl b => rw [vr_bl h2]; rfl
    | int b => rw [vr_int h2]; rfl
    | str b => rw [vr_str h2]; rfl
  | bl b => rw [vr_bl h]; cases q with
    | tup b => cases f2
    | ref b => cases f2
    | non => rw [vr_non h2]; rfl
    | bl b => rw [vr_bl h2]; rfl
    | int b => rw [vr_int h2]; rfl
    | str b => rw [vr_str h2]; rfl
  | int b => rw [vr_int h]; cases q with
    | tup b => cases f2
    | ref b => cases f2
    | non => rw [vr_non h2]; rfl
    | bl b => rw [vr_bl h2]; rfl
    | int b => rw [vr_int h2]; rfl
    | str b => rw [vr_str h2]; rfl
  | str b => rw [vr_str h]; cases q with
    | tup b => cases f2
    | ref b => cases f2
    | non => rw [vr_non h2]; rfl
    | bl b => rw [vr_bl h2]; rfl
    | int b => rw [vr_int h2]; rfl
    | str b => rw [vr_str h2]; rfl
theorem in_rel {p : PV} {v : V} {n : Nat} (h : VRel K m n H p v) (f : flatP p = true) : ∀ {ps : List PV} {vs : List V}, VsRel K m n H ps vs → ps.all flatP = true → vs.all flatV = true ∧ inV v vs = inP p ps
  | [], _, hs, _ => by simp only [VsRel] at hs; subst hs; exact ⟨rfl, rfl⟩
  | q :: qs, _, hs, fs => by
    simp only [VsRel] at hs
    obtain ⟨u, r, rfl, h1, h2⟩ := hs
    rw [List.all_cons, Bool.and_eq_true] at fs
    obtain ⟨i1, i2⟩ := in_rel h f h2 fs.2
    refine ⟨by rw [List.all_cons, flat_rel h1 fs.1, i1]; rfl, ?_⟩
    unfold inV inP at i2 ⊢
    rw [List.any_cons, List.any_cons, i2, eq_rel h1 h fs.1 f]
theorem in_core {a b : EV} {x y : V} {f : Bool → Bool} (r0 : Rel K m s σ H) (h1 : EVRel K m s σ H a x) (h2 : EVRel K m s σ H b y)
    (w : wp (fun s => match pvOf s a, itemsOf s b with | some p, some (_, xs) => M.bnd (M.chk (flatP p && xs.all flatP)) (fun _ => vbl (f (inP p xs))) s | _, _ => R.no) s (OkP K m s σ H T Q) X) :
    ∃ p xs, y = .ref p ∧ (SqL K H p xs ∨ SqT K H p xs) ∧ flatV x = true ∧ xs.all flatV = true ∧ Q (.bl (f (inV x xs))) H := by
  cases q : pvOf s a with
  | none => exact (show False from wp_eq (d := M.no) w (by simp only [q])).elim
  | some p =>
    cases q2 : itemsOf s b with
    | none => exact (show False from wp_eq (d := M.no) w (by simp only [q, q2])).elim
    | some z =>
      obtain ⟨bb, xs⟩ := z
      obtain ⟨hz, w⟩ := wp_chk.mp (wp_bnd.mp (wp_eq (d := M.bnd (M.chk (flatP p && xs.all flatP)) (fun _ => vbl (f (inP p xs)))) w (by simp only [q, q2])))
      rw [Bool.and_eq_true] at hz
      have hv := pvOf_rel r0 h1 q
      obtain ⟨l, vs, rfl, e1, e2⟩ := itemsOf_rel r0 h2 q2
      obtain ⟨e3, e4⟩ := in_rel hv hz.1 e2 hz.2
      refine ⟨l, vs, rfl, seq_or e1, flat_rel hv hz.1, e3, ?_⟩
      rw [e4]
      exact fin_pv w r0 vb
theorem prs_inn : PrS K .inn (b2 (rIn K false)) := by
  intro m s σ H es vs Q X r0 e0 w
  obtain ⟨a, b, rfl, w⟩ := two (f := innF) (fun _ _ => rfl) rfl (fun _ => rfl) (fun _ _ _ _ => rfl) _ _ _ _ w
  obtain ⟨x, y, rfl, h1, h2⟩ := evs2 e0
  exact ⟨x, y, rfl, in_core (f := id) r0 h1 h2 w⟩
theorem prs_notin : PrS K .notin (b2 (rIn K true)) := by
  intro m s σ H es vs Q X r0 e0 w
  obtain ⟨a, b, rfl, w⟩ := two (f := notinF) (fun _ _ => rfl) rfl (fun _ => rfl) (fun _ _ _ _ => rfl) _ _ _ _ w
  obtain ⟨x, y, rfl, h1, h2⟩ := evs2 e0
  exact ⟨x, y, rfl, in_core (f := not) r0 h1 h2 w⟩
def tItems (te : TE) : TE := fun σ H Q => te σ H fun x H1 => ∃ (d : Addr) (kvs : List (Key × V)), x = .ref d ∧ Rd H1 d (.dK kvs) ∧ ∀ p, H1 p = none → Q (.ref p) (upd H1 p (DX.itemsO p d))
theorem pe_items {X : Cx} {e : Expr} {te : TE} {apos cpos : Pos} (he : PE X e te) (hbase : attributeBase e "items" X.env (eval e X.env) = eval e X.env := by rfl) (hline : (apos.endLine == cpos.line) = true := by rfl)
    (hst : starEach [] X.env = [] := by rfl) : PE X (.Call (.Attribute e "items" apos) [] [] cpos) (tItems te) := by
  refine ⟨fun pins s σ H Q I hq => ?_⟩
  refine wpAny_Call_method (T := "dict") (id := "dict.items") hbase rfl hline F.plainAttrs_dict F.slot_dict_items F.type_dict_items (thn (he.run pins s σ H _ I hq) fun u s1 ⟨x, H1, I1, rx, d, kvs, ex, hd, q⟩ => ?_)
  subst ex
  obtain rfl : u = Value.ref d := rx
  obtain ⟨hz, hs0, vs, kv, hdo⟩ := dk_rd I1.hok hd
  refine ⟨hdo.typeIs, hdo.mapOf.noDict, ?_⟩
  show wpAny _ _ (callWith cpos (.builtin "dict.items") [.ref d] [] []) _ X.xe s1
  refine method_meetsIn F.slot_dict_items F.entry_dict_items rfl (PySem.evalArgs_none ⟨rfl, hdo.typeIs, F.args_dict_items_1 _, _, meets_dict_items (mixKind X.prog X.w) d hs0, ⟨vs, hdo⟩, ?_⟩)
  exact ⟨.ref _, upd H1 s1.heap.objs.size (DX.itemsO s1.heap.objs.size d), I1.laid (t' := s1.toks) (fun b u e => Heap.get?_push_of_some _ e) (Nat.le_refl _) (DX.itemsO_ok (Heap.get?_push_size _ rfl)), rfl, q _ (I1.hok.fresh (Nat.le_refl _))⟩
def rSIK (K : Fg) : List V → Hp → VK → Prop := fun vs H Q => ∃ (p d : Addr) (kvs : List (Key × V)) (zs : List (Int × Int)), vs = [.ref p] ∧ H p = some (DX.itemsO p d) ∧ Rd H d (.dK kvs) ∧ kvs = zs.map (fun z => (Sum.inl z.1, V.int z.2)) ∧
  ∀ (H' : Hp) (l : Addr) (ys : List V) (us : List (Int × Int)), (∀ b o, H b = some o → H' b = some o) → us.Perm zs → us.Pairwise (fun x y => SrtO.lexB y x = false) → PairsR K H' ys us → H' l = none → Q (.ref l) (upd H' l (.lst ys))
theorem pairsR_ix {K : Fg} {H : Hp} : ∀ (as : List Addr) (zs : List (Int × Int)), as.length = zs.length → (∀ (j : Nat) (a : Addr) (z : Int × Int), as[j]? = some a → zs[j]? = some z → SqT K H a [.int z.1, .int z.2]) → PairsR K H (as.map V.ref) zs
  | [], [], _, _ => trivial
  | [], _ :: _, h, _ => by simp at h
  | _ :: _, [], h, _ => by simp at h
  | a :: as, z :: zs, h, q => ⟨⟨a, rfl, q 0 a z rfl rfl⟩, pairsR_ix as zs (Nat.succ.inj h) fun j b y e1 e2 => q (j + 1) b y e1 e2⟩
theorem vals_rf : ∀ as : List Addr, Vals (as.map V.ref) (as.map Value.ref)
  | [] => .nil
  | _ :: as => .cons rfl (vals_rf as)
theorem paired_at {α β : Type} {F : α → β → Prop} : ∀ {xs : List α} {ys : List β}, Paired F xs ys → ∀ {i : Nat} {x : β}, ys[i]? = some x → ∃ y, xs[i]? = some y ∧ F y x
  | _, _, .nil, i, x, h => by cases h
  | _, _, .cons r t, 0, x, h => by
    have e := Option.some.inj h
    subst e
    exact ⟨_, rfl, r⟩
  | _, _, .cons r t, i + 1, x, h => paired_at t h
theorem cr_sortIK {X : Cx} (hc : X.calm = true) : CallR X (.builtin "sorted") (rSIK X.K) := by
  intro pins s σ H xs us Q I r h
  obtain ⟨p, d, kvs, zs, rfl, hp, hd, hk, q⟩ := h
  obtain rfl := Vals.ref1 r
  have view : s.heap.IsItemsView p d := (show ObjOk X.prog X.w H s.heap p (DX.itemsO p d) from I.hok p _ hp).1
  obtain ⟨hz, hs0, vs, kv, hdo⟩ := dk_rd I.hok hd
  obtain ⟨ep, hat⟩ := hdo.dictAt
  have lk : kvs.length = vs.length := Paired.length kv
  have lz : kvs.length = zs.length := by rw [hk, List.length_map]
  have hh : X.A.handled = none := I.ok.hd hc
  refine PySem.Calls.call_function_entry kind_sorted plain_sorted entry_sorted (args_sorted1 _) ?_
  unfold Builtin.«sorted»
  refine wpAny_bind (m := checkCount "sorted" 1 1 _) (wpAny_pure ?_)
  refine wpAny_bind (PySem.W.kdx_collect (A := X.A.in1) (knd := mixKind X.prog X.w) (kvs := vs) (ep := ep) hh view hat (by omega) fun h' tk as hk' hl hG => ?_)
  refine wpAny_bind (wpAny_newList ?_ (by rw [List.length_map, hl]; omega))
  have I1 : Inv X pins σ H { s with heap := h', toks := tk } := I.kept (t' := tk) hk'
  have nd : as.Nodup := List.Pairwise.imp (fun {a b} (h : a < b) => Nat.ne_of_lt h) hG.rise
  have pr : ∀ (j : Nat) (a : Addr), as[j]? = some a → ∃ (z : Int × Int) (t u : Nat), zs[j]? = some z ∧ h'.get? a = some { cls := .type "tuple", data := .seq #[.int z.1 t, .int z.2 u] } := by
    intro j a hj
    obtain ⟨key, k, x, e1, e2, e3⟩ := hG.pairs j a hj
    obtain ⟨y, f1, f2, f3⟩ := paired_at kv e1
    rw [hk, List.getElem?_map] at f1
    obtain ⟨z, g1, g2⟩ := Option.map_eq_some_iff.mp f1
    subst g2
    have rk : RelV (kV (Sum.inl z.1)) key := by
      rw [show (Sum.inl z.1 : Key) = k from f2]
      exact relV_key (show keyIs k key = true from e2)
    obtain ⟨t, rfl⟩ := rk
    obtain ⟨u, rfl⟩ := f3
    exact ⟨z, t, u, g1, e3⟩
  obtain ⟨H2, I3, gr, qt⟩ := DX.takeT (tk := tk) (P := fun a vs => ∃ (j : Nat) (z : Int × Int), as[j]? = some a ∧ zs[j]? = some z ∧ vs = [.int z.1, .int z.2]) I as H I1 nd fun a ha => by
    obtain ⟨j, hj⟩ := List.mem_iff_getElem?.mp ha
    obtain ⟨z, t, u, e1, e2⟩ := pr j a hj
    have hb : s.heap.objs.size ≤ a := Nat.le_of_lt (hG.above a ha)
    exact ⟨hb, I.hok.fresh hb, [.int z.1, .int z.2], ⟨j, z, hj, e1, rfl⟩, fun H3 => ⟨(by rw [sizeLine_eq]; show 2 ≤ 16777216; omega), [.int z.1 t, .int z.2 u], .cons ⟨t, rfl⟩ (.cons ⟨u, rfl⟩ .nil), ⟨_, e2, rfl, _, rfl⟩⟩⟩
  have hPR : PairsR X.K H2 (as.map V.ref) zs := pairsR_ix as zs (by omega) fun j a z e1 e2 => by
    obtain ⟨ws, ⟨i, z', e3, e4, rfl⟩, e6⟩ := qt a (List.mem_of_getElem? e1)
    have hij : i = j := (List.getElem?_inj (List.getElem?_eq_some_iff.mp e3).1 nd).mp (e3.trans e1.symm)
    subst hij
    rw [e2] at e4
    cases e4
    exact SqT.of e6
  have hob : (h'.push { cls := .type "list", data := .seq (as.map Value.ref).toArray }).get? h'.objs.size = some (seqObj "list" (as.map Value.ref).toArray 0) := Heap.get?_push_size _ rfl
  have I4 : Inv X pins σ H2 { s with heap := h'.push { cls := .type "list", data := .seq (as.map Value.ref).toArray }, toks := tk } := I3.kept (t' := tk) fun b u e => Heap.get?_push_of_some _ e
  have ka : ∀ b o, h'.get? b = some o → (h'.push { cls := .type "list", data := .seq (as.map Value.ref).toArray }).get? b = some o := fun b o e => Heap.get?_push_of_some _ e
  obtain ⟨k1, k2⟩ := pairsR_vals I4 _ _ _ hPR (vals_rf as)
  generalize hh2 : h'.push { cls := .type "list", data := .seq (as.map Value.ref).toArray } = h2 at hob I4 k1 k2 ka ⊢
  have hg : wpAny (model X.prog X.w) X.A.in1 (call (.builtin "list.sort") [.ref h'.objs.size]) (fun _ s' => EP X pins σ Q (.ref h'.objs.size) s') X.xe { s with heap := h2, toks := tk } := by
    refine wpAny_call_entry PyProof.Rows.slot_list_sort ⟨_, hob, rfl⟩ PyProof.Rows.entry_list_sort
      (SrtO.list_sort_ord (s := { s with heap := h2, toks := tk }) (SrtO.swo_lex (pairAt h2)) hob (by rw [List.length_map]; omega) (fun h3 => SrtO.pairs_sortableO (k := pairAt h2) (by omega) (fun v hv => (k2 v hv).1) fun o e => ?_) fun out h1 h2' => ⟨.none, rfl, ?_⟩) (PyProof.Rows.args_list_sort _)
    · have e' : some o = some (seqObj "list" (as.map Value.ref).toArray 0) := e.symm.trans hob
      cases e'
      intro c
      exact absurd (Value.type.inj c) (by decide)
    · obtain ⟨b1, b2⟩ := pairsR_back (K := X.K) (H := H2) (k := pairAt h2) (us := out) fun v hv => (k2 v (h2'.perm.mem_iff.mp hv)).2
      obtain ⟨eF, heF⟩ := PyProof.Rows.sortedHeap_at (vs := as.map Value.ref) (out := out.toArray) hob
      refine ⟨.ref h'.objs.size, upd H2 h'.objs.size (.lst (out.map backV)), I3.laid (a := h'.objs.size) (t' := tk) (h' := sortedHeap h2 h'.objs.size (as.map Value.ref) out.toArray) (fun b u e => ?_) (Nat.le_refl _) ⟨?_, out, eF, b2, heF⟩, rfl, q H2 _ _ (out.map (pairAt h2)) gr (by rw [← k1]; exact h2'.perm.map _) ?_ b1 (I3.hok.fresh (Nat.le_refl _))⟩
      · exact (PyProof.Rows.sortedHeap_old (Nat.ne_of_lt (Heap.lt_size e)) (Heap.lt_size (ka _ _ e))).trans (ka _ _ e)
      · have := h2'.perm.length_eq
        rw [List.length_map] at this ⊢
        omega
      · rw [List.pairwise_map]; exact h1
  exact wpAny_bind (wpAny_holding (wpAny_mono hg (fun _ s' x => wpAny_pure ⟨_, rfl, x⟩) fun _ _ e => e))
def rSortIt (K : Fg) : V → Hp → VK → Prop := fun x H Q => ∃ (d : Addr) (kvs : List (Key × V)) (zs : List (Int × Int)), x = .ref d ∧ Rd H d (.dK kvs) ∧ kvs = zs.map (fun z => (Sum.inl z.1, V.int z.2)) ∧
  ∀ (H' : Hp) (l : Addr) (ys : List V) (us : List (Int × Int)), (∀ b o, H b = some o → H' b = some o) → us.Perm zs → us.Pairwise (fun x y => SrtO.lexB y x = false) → PairsR K H' ys us → H' l = none → Q (.ref l) (upd H' l (.lst ys))
theorem items_of {m : Nat → Addr} {n : Nat} : ∀ {kvs : List (Key × PV)} {kvs' : List (Key × V)} {zs : List (Int × Int)}, kvs'.map (·.1) = kvs.map (·.1) → VsRel K m n H (kvs.map (·.2)) (kvs'.map (·.2)) → pairsOf (itemsD kvs) = some zs → kvs' = zs.map (fun z => (Sum.inl z.1, V.int z.2))
  | [], kvs', zs, h1, h2, h3 => by
    have : zs = [] := by simpa [itemsD, pairsOf] using h3.symm
    subst this
    simpa using h1
  | (k, v) :: kvs, kvs', zs, h1, h2, h3 => by
    cases kvs' with
    | nil => simp at h1
    | cons kv' r' =>
      obtain ⟨k', v'⟩ := kv'
      simp only [List.map_cons, List.cons.injEq] at h1
      obtain ⟨h1a, h1b⟩ := h1
      simp only [List.map_cons, VsRel] at h2
      obtain ⟨w, r, e, hv, hr⟩ := h2
      obtain ⟨rfl, rfl⟩ := List.cons.inj e
      have h1a : k' = k := h1a
      subst h1a
      cases k' with
      | inr t => simp [itemsD, pairsOf, ofKey] at h3
      | inl i =>
        cases v with
        | int j =>
          simp only [itemsD, List.map_cons, ofKey, pairsOf, Option.map_eq_some_iff] at h3
          obtain ⟨zs', e2, rfl⟩ := h3
          have hv := vr_int hv
          have hv : v' = V.int j := hv
          subst hv
          rw [items_of h1b hr e2]
          rfl
        | non => simp [itemsD, pairsOf, ofKey] at h3
        | bl _ => simp [itemsD, pairsOf, ofKey] at h3
        | str _ => simp [itemsD, pairsOf, ofKey] at h3
        | tup _ => simp [itemsD, pairsOf, ofKey] at h3
        | ref _ => simp [itemsD, pairsOf, ofKey] at h3
theorem fin_lstG {ps : List PV} {vs : List V} {q : Addr} (h : OkP K m s σ H T Q (.tmp (.lst ps)) s) (r : Rel K m s σ H) (g : ∀ a o, H a = some o → H' a = some o) (hv : VsRel K m s.h.length H' ps vs) (hq : H' q = none) : Q (.ref q) (upd H' q (.lst vs)) := by
  have g2 : ∀ a o, H a = some o → upd H' q (.lst vs) a = some o := fun a o e => upd_grow hq a o (g a o e)
  have hn : H q = none := by
    cases e : H q with
    | none => rfl
    | some o => rw [g q o e] at hq; cases hq
  exact h m _ _ (r.grow g2) (Ext.grow g2) ⟨q, rfl, ⟨vs, upd_same, hv.mono (fun _ _ => rfl) (Nat.le_refl _) (sqT_grow (upd_grow hq))⟩, fun z => by
    obtain ⟨o, ho, _⟩ := r.okind z
    rw [hn] at ho; cases ho⟩ fun c a _ e => by cases e; exact hn
theorem prs_sortIt : PrS K .sortIt (fun vs H Q => ∃ x, vs = [x] ∧ rSortIt K x H Q) := by
  intro m s σ H es vs Q X r0 e0 w
  obtain ⟨a, rfl, w⟩ := one (f := sortItF) (fun _ => rfl) rfl (fun _ _ _ => rfl) _ _ _ _ w
  obtain ⟨x, rfl, h1⟩ := evs1 e0
  unfold wp sortItF at w
  cases q : coOf s a with
  | none => rw [q] at w; exact (show False from w).elim
  | some c =>
    rw [q] at w
    cases c with
    | lst _ => exact (show False from w).elim
    | dct kvs =>
      obtain ⟨p, kvs', rfl, e1, e2, e3⟩ := coOf_rel r0 h1 q
      obtain ⟨zs, e4, w⟩ := wp_opt.mp (wp_bnd.mp (show wp (M.bnd (M.opt (pairsOf (itemsD kvs))) (fun zs => newL ((sortP zs).map mkP))) s _ X from w))
      obtain ⟨_, w⟩ := wp_newL w
      refine ⟨_, rfl, p, kvs', zs, rfl, e1, items_of e2 e3 e4, fun H' l ys us g hp hs hr hn => ?_⟩
      obtain rfl := sortP_only hp hs
      exact fin_lstG w r0 g (VsRel.ofPairs hr) hn
end
end DV
namespace DV
open PySem PySem.Spec PyProof.Rows L2
section
variable {K : Fg} {F : FE} {W : WX} {m m' : Nat → Addr} {s s' : DS} {σ σ' : SSt} {H H' : Hp} {T : Addr → Prop} {Q : VK} {X : EX → DS → Prop}
theorem mapM_cons_some {α β : Type} {f : α → Option β} {x : α} {xs : List α} {ys : List β} (h : (x :: xs).mapM f = some ys) : ∃ y r, f x = some y ∧ xs.mapM f = some r ∧ ys = y :: r := by
  rw [List.mapM_cons] at h
  cases e : f x with
  | none => rw [e] at h; cases h
  | some y =>
    rw [e] at h
    cases e2 : xs.mapM f with
    | none => rw [e2] at h; cases h
    | some r => rw [e2] at h; cases h; exact ⟨y, r, rfl, rfl, rfl⟩
theorem dat_all {f : PV → Option PyData} {n : Nat} (hf : ∀ p v d, f p = some d → VRel K m n H p v → Dp K H v d) : ∀ {ps : List PV} {vs : List V} {ds : List PyData}, ps.mapM f = some ds → VsRel K m n H ps vs → DpAll K H vs ds
  | [], _, _, h, hs => by
    simp only [VsRel] at hs
    subst hs
    rw [List.mapM_nil] at h
    cases h
    exact .nil
  | p :: ps, _, _, h, hs => by
    obtain ⟨y, r, h1, h2, rfl⟩ := mapM_cons_some h
    simp only [VsRel] at hs
    obtain ⟨v, t, rfl, q1, q2⟩ := hs
    exact .cons (hf _ _ _ h1 q1) (dat_all hf h2 q2)
theorem datF_rel (r0 : Rel K m s σ H) : ∀ (k : Nat) (p : PV) (v : V) (d : PyData) (n : Nat), datF s.h k p = some d → VRel K m n H p v → n ≤ s.h.length → Dp K H v d
  | 0, _, _, _, _, h, _, _ => by cases h
  | k + 1, .non, _, _, _, h, q, _ => by cases h; rw [vr_non q]; exact .non
  | k + 1, .bl b, _, _, _, h, q, _ => by cases h; rw [vr_bl q]; exact .bl b
  | k + 1, .int b, _, _, _, h, q, _ => by cases h; rw [vr_int q]; exact .int b
  | k + 1, .str b, _, _, _, h, q, _ => by cases h; rw [vr_str q]; exact .str b
  | k + 1, .tup xs, _, _, n, h, q, hn => by
    simp only [datF, Option.map_eq_some_iff] at h
    obtain ⟨ds, h1, rfl⟩ := h
    obtain ⟨a, vs, rfl, e1, e2⟩ := vr_tup q
    exact .tup e1 (dat_all (fun p v d e f => datF_rel r0 k p v d n e f hn) h1 e2)
  | k + 1, .ref j, _, _, n, h, q, hn => by
    simp only [datF] at h
    simp only [VRel] at q
    obtain ⟨hj, rfl⟩ := q
    cases e : s.h[j]? with
    | none => rw [e] at h; cases h
    | some o =>
      rw [e] at h
      have z := heap_rd r0 e
      simp only [Option.map_some] at h
      cases e2 : o.co with
      | dct _ => rw [e2] at h; cases h
      | lst xs =>
        rw [e2] at h z
        simp only [Option.map_eq_some_iff] at h
        obtain ⟨ds, h1, rfl⟩ := h
        obtain ⟨a, vs, e3, e4, e5⟩ := z
        cases e3
        exact .lst e4 (dat_all (fun p v d e f => datF_rel r0 k p v d _ e f (Nat.le_refl _)) h1 e5)
theorem datOf_rel {a : EV} {x : V} {d : PyData} (r0 : Rel K m s σ H) (h1 : EVRel K m s σ H a x) (q : datOf s a = some d) : Dp K H x d := by
  unfold datOf at q
  cases e : pvOf s a with
  | some p =>
    rw [e] at q
    exact datF_rel r0 _ p x d _ q (pvOf_rel r0 h1 e) (Nat.le_refl _)
  | none =>
    rw [e] at q
    cases e2 : coOf s a with
    | none => rw [e2] at q; cases q
    | some c =>
      rw [e2] at q
      have z := coOf_rel r0 h1 e2
      cases c with
      | dct _ => cases q
      | lst xs =>
        simp only [datCO, Option.map_eq_some_iff] at q
        obtain ⟨ds, h2, rfl⟩ := q
        obtain ⟨p, vs, rfl, e3, e4⟩ := z
        exact .lst e3 (dat_all (fun p v d e f => datF_rel r0 _ p v d _ e f (Nat.le_refl _)) h2 e4)
theorem dat2 {a b : EV} {f : PyData → PyData → M EV} {RR : EV → DS → Prop} (h : wp (fun s => match datOf s a, datOf s b with | some d, some e => f d e s | _, _ => R.no) s RR X) : ∃ d e, datOf s a = some d ∧ datOf s b = some e ∧ wp (f d e) s RR X := by
  cases q : datOf s a with
  | none => exact (show False from wp_eq (d := M.no) h (by simp only [q])).elim
  | some d =>
    cases q2 : datOf s b with
    | none => exact (show False from wp_eq (d := M.no) h (by simp only [q, q2])).elim
    | some e => exact ⟨d, e, rfl, rfl, wp_eq h (by simp only [q, q2])⟩
theorem prs_eq : PrS K .eq (b2 (rEqD K)) := by
  intro m s σ H es vs Q X r0 e0 w
  obtain ⟨a, b, rfl, w⟩ := two (f := eqF) (fun _ _ => rfl) rfl (fun _ => rfl) (fun _ _ _ _ => rfl) _ _ _ _ w
  obtain ⟨x, y, rfl, h1, h2⟩ := evs2 e0
  obtain ⟨d, e, q1, q2, w⟩ := dat2 (f := fun d e => M.bnd (M.chk (SeqAt.shaped d && SeqAt.shaped e)) (fun _ => vbl (PyData.eqv d e))) w
  obtain ⟨hz, w⟩ := wp_chk.mp (wp_bnd.mp w)
  rw [Bool.and_eq_true] at hz
  exact ⟨x, y, rfl, d, e, datOf_rel r0 h1 q1, datOf_rel r0 h2 q2, hz.1, hz.2, fin_pv w r0 vb⟩
theorem prs_ne : PrS K .ne (b2 (rNeD K)) := by
  intro m s σ H es vs Q X r0 e0 w
  obtain ⟨a, b, rfl, w⟩ := two (f := neF) (fun _ _ => rfl) rfl (fun _ => rfl) (fun _ _ _ _ => rfl) _ _ _ _ w
  obtain ⟨x, y, rfl, h1, h2⟩ := evs2 e0
  obtain ⟨d, e, q1, q2, w⟩ := dat2 (f := fun d e => M.bnd (M.chk (SeqAt.shaped d && SeqAt.shaped e)) (fun _ => vbl (!PyData.eqv d e))) w
  obtain ⟨hz, w⟩ := wp_chk.mp (wp_bnd.mp w)
  rw [Bool.and_eq_true] at hz
  exact ⟨x, y, rfl, d, e, datOf_rel r0 h1 q1, datOf_rel r0 h2 q2, hz.1, hz.2, fin_pv w r0 vb⟩
def rRepr (K : Fg) : List V → Hp → VK → Prop := fun xs H Q => ∃ v d, xs = [v] ∧ Dp K H v d ∧ d.showable = true ∧ d.hasDict = false ∧ d.shown.length ≤ sizeLine ∧ d.depth ≤ 64 ∧ Q (.str d.shown) H
theorem call_reprD {Y : Cx} (hg : Y.A.guards = some []) (hu : Y.A.units + 66 < cLine) : CallR Y (.builtin "repr") (rRepr Y.K) := by
  intro pins s σ H xs us Q I rx h
  obtain ⟨v, d, rfl, hd, hs, hn, hz, hdp, q⟩ := h
  obtain ⟨u, rfl, ru⟩ := vals1 rx
  obtain ⟨as, rd⟩ := Dp.reads I d v u hd ru
  cases hd with
  | non => cases ru; exact P.repr_of_none ⟨.str (PyData.shown .none), H, I.tok _, ⟨s.toks, by simp only [PyData.shown]⟩, q⟩
  | bl b => cases ru; exact P.repr_of_bool ⟨.str (PyData.shown (.bool b)), H, I.tok _, ⟨s.toks, by cases b <;> simp [PyData.shown]⟩, q⟩
  | int i => obtain ⟨t, rfl⟩ := ru; exact P.repr_of_int (by simpa [PyData.showable] using hs) ⟨.str (PyData.shown (.int i)), H, I.tok _, ⟨s.toks, by simp only [PyData.shown]⟩, q⟩
  | str i => obtain ⟨t, rfl⟩ := ru; exact P.repr_of_str ⟨.str (PyData.shown (.str i)), H, I.tok _, ⟨s.toks, by simp only [PyData.shown]⟩, q⟩ (by simpa only [PyData.shown] using hz)
  | lst h1 h2 =>
    cases ru
    exact repr_of_reads' rd hs (fun e => by rw [hn] at e; cases e) hg (by omega) (fun _ _ e => e) (fun h' u tk hk => ⟨.str (PyData.shown _), H, I.kept hk, ⟨u, rfl⟩, q⟩) hz
  | tup h1 h2 =>
    cases ru
    exact repr_of_reads' rd hs (fun e => by rw [hn] at e; cases e) hg (by omega) (fun _ _ e => e) (fun h' u tk hk => ⟨.str (PyData.shown _), H, I.kept hk, ⟨u, rfl⟩, q⟩) hz
theorem prs_repr : PrS K .repr (rRepr K) := by
  intro m s σ H es vs Q X r0 e0 w
  obtain ⟨a, rfl, w⟩ := one (f := reprF) (fun _ => rfl) rfl (fun _ _ _ => rfl) _ _ _ _ w
  obtain ⟨x, rfl, h1⟩ := evs1 e0
  unfold wp reprF at w
  cases q : datOf s a with
  | none => rw [q] at w; exact (show False from w).elim
  | some d =>
    rw [q] at w
    obtain ⟨hz, w2⟩ := wp_chk.mp (wp_bnd.mp (show wp (M.bnd (M.chk (d.showable && !d.hasDict && decide (d.shown.length ≤ sizeLine) && decide (d.depth ≤ 64))) (fun _ => val (.str d.shown))) s (OkP K m s σ H (TmpAt [a] [x]) Q) X from w))
    simp only [Bool.and_eq_true, decide_eq_true_eq, Bool.not_eq_true'] at hz
    exact ⟨x, d, rfl, datOf_rel r0 h1 q, hz.1.1.1, hz.1.1.2, hz.1.2, hz.2, fin_pv w2 r0 vstr⟩
theorem keyOf_rel {p : PV} {v : V} {n : Nat} {k : Key} (h : VRel K m n H p v) (q : keyOf p = some k) : v = kV k := by
  cases p with
  | int i => cases q; rw [vr_int h]; rfl
  | str i => cases q; rw [vr_str h]; rfl
  | _ => cases q
def KR (K : Fg) (m : Nat → Addr) (n : Nat) (H : Hp) : List (Key × PV) → List (Key × V) → Prop
  | [], ys => ys = []
  | (k, p) :: r, ys => ∃ v t, ys = (k, v) :: t ∧ VRel K m n H p v ∧ KR K m n H r t
theorem KR.of {n : Nat} : ∀ {xs : List (Key × PV)} {ys : List (Key × V)}, ys.map (·.1) = xs.map (·.1) → VsRel K m n H (xs.map (·.2)) (ys.map (·.2)) → KR K m n H xs ys
  | [], ys, h, _ => by
    cases ys with
    | nil => rfl
    | cons a b => cases h
  | (k, p) :: r, ys, h, h2 => by
    cases ys with
    | nil => cases h
    | cons a b =>
      obtain ⟨k', v⟩ := a
      simp only [List.map_cons, List.cons.injEq] at h
      simp only [List.map_cons, VsRel] at h2
      obtain ⟨v', t, e, q1, q2⟩ := h2
      simp only [List.cons.injEq] at e
      obtain ⟨rfl, rfl⟩ := e
      obtain ⟨rfl, h⟩ := h
      exact ⟨v, b, rfl, q1, KR.of h q2⟩
theorem KR.to {n : Nat} : ∀ {xs : List (Key × PV)} {ys : List (Key × V)}, KR K m n H xs ys → ys.map (·.1) = xs.map (·.1) ∧ VsRel K m n H (xs.map (·.2)) (ys.map (·.2))
  | [], ys, h => by cases h; exact ⟨rfl, by simp only [List.map_nil, VsRel]⟩
  | (k, p) :: r, ys, h => by
    obtain ⟨v, t, rfl, q1, q2⟩ := h
    obtain ⟨h1, h2⟩ := KR.to q2
    refine ⟨by simp only [List.map_cons, h1], ?_⟩
    simp only [List.map_cons, VsRel]
    exact ⟨v, _, rfl, q1, h2⟩
theorem KR.look {n : Nat} {k : Key} : ∀ {xs : List (Key × PV)} {ys : List (Key × V)}, KR K m n H xs ys → (DV.look xs k = none ∧ valV ys k = none) ∨ ∃ p v, DV.look xs k = some p ∧ valV ys k = some v ∧ VRel K m n H p v
  | [], ys, h => by cases h; exact .inl ⟨rfl, rfl⟩
  | (j, p) :: r, ys, h => by
    obtain ⟨v, t, rfl, q1, q2⟩ := h
    by_cases e : j = k
    · refine .inr ⟨p, v, ?_, ?_, q1⟩
      · simp [DV.look, List.find?_cons, e]
      · exact valV_pos e
    · rw [valV_neg e]
      have : DV.look ((j, p) :: r) k = DV.look r k := by simp [DV.look, List.find?_cons, e]
      rw [this]
      exact KR.look q2
theorem KR.any {n : Nat} {k : Key} : ∀ {xs : List (Key × PV)} {ys : List (Key × V)}, KR K m n H xs ys → (xs.any fun kv => decide (kv.1 = k)) = ys.any fun kv => decide (kv.1 = k)
  | [], ys, h => by cases h; rfl
  | (j, p) :: r, ys, h => by
    obtain ⟨v, t, rfl, q1, q2⟩ := h
    rw [List.any_cons, List.any_cons, KR.any q2]
theorem KR.repl {n : Nat} {k : Key} {p' : PV} {v' : V} (hv : VRel K m n H p' v') : ∀ {xs : List (Key × PV)} {ys : List (Key × V)}, KR K m n H xs ys → KR K m n H (xs.map fun kv => if kv.1 = k then (kv.1, p') else kv) (ys.map fun kv => if kv.1 = k then (kv.1, v') else kv)
  | [], ys, h => by cases h; rfl
  | (j, p) :: r, ys, h => by
    obtain ⟨v, t, rfl, q1, q2⟩ := h
    simp only [List.map_cons]
    by_cases e : j = k
    · simp only [e, if_true]
      exact ⟨v', _, rfl, hv, KR.repl hv q2⟩
    · simp only [e, if_false]
      exact ⟨v, _, rfl, q1, KR.repl hv q2⟩
theorem KR.snoc {n : Nat} {k : Key} {p' : PV} {v' : V} (hv : VRel K m n H p' v') : ∀ {xs : List (Key × PV)} {ys : List (Key × V)}, KR K m n H xs ys → KR K m n H (xs ++ [(k, p')]) (ys ++ [(k, v')])
  | [], ys, h => by cases h; exact ⟨v', [], rfl, hv, rfl⟩
  | (j, p) :: r, ys, h => by
    obtain ⟨v, t, rfl, q1, q2⟩ := h
    exact ⟨v, _, rfl, q1, KR.snoc hv q2⟩
theorem KR.put {n : Nat} {k : Key} {p' : PV} {v' : V} (hv : VRel K m n H p' v') {xs : List (Key × PV)} {ys : List (Key × V)} (h : KR K m n H xs ys) : KR K m n H (DV.put xs k p') (putK ys k v') := by
  unfold DV.put putK
  rw [KR.any (k := k) h]
  split
  · exact h.repl hv
  · exact h.snoc hv
theorem KR.length {n : Nat} : ∀ {xs : List (Key × PV)} {ys : List (Key × V)}, KR K m n H xs ys → ys.length = xs.length
  | [], ys, h => by cases h; rfl
  | (j, p) :: r, ys, h => by
    obtain ⟨v, t, rfl, q1, q2⟩ := h
    simp only [List.length_cons, KR.length q2]
theorem key_dct {a b : EV} {f : Key → List (Key × PV) → M EV} {RR : EV → DS → Prop} (h : wp (fun s => match (pvOf s a).bind keyOf, coOf s b with | some k, some (.dct kvs) => f k kvs s | _, _ => R.no) s RR X) :
    ∃ p k kvs, pvOf s a = some p ∧ keyOf p = some k ∧ coOf s b = some (.dct kvs) ∧ wp (f k kvs) s RR X := by
  cases q : pvOf s a with
  | none => exact (show False from wp_eq (d := M.no) h (by simp only [q, Option.bind_none])).elim
  | some p =>
    cases q1 : keyOf p with
    | none => exact (show False from wp_eq (d := M.no) h (by simp only [q, Option.bind_some, q1])).elim
    | some k =>
      cases q2 : coOf s b with
      | none => exact (show False from wp_eq (d := M.no) h (by simp only [q, Option.bind_some, q1, q2])).elim
      | some c =>
        cases c with
        | lst _ => exact (show False from wp_eq (d := M.no) h (by simp only [q, Option.bind_some, q1, q2])).elim
        | dct kvs => exact ⟨p, k, kvs, rfl, q1, rfl, wp_eq h (by simp only [q, Option.bind_some, q1, q2])⟩
theorem dct_key {a b : EV} {f : List (Key × PV) → Key → M EV} {RR : EV → DS → Prop} (h : wp (fun s => match coOf s a, (pvOf s b).bind keyOf with | some (.dct kvs), some k => f kvs k s | _, _ => R.no) s RR X) :
    ∃ p k kvs, pvOf s b = some p ∧ keyOf p = some k ∧ coOf s a = some (.dct kvs) ∧ wp (f kvs k) s RR X := by
  cases q2 : coOf s a with
  | none => exact (show False from wp_eq (d := M.no) h (by simp only [q2])).elim
  | some c =>
    cases c with
    | lst _ => exact (show False from wp_eq (d := M.no) h (by simp only [q2])).elim
    | dct kvs =>
      cases q : pvOf s b with
      | none => exact (show False from wp_eq (d := M.no) h (by simp only [q, q2, Option.bind_none])).elim
      | some p =>
        cases q1 : keyOf p with
        | none => exact (show False from wp_eq (d := M.no) h (by simp only [q, q2, Option.bind_some, q1])).elim
        | some k => exact ⟨p, k, kvs, rfl, q1, rfl, wp_eq h (by simp only [q, Option.bind_some, q1, q2])⟩
abbrev rDIn (f : Bool → Bool) : List V → Hp → VK → Prop := fun vs H Q => ∃ y x, vs = [y, x] ∧ ∃ a o, x = .ref a ∧ DGet H a y o ∧ Q (.bl (f o.isSome)) H
theorem prs_innD : PrS K .innD (rDIn id) := by
  intro m s σ H es vs Q X r0 e0 w
  obtain ⟨a, b, rfl, w⟩ := two (f := innDF) (fun _ _ => rfl) rfl (fun _ => rfl) (fun _ _ _ _ => rfl) _ _ _ _ w
  obtain ⟨y, x, rfl, h1, h2⟩ := evs2 e0
  obtain ⟨p, k, kvs, q1, q2, q3, w⟩ := key_dct (f := fun k kvs s => .ok (.pv (.bl (look kvs k).isSome)) s) w
  obtain ⟨l, kvs', rfl, e1, e2, e3⟩ := coOf_rel r0 h2 q3
  have hk := keyOf_rel (pvOf_rel r0 h1 q1) q2
  refine ⟨y, _, rfl, l, valV kvs' k, rfl, .inl ⟨kvs', k, e1, hk, rfl⟩, ?_⟩
  have e : (valV kvs' k).isSome = (look kvs k).isSome := by
    rcases (KR.of e2 e3).look (k := k) with ⟨z1, z2⟩ | ⟨_, _, z1, z2, _⟩ <;> rw [z1, z2] <;> rfl
  rw [e]
  exact fin_pv w r0 vb
theorem prs_notinD : PrS K .notinD (rDIn not) := by
  intro m s σ H es vs Q X r0 e0 w
  obtain ⟨a, b, rfl, w⟩ := two (f := notinDF) (fun _ _ => rfl) rfl (fun _ => rfl) (fun _ _ _ _ => rfl) _ _ _ _ w
  obtain ⟨y, x, rfl, h1, h2⟩ := evs2 e0
  obtain ⟨p, k, kvs, q1, q2, q3, w⟩ := key_dct (f := fun k kvs s => .ok (.pv (.bl (!(look kvs k).isSome))) s) w
  obtain ⟨l, kvs', rfl, e1, e2, e3⟩ := coOf_rel r0 h2 q3
  have hk := keyOf_rel (pvOf_rel r0 h1 q1) q2
  refine ⟨y, _, rfl, l, valV kvs' k, rfl, .inl ⟨kvs', k, e1, hk, rfl⟩, ?_⟩
  have e : (valV kvs' k).isSome = (look kvs k).isSome := by
    rcases (KR.of e2 e3).look (k := k) with ⟨z1, z2⟩ | ⟨_, _, z1, z2, _⟩ <;> rw [z1, z2] <;> rfl
  rw [e]
  exact fin_pv w r0 vb
theorem prs_idxD : PrS K .idxD (fun vs H Q => ∃ x y, vs = [x, y] ∧ ∃ a v, x = .ref a ∧ DGet H a y (some v) ∧ Q v H) := by
  intro m s σ H es vs Q X r0 e0 w
  obtain ⟨a, b, rfl, w⟩ := two (f := idxDF) (fun _ _ => rfl) rfl (fun _ => rfl) (fun _ _ _ _ => rfl) _ _ _ _ w
  obtain ⟨x, y, rfl, h1, h2⟩ := evs2 e0
  obtain ⟨p, k, kvs, q1, q2, q3, w⟩ := dct_key (f := fun kvs k => M.bnd (M.opt (look kvs k)) (fun v => val v)) w
  obtain ⟨u, q4, w⟩ := wp_opt.mp (wp_bnd.mp w)
  obtain ⟨l, kvs', rfl, e1, e2, e3⟩ := coOf_rel r0 h1 q3
  have hk := keyOf_rel (pvOf_rel r0 h2 q1) q2
  rcases (KR.of e2 e3).look (k := k) with ⟨z1, z2⟩ | ⟨p', v', z1, z2, z3⟩
  · rw [q4] at z1; cases z1
  · rw [q4] at z1; cases z1
    exact ⟨_, y, rfl, l, v', rfl, .inl ⟨kvs', k, e1, hk, z2.symm⟩, fin_pv w r0 z3⟩
theorem getD_rel {n : Nat} {k : Key} {d : PV} {x : V} {kvs : List (Key × PV)} {kvs' : List (Key × V)} (h : KR K m n H kvs kvs') (hd : VRel K m n H d x) : VRel K m n H ((look kvs k).getD d) ((valV kvs' k).getD x) := by
  rcases h.look (k := k) with ⟨z1, z2⟩ | ⟨_, _, z1, z2, z3⟩ <;> rw [z1, z2]
  · exact hd
  · exact z3
theorem prs_get1 : PrS K .get1 (fun vs H Q => ∃ x y, vs = [x, y] ∧ ∃ a o, x = .ref a ∧ DGet H a y o ∧ Q (o.getD .non) H) := by
  intro m s σ H es vs Q X r0 e0 w
  obtain ⟨a, b, rfl, w⟩ := two (f := get1F) (fun _ _ => rfl) rfl (fun _ => rfl) (fun _ _ _ _ => rfl) _ _ _ _ w
  obtain ⟨x, y, rfl, h1, h2⟩ := evs2 e0
  obtain ⟨p, k, kvs, q1, q2, q3, w⟩ := dct_key (f := fun kvs k s => .ok (.pv ((look kvs k).getD .non)) s) w
  obtain ⟨l, kvs', rfl, e1, e2, e3⟩ := coOf_rel r0 h1 q3
  have hk := keyOf_rel (pvOf_rel r0 h2 q1) q2
  exact ⟨_, y, rfl, l, _, rfl, .inl ⟨kvs', k, e1, hk, rfl⟩, fin_pv w r0 (getD_rel (KR.of e2 e3) vnon)⟩
theorem prs_get2 : PrS K .get2 (fun vs H Q => ∃ x y z, vs = [x, y, z] ∧ ∃ a o, x = .ref a ∧ DGet H a y o ∧ Q (o.getD z) H) := by
  intro m s σ H es vs Q X r0 e0 w
  obtain ⟨a, b, c, rfl, w⟩ := three (f := get2F) (fun _ _ _ => rfl) rfl (fun _ => rfl) (fun _ _ => rfl) (fun _ _ _ _ _ => rfl) _ _ _ _ w
  obtain ⟨x, y, z, rfl, h1, h2, h3⟩ := evs3 e0
  obtain ⟨p, k, kvs, q1, q2, q3, w⟩ := dct_key (f := fun kvs k s => match look kvs k, pvOf s c with | some v, _ => .ok (.pv v) s | none, some v => .ok (.pv v) s | none, none => .no) w
  obtain ⟨l, kvs', rfl, e1, e2, e3⟩ := coOf_rel r0 h1 q3
  have hk := keyOf_rel (pvOf_rel r0 h2 q1) q2
  refine ⟨_, y, z, rfl, l, _, rfl, .inl ⟨kvs', k, e1, hk, rfl⟩, ?_⟩
  rcases (KR.of e2 e3).look (k := k) with ⟨z1, z2⟩ | ⟨p', v', z1, z2, z3⟩
  · rw [z2]
    cases q5 : pvOf s c with
    | none => exact (show False from wp_eq (d := M.no) w (by simp only [z1, q5])).elim
    | some p5 =>
      have w := wp_eq (d := val p5) w (by simp only [z1, q5])
      exact fin_pv w r0 (pvOf_rel r0 h3 q5)
  · rw [z2]
    have w := wp_eq (d := val p') w (by simp only [z1])
    exact fin_pv w r0 z3
theorem tmp_one {e : EV} {v : V} {a : Addr} : TmpAt [e] [v] a ↔ (∃ c, e = .tmp c) ∧ v = .ref a := by
  simp [TmpAt]
theorem box_ok {e : EV} {v : V} {p : PV} (r : Rel K m s σ H) (h : EVRel K m s σ H e v) (q : box e s = .ok p s') : ∃ m', Rel K m' s' σ H ∧ Ext (TmpAt [e] [v]) m s σ H m' s' σ H ∧ VRel K m' s'.h.length H p v := by
  cases e with
  | pv p' => cases q; exact ⟨m, r, Ext.toT Ext.refl, h⟩
  | tmp c =>
    obtain ⟨a, rfl, h1, no⟩ := h
    simp only [box, R.ok.injEq] at q
    obtain ⟨rfl, rfl⟩ := q
    obtain ⟨r', x'⟩ := alloc_ok (T := TmpAt [.tmp c] [.ref a]) (env' := s.env) r h1 (fun b => by
      rw [tmp_one]
      exact ⟨fun ⟨_, z⟩ => by cases z; rfl, fun z => by subst z; exact ⟨⟨c, rfl⟩, rfl⟩⟩) (.inl ⟨rfl, no⟩)
    refine ⟨_, r', x', ?_⟩
    simp only [VRel]
    exact ⟨by simp, by rw [ext1, if_pos rfl]⟩
  | bw i =>
    have hv : σ[i]? = some (some v) := h
    simp only [box] at q
    split at q
    · rename_i p' e1
      cases q
      obtain ⟨v', h1, h2⟩ := r.sl i _ e1
      rw [hv] at h1; cases h1
      exact ⟨m, r, Ext.toT Ext.refl, h2⟩
    · rename_i c e1
      cases q
      obtain ⟨v', h1, a, h2, h3⟩ := r.sl i _ e1
      rw [hv] at h1; cases h1; subst h2
      obtain ⟨r', x'⟩ := alloc_ok (T := fun b => b = a) (env' := s.env.set i (some (.pv (.ref s.h.length)))) r h3 (fun b => Iff.rfl) (.inr ⟨i, e1, hv, rfl⟩)
      refine ⟨_, r', ?_, ?_⟩
      · exact ⟨x'.len, x'.mm, fun b o e n _ => x'.fr b o e n (fun z => n (.inr ⟨i, ⟨c, .inl e1⟩, by rw [z]; exact hv⟩)), fun b hb => (x'.ow b hb).elim .inl fun z => z.elim (fun z => .inl (.inr ⟨i, ⟨c, .inl e1⟩, by rw [z]; exact hv⟩)) fun z => .inr (.inr z), x'.dom, x'.lks, x'.lkh, x'.fzh, x'.nfz⟩
      · simp only [VRel]
        exact ⟨by simp, by rw [ext1, if_pos rfl]⟩
    · cases q
theorem box_noex {e : EV} {x : EX} (q : box e s = .ex x s') : False := by
  cases e with
  | pv p' => cases q
  | tmp c => cases q
  | bw i =>
    simp only [box] at q
    split at q <;> cases q
theorem wp_box {e : EV} {RR : PV → DS → Prop} (w : wp (box e) s RR X) : ∃ p s1, box e s = .ok p s1 ∧ RR p s1 := by
  unfold wp at w
  cases q : box e s with
  | ok p s1 => rw [q] at w; exact ⟨p, s1, rfl, w⟩
  | ex x s1 => exact (box_noex q).elim
  | no => rw [q] at w; exact w.elim
theorem tmpOK {es : List EV} {vs : List V} (h : EVsRel K m s σ H es vs) : ∀ a, TmpAt es vs a → ∃ o, H a = some o ∧ OKind o := fun a z => tmpAt_some h z
theorem putCO_ok {e : EV} {v : V} {c : CO} (r : Rel K m s σ H) (h : EVRel K m s σ H e v) (q : putCO e c s = .ok () s') :
    ∃ l o, v = .ref l ∧ H l = some o ∧ OKind o ∧ ∀ o', OKind o' → CORel K m s.h.length (upd H l o') c l → Rel K m s' σ (upd H l o') ∧ Ext NoT m s σ H m s' σ (upd H l o') := by
  have low : ∀ n (l : Addr) H', CORel K m s.h.length H' c l → c.und n = true → CORel K m n H' c l := fun n l H' h u => by
    cases c with
    | lst xs => obtain ⟨vs, e, q⟩ := h; exact ⟨vs, e, q.lower u⟩
    | dct kvs => obtain ⟨vs, e, q1, q⟩ := h; exact ⟨vs, e, q1, q.lower u⟩
  have viaRef : ∀ n w c0, VRel K m s.h.length H (.ref n) w → s.h[n]? = some (.rw c0) → c.und n = true → s' = { s with h := s.h.set n (.rw c) } → ∃ l o, w = .ref l ∧ H l = some o ∧ OKind o ∧ ∀ o', OKind o' → CORel K m s.h.length (upd H l o') c l → Rel K m s' σ (upd H l o') ∧ Ext NoT m s σ H m s' σ (upd H l o') := fun n w c0 hv e1 u es => by
    simp only [VRel] at hv
    obtain ⟨hn, rfl⟩ := hv
    obtain ⟨o, ho, ko⟩ := r.okind (a := m n) (.inl ⟨n, _, e1, rfl, rfl⟩)
    exact ⟨m n, o, rfl, ho, ko, fun o' k' hc => write_ok r k' (.inl ⟨n, e1, rfl, low n _ _ hc u, es⟩)⟩
  cases e with
  | pv p =>
    cases p with
    | ref n =>
      simp only [putCO] at q
      split at q
      · rename_i c0 e1
        split at q
        · rename_i u
          cases q
          exact viaRef n v _ h e1 u rfl
        · cases q
      · cases q
    | _ => simp [putCO] at q
  | tmp _ => simp [putCO] at q
  | bw i =>
    have hv : σ[i]? = some (some v) := h
    simp only [putCO] at q
    split at q
    · rename_i c0 e1
      cases q
      obtain ⟨v', h1, a, h2, h3⟩ := r.sl i _ e1
      rw [hv] at h1; cases h1; subst h2
      obtain ⟨o, ho, ko⟩ := h3.kind
      exact ⟨a, o, rfl, ho, ko, fun o' k' hc => write_ok r k' (.inr ⟨i, e1, hv, hc, rfl⟩)⟩
    · rename_i n e1
      obtain ⟨v', h1, h2⟩ := r.sl i _ e1
      rw [hv] at h1; cases h1
      split at q
      · rename_i c0 e2
        split at q
        · rename_i u
          cases q
          exact viaRef n v _ h2 e2 u rfl
        · cases q
      · cases q
    · cases q
theorem putCO_noex {e : EV} {c : CO} {x : EX} (q : putCO e c s = .ex x s') : False := by
  unfold putCO at q
  repeat (first | cases q | split at q)
theorem wp_put {e : EV} {c : CO} {RR : Unit → DS → Prop} (w : wp (putCO e c) s RR X) : ∃ s1, putCO e c s = .ok () s1 ∧ RR () s1 := by
  unfold wp at w
  cases q : putCO e c s with
  | ok p s1 => rw [q] at w; exact ⟨s1, rfl, w⟩
  | ex x s1 => exact (putCO_noex q).elim
  | no => rw [q] at w; exact w.elim
theorem sqT_upd {l : Addr} {o o' : HO} (h : H l = some o) (k : OKind o) : ∀ a vs, SqT K H a vs → SqT K (upd H l o') a vs := fun a vs q =>
  sqT_keep (fun o2 e nk => by rw [upd_ne (fun z => by subst z; rw [h] at e; cases e; exact nk k)]; exact e) q
theorem boxes_ok : ∀ {es : List EV} {vs : List V} {m : Nat → Addr} {s : DS} {RR : List PV → DS → Prop}, Rel K m s σ H → EVsRel K m s σ H es vs → wp (boxes es) s RR X →
    ∃ ps s1 m1, Rel K m1 s1 σ H ∧ Ext (TmpAt es vs) m s σ H m1 s1 σ H ∧ VsRel K m1 s1.h.length H ps vs ∧ RR ps s1
  | [], vs, m, s, RR, r, h, w => by
    cases h
    exact ⟨[], s, m, r, Ext.toT Ext.refl, by simp only [VsRel], w⟩
  | e :: es, vs, m, s, RR, r, h, w => by
    obtain ⟨v, t, rfl, h1, h2, h3⟩ := h
    simp only [boxes] at w
    obtain ⟨p, s1, q1, w⟩ := wp_box (wp_bnd.mp w)
    obtain ⟨m1, r1, x1, v1⟩ := box_ok r h1 q1
    have hT : ∀ a, TmpAt [e] [v] a → ∃ o, H a = some o ∧ OKind o := fun a z => tmpAt_some (show EVsRel K m s σ H [e] [v] from ⟨v, [], rfl, h1, fun _ _ _ _ z => z.elim, rfl⟩) z
    have h3' := h3.stepT r x1 hT (fun a z z2 => by
      obtain ⟨⟨c, z3⟩, z4⟩ := tmp_one.mp z2
      exact h2 c a z3 z4 z)
    obtain ⟨ps, s2, m2, r2, x2, v2, w2⟩ := boxes_ok r1 h3' (wp_bnd.mp w)
    refine ⟨p :: ps, s2, m2, r2, (x1.then' x2).weak fun a z => ?_, ?_, w2⟩
    · rcases z with z | z
      · obtain ⟨z3, z4⟩ := tmp_one.mp z
        exact .inl ⟨z3, z4⟩
      · exact .inr z
    · simp only [VsRel]
      refine ⟨v, t, rfl, VRel.mono x2.mm x2.len (fun _ _ z => z) v1, v2⟩
end
end DV
namespace DV
open PySem PySem.Spec PyProof.Rows L2
section
variable {K : Fg} {F : FE} {W : WX} {m m' : Nat → Addr} {s s' : DS} {σ σ' : SSt} {H H' : Hp} {T : Addr → Prop} {Q : VK} {X : EX → DS → Prop}
abbrev bm (r : V → List V → Hp → VK → Prop) : List V → Hp → VK → Prop := fun vs H Q => ∃ x t, vs = x :: t ∧ r x t H Q
theorem evrel_of_put {e : EV} {c : CO} (q : putCO e c s = .ok () s') : ∀ c', e ≠ .tmp c' := fun c' z => by
  subst z; cases q
theorem prs_append : PrS K .append (bm rAppend) := by
  intro m s σ H es vs Q X r0 e0 w
  obtain ⟨a, b, rfl, w⟩ := two (f := appendF) (fun _ _ => rfl) rfl (fun _ => rfl) (fun _ _ _ _ => rfl) _ _ _ _ w
  obtain ⟨x, y, rfl, h1, h2⟩ := evs2 e0
  cases q : liOf s a with
  | none => exact (show False from wp_eq (d := M.no) w (by simp only [appendF, q])).elim
  | some xs =>
    have w := wp_eq (d := M.bnd (M.chk (decide (xs.length < sizeLine))) (fun _ => M.bnd (box b) fun v => M.bnd (putCO a (.lst (xs ++ [v]))) fun _ => val .non)) w (by simp only [appendF, q])
    obtain ⟨hz, w⟩ := wp_chk.mp (wp_bnd.mp w)
    obtain ⟨p, s1, q1, w⟩ := wp_box (wp_bnd.mp w)
    obtain ⟨m1, r1, x1, v1⟩ := box_ok r0 h2 q1
    obtain ⟨s2, q2, w⟩ := wp_put (wp_bnd.mp w)
    obtain ⟨l, vs, rfl, e1, e2⟩ := liOf_rel r0 h1 q
    have hT : ∀ a, TmpAt [b] [y] a → ∃ o, H a = some o ∧ OKind o := fun a z => tmpAt_some (show EVsRel K m s σ H [b] [y] from ⟨y, [], rfl, h2, fun _ _ _ _ z => z.elim, rfl⟩) z
    have h1' := h1.stepT r0 x1 hT (fun c a e _ => (evrel_of_put q2 c e).elim)
    obtain ⟨l', o, e3, e4, ko, wr⟩ := putCO_ok r1 h1' q2
    cases e3
    refine ⟨_, _, rfl, l, vs, y, rfl, rfl, e1, by rw [e2.length]; exact of_decide_eq_true hz, ?_⟩
    have ht := sqT_upd (K := K) (o' := .lst (vs ++ [y])) e4 ko
    have hc : CORel K m1 s1.h.length (upd H l (.lst (vs ++ [y]))) (.lst (xs ++ [p])) l := by
      refine ⟨vs ++ [y], upd_same, VsRel.append (e2.mono x1.mm x1.len ht) ?_⟩
      simp only [VsRel]
      exact ⟨y, [], rfl, VRel.mono (fun _ _ => rfl) (Nat.le_refl _) ht v1, rfl⟩
    obtain ⟨r2, x2⟩ := wr (.lst (vs ++ [y])) trivial hc
    have xx := (x1.then' x2).weak (T' := TmpAt [a, b] [V.ref l, y]) fun z hz => by
      rcases hz with hz | hz
      · obtain ⟨z1, z2⟩ := tmp_one.mp hz
        exact .inr (.inl ⟨z1, z2⟩)
      · exact hz.elim
    exact w m1 _ .non r2 xx (by simp only [EVRel, VRel]) fun _ _ z => nomatch z
theorem prs_pop : PrS K .pop (bm rPop) := by
  intro m s σ H es vs Q X r0 e0 w
  obtain ⟨a, rfl, w⟩ := one (f := popF) (fun _ => rfl) rfl (fun _ _ _ => rfl) _ _ _ _ w
  obtain ⟨x, rfl, h1⟩ := evs1 e0
  cases q : liOf s a with
  | none => exact (show False from wp_eq (d := M.no) w (by simp only [popF, q])).elim
  | some xs =>
    cases q3 : xs[xs.length - 1]? with
    | none => exact (show False from wp_eq (d := M.no) w (by simp only [popF, q, q3])).elim
    | some p =>
      have w := wp_eq (d := M.bnd (putCO a (.lst xs.dropLast)) (fun _ => val p)) w (by simp only [popF, q, q3])
      obtain ⟨s2, q2, w⟩ := wp_put (wp_bnd.mp w)
      obtain ⟨l, vs, rfl, e1, e2⟩ := liOf_rel r0 h1 q
      obtain ⟨l', o, e3, e4, ko, wr⟩ := putCO_ok r0 h1 q2
      cases e3
      obtain ⟨u, e5, e6⟩ := e2.get q3
      refine ⟨_, _, rfl, l, vs, u, rfl, rfl, e1, by rw [e2.length]; exact e5, ?_⟩
      have ht := sqT_upd (K := K) (o' := .lst vs.dropLast) e4 ko
      obtain ⟨r2, x2⟩ := wr (.lst vs.dropLast) trivial ⟨_, upd_same, (e2.mono (fun _ _ => rfl) (Nat.le_refl _) ht).dropLast⟩
      exact w m _ u r2 (Ext.toT x2) (VRel.mono x2.mm x2.len ht e6) fun _ _ z => nomatch z
theorem prs_extend : PrS K .extend (bm rExtend) := by
  intro m s σ H es vs Q X r0 e0 w
  obtain ⟨a, b, rfl, w⟩ := two (f := extendF) (fun _ _ => rfl) rfl (fun _ => rfl) (fun _ _ _ _ => rfl) _ _ _ _ w
  obtain ⟨x, y, rfl, h1, h2⟩ := evs2 e0
  cases q : liOf s a with
  | none => exact (show False from wp_eq (d := M.no) w (by simp only [extendF, q])).elim
  | some xs =>
    cases q3 : liOf s b with
    | none => exact (show False from wp_eq (d := M.no) w (by simp only [extendF, q, q3])).elim
    | some ys =>
      have w := wp_eq (d := M.bnd (M.chk (decide (xs.length + ys.length ≤ sizeLine))) (fun _ => M.bnd (putCO a (.lst (xs ++ ys))) fun _ => val .non)) w (by simp only [extendF, q, q3])
      obtain ⟨hz, w⟩ := wp_chk.mp (wp_bnd.mp w)
      obtain ⟨s2, q2, w⟩ := wp_put (wp_bnd.mp w)
      obtain ⟨l, vs, rfl, e1, e2⟩ := liOf_rel r0 h1 q
      obtain ⟨l2, vs2, rfl, e5, e6⟩ := liOf_rel r0 h2 q3
      obtain ⟨l', o, e3, e4, ko, wr⟩ := putCO_ok r0 h1 q2
      cases e3
      refine ⟨_, _, rfl, l, l2, vs, vs2, rfl, rfl, e1, e5, by rw [e2.length, e6.length]; exact of_decide_eq_true hz, ?_⟩
      have ht := sqT_upd (K := K) (o' := .lst (vs ++ vs2)) e4 ko
      obtain ⟨r2, x2⟩ := wr (.lst (vs ++ vs2)) trivial ⟨_, upd_same, (e2.append e6).mono (fun _ _ => rfl) (Nat.le_refl _) ht⟩
      exact w m _ .non r2 (Ext.toT x2) (by simp only [EVRel, VRel]) fun _ _ z => nomatch z
theorem VsRel.eraseIdx {K : Fg} {m : Nat → Addr} {n : Nat} {H : Hp} {ps : List PV} {vs : List V} (j : Nat) (h : VsRel K m n H ps vs) : VsRel K m n H (ps.eraseIdx j) (vs.eraseIdx j) := by
  rw [List.eraseIdx_eq_take_drop_succ, List.eraseIdx_eq_take_drop_succ]
  exact (h.take _).append (h.drop _)
theorem prs_popAt : PrS K .popAt (bm rPopAt) := by
  intro m s σ H es vs Q X r0 e0 w
  obtain ⟨a, b, rfl, w⟩ := two (f := popAtF) (fun _ _ => rfl) rfl (fun _ => rfl) (fun _ _ _ _ => rfl) _ _ _ _ w
  obtain ⟨x, y, rfl, h1, h2⟩ := evs2 e0
  cases q : liOf s a with
  | none => exact (show False from wp_eq (d := M.no) w (by simp only [popAtF, q])).elim
  | some xs =>
    have hi : ∃ k, pvOf s b = some (.int k) := by
      rcases q1 : pvOf s b with _ | p1
      · exact (show False from wp_eq (d := M.no) w (by simp only [popAtF, q, q1])).elim
      · cases p1 with
        | int k => exact ⟨k, rfl⟩
        | _ => exact (show False from wp_eq (d := M.no) w (by simp only [popAtF, q, q1])).elim
    obtain ⟨k, q1⟩ := hi
    have w := wp_eq (d := M.bnd (M.chk (decide (-(2 ^ 63) ≤ k) && decide (k < 2 ^ 63))) (fun _ => M.bnd (M.opt (L2.ixN xs.length k)) fun j => M.bnd (M.opt xs[j]?) fun v => M.bnd (putCO a (.lst (xs.eraseIdx j))) fun _ => val v)) w (by simp only [popAtF, q, q1])
    obtain ⟨hz, w⟩ := wp_chk.mp (wp_bnd.mp w)
    obtain ⟨j, hj, w⟩ := wp_opt.mp (wp_bnd.mp w)
    obtain ⟨p, hp, w⟩ := wp_opt.mp (wp_bnd.mp w)
    obtain ⟨s2, q2, w⟩ := wp_put (wp_bnd.mp w)
    obtain ⟨l, vs, rfl, e1, e2⟩ := liOf_rel r0 h1 q
    obtain rfl := vr_int (pvOf_rel r0 h2 q1)
    obtain ⟨l', o, e3, e4, ko, wr⟩ := putCO_ok r0 h1 q2
    cases e3
    obtain ⟨u, e5, e6⟩ := e2.get hp
    have hz := Bool.and_eq_true_iff.mp hz
    refine ⟨_, _, rfl, l, vs, k, j, u, rfl, rfl, e1, of_decide_eq_true hz.1, of_decide_eq_true hz.2, ?_, e5, ?_⟩
    · rw [e2.length]; exact (ixN_seq hj).1
    have ht := sqT_upd (K := K) (o' := .lst (vs.eraseIdx j)) e4 ko
    obtain ⟨r2, x2⟩ := wr (.lst (vs.eraseIdx j)) trivial ⟨_, upd_same, (e2.mono (fun _ _ => rfl) (Nat.le_refl _) ht).eraseIdx j⟩
    exact w m _ u r2 (Ext.toT x2) (VRel.mono x2.mm x2.len ht e6) fun _ _ z => nomatch z
def rIns0 : V → List V → Hp → VK → Prop := fun x vs H Q => ∃ (l : Addr) (xs : List V) (i : Int) (y : V), x = .ref l ∧ vs = [.int i, y] ∧ H l = some (.lst xs) ∧ xs.length < sizeLine ∧ 0 ≤ i ∧ i < 2 ^ 63 ∧
    Q .non (upd H l (.lst (xs.take i.toNat ++ [y] ++ xs.drop i.toNat)))
theorem prs_insert : PrS K .insert (bm rIns0) := by
  intro m s σ H es vs Q X r0 e0 w
  obtain ⟨a, i, b, rfl, w⟩ := three (f := insertF) (fun _ _ _ => rfl) rfl (fun _ => rfl) (fun _ _ => rfl) (fun _ _ _ _ _ => rfl) _ _ _ _ w
  obtain ⟨x, z, y, rfl, h1, h3, h2⟩ := evs3 e0
  cases q : liOf s a with
  | none => exact (show False from wp_eq (d := M.no) w (by simp only [insertF, q])).elim
  | some xs =>
    have hy : pvOf s i = some (.int 0) ∧ insertF a i b s = M.bnd (M.chk (decide (xs.length < sizeLine))) (fun _ => M.bnd (box b) fun v => M.bnd (putCO a (.lst (v :: xs))) fun _ => val .non) s := by
      have un : insertF a i b s = match liOf s a, pvOf s i with
        | some xs, some (.int 0) => M.bnd (M.chk (decide (xs.length < sizeLine))) (fun _ => M.bnd (box b) fun v => M.bnd (putCO a (.lst (v :: xs))) fun _ => val .non) s
        | _, _ => .no := rfl
      have no : insertF a i b s = .no → False := fun z => (show False from wp_eq (d := M.no) w z)
      rw [q] at un
      rcases q1 : pvOf s i with _ | p1
      · rw [q1] at un; exact (no un).elim
      · rw [q1] at un
        cases p1 with
        | int i =>
          cases i with
          | ofNat n =>
            cases n with
            | zero => exact ⟨rfl, un⟩
            | succ n => exact (no un).elim
          | negSucc n => exact (no un).elim
        | _ => exact (no un).elim
    obtain ⟨q0, zz⟩ := hy
    have w := wp_eq w zz
    obtain ⟨hz, w⟩ := wp_chk.mp (wp_bnd.mp w)
    obtain ⟨p, s1, q1, w⟩ := wp_box (wp_bnd.mp w)
    obtain ⟨m1, r1, x1, v1⟩ := box_ok r0 h2 q1
    obtain ⟨s2, q2, w⟩ := wp_put (wp_bnd.mp w)
    obtain ⟨l, vs, rfl, e1, e2⟩ := liOf_rel r0 h1 q
    obtain rfl := vr_int (pvOf_rel r0 h3 q0)
    have hT : ∀ a, TmpAt [b] [y] a → ∃ o, H a = some o ∧ OKind o := fun a z => tmpAt_some (show EVsRel K m s σ H [b] [y] from ⟨y, [], rfl, h2, fun _ _ _ _ z => z.elim, rfl⟩) z
    have h1' := h1.stepT r0 x1 hT (fun c a e _ => (evrel_of_put q2 c e).elim)
    obtain ⟨l', o, e3, e4, ko, wr⟩ := putCO_ok r1 h1' q2
    cases e3
    refine ⟨_, _, rfl, l, vs, 0, y, rfl, rfl, e1, by rw [e2.length]; exact of_decide_eq_true hz, by decide, by decide, ?_⟩
    show Q .non (upd H l (.lst (y :: vs)))
    have ht := sqT_upd (K := K) (o' := .lst (y :: vs)) e4 ko
    have hc : CORel K m1 s1.h.length (upd H l (.lst (y :: vs))) (.lst (p :: xs)) l := by
      refine ⟨y :: vs, upd_same, ?_⟩
      simp only [VsRel]
      exact ⟨y, vs, rfl, VRel.mono (fun _ _ => rfl) (Nat.le_refl _) ht v1, e2.mono x1.mm x1.len ht⟩
    obtain ⟨r2, x2⟩ := wr (.lst (y :: vs)) trivial hc
    have xx := (x1.then' x2).weak (T' := TmpAt [a, i, b] [V.ref l, V.int 0, y]) fun z hz => by
      rcases hz with hz | hz
      · obtain ⟨z1, z2⟩ := tmp_one.mp hz
        exact .inr (.inr (.inl ⟨z1, z2⟩))
      · exact hz.elim
    exact w m1 _ .non r2 xx (by simp only [EVRel, VRel]) fun _ _ z => nomatch z
theorem OkP.step {m1 : Nat → Addr} {s1 : DS} {e : EV} (h : OkP K m s σ H T Q e s') (x : Ext T m s σ H m1 s1 σ H) : OkP K m1 s1 σ H NoT Q e s' := fun m' H' v r y ev fr =>
  h m' H' v r ((x.then' y).weak fun a z => z.elim id fun z => z.elim) ev fr
theorem prs_mkTup : PrS K .mkTup (fun vs H Q => vs.length ≤ sizeLine ∧ ∀ p, H p = none → Q (.ref p) (upd H p (.tup vs))) := by
  intro m s σ H es vs Q X r0 e0 w
  have w : wp (M.bnd (boxes es) fun vs => newT vs) s (OkP K m s σ H (TmpAt es vs) Q) X := w
  obtain ⟨ps, s1, m1, r1, x1, v1, w⟩ := boxes_ok r0 e0 (wp_bnd.mp w)
  obtain ⟨hz, w⟩ := wp_newT w
  exact ⟨by rw [v1.length]; exact hz, fun q hq => fin_tup (w.step x1) r1 v1 hq⟩
theorem prs_mkLst : PrS K .mkLst (fun vs H Q => vs.length ≤ sizeLine ∧ ∀ p, H p = none → Q (.ref p) (upd H p (.lst vs))) := by
  intro m s σ H es vs Q X r0 e0 w
  have w : wp (M.bnd (boxes es) fun vs => newL vs) s (OkP K m s σ H (TmpAt es vs) Q) X := w
  obtain ⟨ps, s1, m1, r1, x1, v1, w⟩ := boxes_ok r0 e0 (wp_bnd.mp w)
  obtain ⟨hz, w⟩ := wp_newL w
  exact ⟨by rw [v1.length]; exact hz, fun q hq => fin_lst (w.step x1) r1 v1 hq⟩
theorem kr_fold {n : Nat} : ∀ {ks : List Key} {ps : List PV} {vs : List V} {xs : List (Key × PV)} {ys : List (Key × V)}, VsRel K m n H ps vs → KR K m n H xs ys →
    KR K m n H ((ks.zip ps).foldl (fun acc kv => DV.put acc kv.1 kv.2) xs) (mergeK ys (ks.zip vs))
  | [], _, _, _, _, _, h => h
  | k :: ks, [], _, _, _, hv, h => by simp only [VsRel] at hv; subst hv; exact h
  | k :: ks, p :: ps, _, xs, ys, hv, h => by
    simp only [VsRel] at hv
    obtain ⟨v, r, rfl, h1, h2⟩ := hv
    have z := kr_fold (ks := ks) h2 (KR.put (k := k) h1 h)
    exact z
theorem kr_foldL {n : Nat} : ∀ {kvs : List (Key × PV)} {kvs' : List (Key × V)} {xs : List (Key × PV)} {ys : List (Key × V)}, kvs'.map (·.1) = kvs.map (·.1) → VsRel K m n H (kvs.map (·.2)) (kvs'.map (·.2)) → KR K m n H xs ys →
    KR K m n H (kvs.foldl (fun acc kv => DV.put acc kv.1 kv.2) xs) (mergeK ys kvs')
  | [], [], _, _, _, _, h => h
  | [], _ :: _, _, _, e, _, _ => by simp at e
  | _ :: _, [], _, _, e, _, _ => by simp at e
  | (k, p) :: kvs, (k', v') :: kvs', xs, ys, e, hv, h => by
    simp only [List.map_cons, List.cons.injEq] at e
    obtain ⟨rfl, e⟩ := e
    simp only [List.map_cons, VsRel] at hv
    obtain ⟨v, r, e2, h1, h2⟩ := hv
    simp only [List.cons.injEq] at e2
    obtain ⟨rfl, rfl⟩ := e2
    have z := kr_foldL e h2 (KR.put (k := k') h1 h)
    exact z
theorem pairs_rel {n : Nat} : ∀ {xs : List PV} {vs : List V} {kvs : List (Key × PV)}, VsRel K m n H xs vs → pairsKV xs = some kvs →
    ∃ (ps : List Addr) (kvs' : List (Key × V)), vs = ps.map V.ref ∧ Paired (fun p kv => SqT K H p [kV kv.1, kv.2]) ps kvs' ∧ kvs'.map (·.1) = kvs.map (·.1) ∧ VsRel K m n H (kvs.map (·.2)) (kvs'.map (·.2))
  | [], vs, kvs, h, q => by
    simp only [VsRel] at h
    simp only [pairsKV, Option.some.injEq] at q
    subst h; subst q
    exact ⟨[], [], rfl, .nil, rfl, by simp only [List.map_nil, VsRel]⟩
  | x :: r, vs, kvs, h, q => by
    simp only [VsRel] at h
    obtain ⟨v, vr, rfl, h1, h2⟩ := h
    simp only [pairsKV] at q
    split at q
    · rename_i y ys e1 e2
      simp only [Option.some.injEq] at q
      subst q
      obtain ⟨ps, kvs', rfl, a, b, c⟩ := pairs_rel h2 e2
      unfold pairKV at e1
      split at e1
      · rename_i k p
        obtain ⟨key, e3, e4⟩ := Option.map_eq_some_iff.mp e1
        subst e4
        simp only [VRel] at h1
        obtain ⟨ad, vs2, rfl, s1, s2⟩ := h1
        simp only [VsRel] at s2
        obtain ⟨v1, r1, rfl, t1, v2, r2, rfl, t2, rfl⟩ := s2
        have ek : v1 = kV key := keyOf_rel t1 e3
        subst ek
        exact ⟨ad :: ps, (key, v2) :: kvs', rfl, .cons s1 a, by simp only [List.map_cons, b], by simp only [List.map_cons, VsRel]; exact ⟨_, _, rfl, t2, c⟩⟩
      · cases e1
    · cases q
theorem prs_dictL : PrS K .dictL (fun xs H Q => ∃ (a : Addr) (ps : List Addr) (kvs : List (Key × V)), xs = [.ref a] ∧ SqL K H a (ps.map V.ref) ∧ Paired (fun p kv => SqT K H p [kV kv.1, kv.2]) ps kvs ∧ ∀ p, H p = none → Q (.ref p) (upd H p (.dK (mergeK [] kvs)))) := by
  intro m s σ H es vs Q X r0 e0 w
  obtain ⟨a, rfl, w⟩ := one (f := dictLF) (fun _ => rfl) rfl (fun _ _ _ => rfl) _ _ _ _ w
  obtain ⟨x, rfl, h1⟩ := evs1 e0
  obtain ⟨xs, q, w⟩ := co_lst (f := fun xs => M.bnd (M.opt (pairsKV xs)) fun kvs => M.ret (.tmp (.dct (dictKV kvs)))) w
  obtain ⟨kvs, hz, w⟩ := wp_opt.mp (wp_bnd.mp w)
  obtain ⟨p, vs, rfl, e1, e2⟩ := coOf_rel r0 h1 q
  obtain ⟨ps, kvs', rfl, a1, a2, a3⟩ := pairs_rel e2 hz
  obtain ⟨k1, k2⟩ := KR.to (kr_foldL a2 a3 (show KR K m s.h.length H [] [] from rfl))
  exact ⟨p, ps, kvs', rfl, e1, a1, fun q hq => fin_dct w r0 k1 k2 hq⟩
def dpairs (K : Fg) (F : FE) (W : WX) : List Key → List E → List (TE × TE)
  | k :: ks, e :: es => (tC (kV k), De K W (evE F e)) :: dpairs K F W ks es
  | _, _ => []
theorem dp_run {ks : List Key} : ∀ {es : List E} {ks : List Key} {σ : SSt} {H : Hp} {R : List V → Hp → Prop}, ks.length = es.length → Da K W (evs F es) σ H R → tPairs (dpairs K F W ks es) σ H fun ps H2 => ∃ vs, ps = ks.zipWith (fun k v => (kV k, v)) vs ∧ vs.length = ks.length ∧ R vs H2
  | [], ks, σ, H, R, hl, h => by
    have : ks = [] := List.eq_nil_of_length_eq_zero hl
    subst this
    exact ⟨[], rfl, rfl, da_nil h⟩
  | e :: es, [], _, _, _, hl, _ => by cases hl
  | e :: es, k :: ks, σ, H, R, hl, h => by
    have mono : ∀ {trs : List (TE × TE)} {σ : SSt} {H : Hp} {P P' : List (V × V) → Hp → Prop}, True := trivial
    show tPairs ((tC (kV k), De K W (evE F e)) :: dpairs K F W ks es) σ H _
    have q := da_cons h
    refine De.mono q fun v H1 q1 => ?_
    have q2 := dp_run (ks := ks) (es := es) (by simpa using hl) q1
    exact tPairs_mono es ks (fun ps H2 ⟨vs, e1, e2, e3⟩ => ⟨v :: vs, by rw [e1]; rfl, by simp [e2], e3⟩) q2
where
  tPairs_mono : ∀ (es : List E) (ks : List Key) {σ : SSt} {H : Hp} {P P' : List (V × V) → Hp → Prop}, (∀ ps H, P ps H → P' ps H) → tPairs (dpairs K F W ks es) σ H P → tPairs (dpairs K F W ks es) σ H P'
    | [], ks, _, _, _, _, h, q => by cases ks <;> exact h _ _ q
    | e :: es, [], _, _, _, _, h, q => h _ _ q
    | e :: es, k :: ks, _, _, _, _, h, q => De.mono q fun v H1 q1 => tPairs_mono es ks (fun ps H2 q2 => h _ _ q2) q1
theorem de_mkDct {ks : List Key} {es : List E} (hl : ks.length = es.length) (h : De K W (evE F (.prim (.mkDct ks) es)) σ H Q) : tDisp (dpairs K F W ks es) σ H Q := by
  obtain ⟨m, s, r0, w⟩ := h
  simp only [evE, ev2] at w
  intro p hp
  have g := upd_grow (o := HO.dK []) hp
  have hno : ¬ Own m s σ p := fun z => by
    obtain ⟨o, ho, _⟩ := r0.okind z
    rw [hp] at ho; cases ho
  have rp : Rel K m s σ (upd H p (.dK [])) := r0.grow g
  have xp : Ext NoT m s σ H m s σ (upd H p (.dK [])) := Ext.grow g
  have q : Da K W (evs F es) σ (upd H p (.dK [])) fun vs H2 => H2 p = some (.dK []) ∧ vs.length ≤ 15 ∧ ∀ kvs, kvs = ks.zip vs → Q (.ref p) (upd H2 p (.dK (mergeK [] kvs))) := by
    refine ⟨m, s, rp, wp_mono (wp_bnd.mp w) (fun es' s1 w1 m1 H1 vs r1 x1 e1 f1 => ?_) fun x s2 z => z.step xp⟩
    have hp1 : H1 p = some (.dK []) := x1.fr p _ upd_same hno (fun z => z)
    have hno1 : ¬ Own m1 s1 σ p := fun z => by
      rcases x1.ow p z with z | z | z
      · exact hno z
      · exact z
      · rw [upd_same] at z; cases z
    have w1 : wp (M.bnd (boxes es') fun vs => M.bnd (M.chk (decide (ks.length = vs.length) && decide (vs.length ≤ 15))) fun _ => M.ret (.tmp (.dct ((ks.zip vs).foldl (fun acc kv => put acc kv.1 kv.2) [])))) s1 (OkE K m s σ H Q) (ExW K W m s σ H) := w1
    obtain ⟨ps, s2, m2, r2, x2, v2, w2⟩ := boxes_ok r1 e1 (wp_bnd.mp w1)
    obtain ⟨hz, w2⟩ := wp_chk.mp (wp_bnd.mp w2)
    simp only [Bool.and_eq_true, decide_eq_true_eq] at hz
    refine ⟨hp1, by rw [v2.length]; exact hz.2, fun kvs hkv => ?_⟩
    subst hkv
    have w2 : OkE K m s σ H Q (.tmp (.dct ((ks.zip ps).foldl (fun acc kv => put acc kv.1 kv.2) []))) s2 := w2
    have ht : ∀ a vs', SqT K H1 a vs' → SqT K (upd H1 p (.dK (mergeK [] (ks.zip vs)))) a vs' := sqT_upd hp1 trivial
    have hno2 : ¬ Own m2 s2 σ p := fun z => by
      rcases x2.ow p z with z | z | z
      · exact hno1 z
      · have := f1 p z; rw [upd_same] at this; cases this
      · rw [hp1] at z; cases z
    have gg : ∀ a o, a ≠ p → H1 a = some o → upd H1 p (.dK (mergeK [] (ks.zip vs))) a = some o := fun a o hn e => by rw [upd_ne hn]; exact e
    have ownne : ∀ a, Own m2 s2 σ a → a ≠ p := fun a z e => hno2 (e ▸ z)
    have r3 : Rel K m2 s2 σ (upd H1 p (.dK (mergeK [] (ks.zip vs)))) := by
      refine ⟨fun n o e => ?_, fun i x e => ?_, r2.len, r2.inj, r2.inj2, r2.inj3⟩
      · have z := r2.hp n o e
        have hn : o.isFz = false → m2 n ≠ p := fun f => ownne _ (.inl ⟨n, o, e, f, rfl⟩)
        cases o with
        | rw c => exact CORel.mono (fun _ _ => rfl) (Nat.le_refl _) ht (fun o e => gg _ o (hn rfl) e) z
        | lk c => exact LKRel.mono (fun _ _ => rfl) (Nat.le_refl _) ht (fun o e => gg _ o (hn rfl) e) z
        | fz xs => exact FZRel.mono (fun _ _ => rfl) (Nat.le_refl _) ht (fun o vs e => gg _ _ (fun z => by rw [z, hp1] at e; cases e) e) z
      · obtain ⟨v, h1, h2⟩ := r2.sl i x e
        refine ⟨v, h1, ?_⟩
        cases x with
        | pv p => exact VRel.mono (fun _ _ => rfl) (Nat.le_refl _) ht h2
        | own c => obtain ⟨b, h3, h4⟩ := h2; subst h3; exact ⟨b, rfl, h4.mono (fun _ _ => rfl) (Nat.le_refl _) ht (fun o e' => gg b o (ownne b (.inr ⟨i, ⟨c, .inl e⟩, h1⟩)) e')⟩
        | lk c => obtain ⟨b, h3, h4⟩ := h2; subst h3; exact ⟨b, rfl, h4.mono (fun _ _ => rfl) (Nat.le_refl _) ht (fun o e' => gg b o (ownne b (.inr ⟨i, ⟨c, .inr e⟩, h1⟩)) e')⟩
    have x02 : Ext (TmpAt es' vs) m s σ H m2 s2 σ H1 := ((xp.trans x1).toT (T := NoT)).then' x2 |>.weak fun a z => z.elim (fun z => z.elim) id
    have x3 : Ext NoT m s σ H m2 s2 σ (upd H1 p (.dK (mergeK [] (ks.zip vs)))) := by
      have nt : ∀ a o, H a = some o → ¬ TmpAt es' vs a := fun a o e z => by
        have := f1 a z
        have e' := g a o e
        rw [this] at e'; cases e'
      refine ⟨x02.len, x02.mm, fun a o e no _ => gg a o (ne_of_none e hp) (x02.fr a o e no (nt a o e)), fun a z => ?_, fun a z => ?_, x02.lks, x02.lkh, x02.fzh, x02.nfz⟩
      · rcases x02.ow a z with z1 | z1 | z1
        · exact .inl z1
        · refine .inr (.inr ?_)
          have := f1 a z1
          by_cases hap : a = p
          · rw [hap]; exact hp
          · rw [upd_ne hap] at this; exact this
        · exact .inr (.inr z1)
      · by_cases hap : a = p
        · rw [hap, upd_same] at z; cases z
        · rw [upd_ne hap] at z
          exact x02.dom a z
    refine w2 m2 _ _ r3 x3 ⟨p, rfl, ?_, hno2⟩ fun c a z e => by cases e; exact hp
    obtain ⟨k1, k2⟩ := KR.to (kr_fold (ks := ks) (VsRel.mono (fun _ _ => rfl) (Nat.le_refl _) ht v2) (show KR K m2 s2.h.length (upd H1 p (.dK (mergeK [] (ks.zip vs)))) [] [] from rfl))
    exact ⟨_, upd_same, k1, k2⟩
  refine dp_run.tPairs_mono es ks (fun ps H2 ⟨vs, e1, e2, e3, e4, e5⟩ => ?_) (dp_run (ks := ks) hl q)
  have hzip : ∀ (ks : List Key) (vs : List V), ks.zipWith (fun k v => (kV k, v)) vs = (ks.zip vs).map fun kv => (kV kv.1, kv.2) := by
    intro ks
    induction ks with
    | nil => intro vs; rfl
    | cons k ks ih =>
      intro vs
      cases vs with
      | nil => rfl
      | cons v vs => simp only [List.zipWith_cons_cons, List.zip_cons_cons, List.map_cons, ih]
  exact ⟨e3, ks.zip vs, by rw [e1, hzip], by rw [List.length_zip]; omega, e5 _ rfl⟩
theorem de_mkDct0 (h : De K W (evE F (.prim (.mkDct []) [])) σ H Q) : tDNewK σ H Q := by
  obtain ⟨m, s, r0, w⟩ := h
  have w : OkE K m s σ H Q (.tmp (.dct [])) s := w
  intro p hp
  have w' : OkP K m s σ H NoT Q (.tmp (.dct [])) s := fun m' H' v r x e f => w m' H' v r x e f
  exact fin_dct w' r0 rfl (by simp only [List.map_nil, VsRel]) hp
abbrev rTru (K : Fg) : V → Hp → (Bool → Hp → Prop) → Prop := fun x H Q => ∃ k, TruV K x H k ∧ Q k H
theorem tru_rel {e : EV} {x : V} {P : Bool → Hp → Prop} {RR : Bool → DS → Prop} (r0 : Rel K m s σ H) (h1 : EVRel K m s σ H e x) (w : wp (truthF e) s RR X) (h : ∀ b, RR b s → P b H) : rTru K x H P := by
  have viaC : ∀ c, coOf s e = some c → pvOf s e = none ∨ (∃ n, pvOf s e = some (.ref n)) → rTru K x H P := fun c q hp => by
    have z := coOf_rel r0 h1 q
    cases c with
    | lst xs =>
      have w := wp_eq (d := M.ret (!xs.isEmpty)) w (by rcases hp with hp | ⟨n, hp⟩ <;> simp only [truthF, hp, q])
      obtain ⟨a, vs, rfl, e1, e2⟩ := z
      refine ⟨!vs.isEmpty, .inl ⟨vs, e1, rfl⟩, ?_⟩
      have : vs.isEmpty = xs.isEmpty := by
        have := e2.length
        cases vs <;> cases xs <;> first | rfl | (simp at this)
      rw [this]
      exact h _ w
    | dct kvs => exact (show False from wp_eq (d := M.no) w (by rcases hp with hp | ⟨n, hp⟩ <;> simp only [truthF, hp, q])).elim
  cases q : pvOf s e with
  | none =>
    cases q2 : coOf s e with
    | none => exact (show False from wp_eq (d := M.no) w (by simp only [truthF, q, q2])).elim
    | some c => exact viaC c q2 (.inl q)
  | some p =>
    have z := pvOf_rel r0 h1 q
    cases p with
    | non => rw [vr_non z]; exact ⟨false, rfl, h _ (wp_eq (d := M.ret false) w (by simp only [truthF, q]))⟩
    | bl b => rw [vr_bl z]; exact ⟨b, rfl, h _ (wp_eq (d := M.ret b) w (by simp only [truthF, q]))⟩
    | int i => rw [vr_int z]; exact ⟨i != 0, rfl, h _ (wp_eq (d := M.ret (i != 0)) w (by simp only [truthF, q]))⟩
    | str i =>
      rw [vr_str z]
      obtain ⟨hz, w⟩ := wp_chk.mp (wp_bnd.mp (wp_eq (d := M.bnd (M.chk (decide (i.length ≤ sizeLine))) (fun _ => M.ret ((i.length : Int) != 0))) w (by simp only [truthF, q])))
      exact ⟨((i.length : Int) != 0), ⟨of_decide_eq_true hz, rfl⟩, h _ w⟩
    | tup xs =>
      obtain ⟨a, vs, rfl, e1, e2⟩ := vr_tup z
      refine ⟨!vs.isEmpty, .inr (.inl ⟨vs, e1, rfl⟩), ?_⟩
      have : vs.isEmpty = xs.isEmpty := by
        have := e2.length
        cases vs <;> cases xs <;> first | rfl | (simp at this)
      rw [this]
      exact h _ (wp_eq (d := M.ret (!xs.isEmpty)) w (by simp only [truthF, q]))
    | ref n =>
      cases q2 : coOf s e with
      | none => exact (show False from wp_eq (d := M.no) w (by simp only [truthF, q, q2])).elim
      | some c => exact viaC c q2 (.inr ⟨n, q⟩)
end
end DV
namespace DV
open PySem PySem.Spec PyProof.Rows L2
section
variable {X : Cx}
theorem pe_w {e : Expr} {t t' : TE} (h : PE X e t) (w : ∀ σ H Q, t' σ H Q → t σ H Q) : PE X e t' := ⟨fun pins s σ H Q I q => h.run pins s σ H Q I (w _ _ _ q)⟩
theorem pt_w {e : Expr} {t t' : TT} (h : PT X e t) (w : ∀ σ H Q, t' σ H Q → t σ H Q) : PT X e t' := ⟨fun pins s σ H Q I q => h.run pins s σ H Q I (w _ _ _ q)⟩
theorem pw_w {e : Expr} {t t' : TT} (h : PW X e t) (w : ∀ σ H Q, t' σ H Q → t σ H Q) : PW X e t' := ⟨fun wh pins s σ H Q I q => h.run wh pins s σ H Q I (w _ _ _ q)⟩
theorem pa_w {e : List Expr} {t t' : TA} (h : PA X e t) (w : ∀ σ H Q, t' σ H Q → t σ H Q) : PA X e t' := ⟨fun pos pins s σ H Q I q => h.run pos pins s σ H Q I (w _ _ _ q)⟩
theorem pk_w {e : List Keyword} {t t' : TA} (h : PK X e t) (w : ∀ σ H Q, t' σ H Q → t σ H Q) : PK X e t' := ⟨fun pos pins s σ H Q I q => h.run pos pins s σ H Q I (w _ _ _ q)⟩
theorem ps_w {e : Stmt} {t t' : TS} (h : PS X e t) (w : ∀ D σ H, t' D σ H → t D σ H) : PS X e t' := ⟨fun pins s σ H D I q => h.run pins s σ H D I (w _ _ _ q)⟩
theorem pss_w {e : List Stmt} {t t' : TS} (h : PSs X e t) (w : ∀ D σ H, t' D σ H → t D σ H) : PSs X e t' := ⟨fun pins s σ H D I q => h.run pins s σ H D I (w _ _ _ q)⟩
theorem pi_w {tg e : Expr} {t t' : TI} (h : PI X tg e t) (w : ∀ σ H Q, t' σ H Q → t σ H Q) : PI X tg e t' := ⟨fun pins s σ H Q I q => h.run pins s σ H Q I (w _ _ _ q)⟩
end
section
variable {X : Cx} {F : FE} {W : WX} {a b c : Expr} {ea eb ec : E} {es : List Expr} {cs : List E} {pos : Pos}
abbrev DE (X : Cx) (F : FE) (W : WX) (e : Expr) (c : E) : Prop := PE X e (De X.K W (evE F c))
abbrev DT (X : Cx) (F : FE) (W : WX) (e : Expr) (c : E) : Prop := PT X e (Dt X.K W (evT F c))
abbrev DA (X : Cx) (F : FE) (W : WX) (es : List Expr) (cs : List E) : Prop := PA X es (Da X.K W (evs F cs))
theorem de_var (i : Nat) {x : Str} (hN : X.N[i]? = some x := by rfl) (hv : Vis X.env.scope x := by first | exact Or.inl rfl | exact Or.inr (Or.inl rfl) | exact Or.inr (Or.inr rfl)) (hd : (x == ("__debug__" : Str)) = false := by decide)
    (hcd : (x == ("__classdict__" : Str)) = false := by decide) : DE X F W (.Name x pos) (.var i) := by
  refine pe_w (pe_var hN hv hd hcd) fun σ H Q ⟨m, s, r, w⟩ => ?_
  have key : ∀ (sv : SV) (ev : EV), s.env[i]? = some (some sv) → evE F (.var i) s = .ok ev s → (∀ v, SRel X.K m s.h.length H sv v → σ[i]? = some (some v) → EVRel X.K m s σ H ev v ∧ Fresh H ev v) → tVar i σ H Q := fun sv ev e1 e2 h => by
    obtain ⟨v, h1, h2⟩ := r.sl i _ e1
    obtain ⟨h3, h4⟩ := h v h2 h1
    have w := wp_eq (d := M.ret ev) w e2
    exact ⟨v, h1, w m H v r Ext.refl h3 h4⟩
  cases q : s.env[i]? with
  | none => exact (show False from wp_eq (d := M.no) w (by simp only [evE, ev2, q])).elim
  | some o =>
    cases o with
    | none => exact (show False from wp_eq (d := M.no) w (by simp only [evE, ev2, q])).elim
    | some sv =>
      cases sv with
      | pv p => exact key _ (.pv p) q (by simp only [evE, ev2, q]) fun v h1 h2 => ⟨h1, fun _ _ z => nomatch z⟩
      | own c => exact key _ (.bw i) q (by simp only [evE, ev2, q]) fun v h1 h2 => ⟨h2, fun _ _ z => nomatch z⟩
      | lk c => exact key _ (.bw i) q (by simp only [evE, ev2, q]) fun v h1 h2 => ⟨h2, fun _ _ z => nomatch z⟩
theorem de_con {p : PV} {v : V} {e : Expr} (h : PE X e (tC v)) (hv : ∀ m n H, VRel X.K m n H p v) : DE X F W e (.con p) :=
  pe_w h fun σ H Q ⟨m, s, r, w⟩ => w m H v r Ext.refl (hv _ _ _) fun _ _ z => nomatch z
theorem de_int {i : Int} {k : Nat} : DE X F W (.Constant (.int i) k pos) (.con (.int i)) := de_con pe_int fun _ _ _ => vi
theorem de_bl {i : Bool} {k : Nat} : DE X F W (.Constant (.bool i) k pos) (.con (.bl i)) := de_con pe_bl fun _ _ _ => vb
theorem de_non {k : Nat} : DE X F W (.Constant .none k pos) (.con .non) := de_con pe_non fun _ _ _ => vnon
theorem de_str {x : Str} {k : Nat} : DE X F W (.Constant (.str x) k pos) (.con (.str x)) := de_con pe_str fun _ _ _ => vstr
theorem de_glob {x : Str} {i : Int} {t : Tok} (hg : Gl X x) (hm : X.mg x = some (.int i t)) (hd : (x == ("__debug__" : Str)) = false := by decide) : DE X F W (.Name x pos) (.con (.int i)) := de_con (v := .int i) (pe_glob hg hm ⟨t, rfl⟩ hd) fun _ _ _ => vi
theorem de_bin {op : Operator} {p : Prim} {r : R2} (ho : OpR X (binaryOp op) r) (hp : PrS X.K p (b2 r)) (ha : DE X F W a ea) (hb : DE X F W b eb) : DE X F W (.BinOp a op b pos) (.prim p [ea, eb]) :=
  pe_w (pe_op ho ha hb) fun σ H Q h => De.mono (da_2 (de_prim hp h)) fun x H1 q => De.mono q fun y H2 ⟨x', y', e, q⟩ => by cases e; exact q
theorem de_cmp {op : CmpOp} {p : Prim} {r : R2} (ho : OpR X (compareOp op) r) (hp : PrS X.K p (b2 r)) (ha : DE X F W a ea) (hb : DE X F W b eb) (hm : behindInMarks op b = false) : DE X F W (.Compare a [op] [b] pos) (.prim p [ea, eb]) :=
  pe_w (pe_cmpR ho ha hb hm) fun σ H Q h => De.mono (da_2 (de_prim hp h)) fun x H1 q => De.mono q fun y H2 ⟨x', y', e, q⟩ => by cases e; exact q
theorem de_add (ha : DE X F W a ea) (hb : DE X F W b eb) : DE X F W (.BinOp a .Add b pos) (.prim .add [ea, eb]) := de_bin op_addA prs_add ha hb
theorem de_sub (ha : DE X F W a ea) (hb : DE X F W b eb) : DE X F W (.BinOp a .Sub b pos) (.prim .sub [ea, eb]) := de_bin op_sub prs_sub ha hb
theorem de_mul (ha : DE X F W a ea) (hb : DE X F W b eb) : DE X F W (.BinOp a .Mult b pos) (.prim .mul [ea, eb]) := de_bin op_mulA prs_mul ha hb
theorem de_repL (ha : DE X F W a ea) (hb : DE X F W b eb) : DE X F W (.BinOp a .Mult b pos) (.prim .repL [ea, eb]) := de_bin op_rep prs_repL ha hb
theorem de_fdiv (ha : DE X F W a ea) (hb : DE X F W b eb) : DE X F W (.BinOp a .FloorDiv b pos) (.prim .fdiv [ea, eb]) := de_bin op_fdivW prs_fdiv ha hb
theorem de_mod (ha : DE X F W a ea) (hb : DE X F W b eb) : DE X F W (.BinOp a .Mod b pos) (.prim .mod [ea, eb]) := de_bin op_mod prs_mod ha hb
theorem de_pow (ha : DE X F W a ea) (hb : DE X F W b eb) : DE X F W (.BinOp a .Pow b pos) (.prim .pow [ea, eb]) := de_bin op_pow prs_pow ha hb
theorem de_shl (ha : DE X F W a ea) (hb : DE X F W b eb) : DE X F W (.BinOp a .LShift b pos) (.prim .shl [ea, eb]) := de_bin op_shlW prs_shl ha hb
theorem de_shr (ha : DE X F W a ea) (hb : DE X F W b eb) : DE X F W (.BinOp a .RShift b pos) (.prim .shr [ea, eb]) := de_bin op_shr prs_shr ha hb
theorem de_band (ha : DE X F W a ea) (hb : DE X F W b eb) : DE X F W (.BinOp a .BitAnd b pos) (.prim .band [ea, eb]) := de_bin op_and prs_band ha hb
theorem de_bor (ha : DE X F W a ea) (hb : DE X F W b eb) : DE X F W (.BinOp a .BitOr b pos) (.prim .bor [ea, eb]) := de_bin op_or prs_bor ha hb
theorem de_lt (ha : DE X F W a ea) (hb : DE X F W b eb) : DE X F W (.Compare a [.Lt] [b] pos) (.prim .lt [ea, eb]) := de_cmp op_lt prs_lt ha hb (nomark _)
theorem de_le (ha : DE X F W a ea) (hb : DE X F W b eb) : DE X F W (.Compare a [.LtE] [b] pos) (.prim .le [ea, eb]) := de_cmp op_le prs_le ha hb (nomark _)
theorem de_gt (ha : DE X F W a ea) (hb : DE X F W b eb) : DE X F W (.Compare a [.Gt] [b] pos) (.prim .gt [ea, eb]) := de_cmp op_gt prs_gt ha hb (nomark _)
theorem de_ge (ha : DE X F W a ea) (hb : DE X F W b eb) : DE X F W (.Compare a [.GtE] [b] pos) (.prim .ge [ea, eb]) := de_cmp op_ge prs_ge ha hb (nomark _)
theorem de_eq (hu : X.A.units + 66 < cLine) (ha : DE X F W a ea) (hb : DE X F W b eb) : DE X F W (.Compare a [.Eq] [b] pos) (.prim .eq [ea, eb]) := de_cmp (op_eqD (by omega)) prs_eq ha hb (nomark _)
theorem de_ne (hu : X.A.units + 66 < cLine) (ha : DE X F W a ea) (hb : DE X F W b eb) : DE X F W (.Compare a [.NotEq] [b] pos) (.prim .ne [ea, eb]) := de_cmp (op_neD (by omega)) prs_ne ha hb (nomark _)
theorem de_inn (ha : DE X F W a ea) (hb : DE X F W b eb) (hm : behindInMarks .In b = false := by rfl) : DE X F W (.Compare a [.In] [b] pos) (.prim .inn [ea, eb]) := de_cmp op_in_seq prs_inn ha hb hm
theorem de_notin (ha : DE X F W a ea) (hb : DE X F W b eb) (hm : behindInMarks .NotIn b = false := by rfl) : DE X F W (.Compare a [.NotIn] [b] pos) (.prim .notin [ea, eb]) := de_cmp op_notIn_seq prs_notin ha hb hm
theorem de_innD (hu : X.A.units + 66 < cLine) (ha : DE X F W a ea) (hb : DE X F W b eb) (hm : behindInMarks .In b = false := by rfl) : DE X F W (.Compare a [.In] [b] pos) (.prim .innD [ea, eb]) :=
  pe_w (pe_cmp (pc_din (by omega) ha hb) hm) fun σ H Q h => De.mono (da_2 (de_prim prs_innD h)) fun x H1 q => De.mono q fun y H2 ⟨x', y', e, q⟩ => by cases e; exact q
theorem de_notinD (hu : X.A.units + 66 < cLine) (ha : DE X F W a ea) (hb : DE X F W b eb) (hm : behindInMarks .NotIn b = false := by rfl) : DE X F W (.Compare a [.NotIn] [b] pos) (.prim .notinD [ea, eb]) :=
  pe_w (pe_cmp (pc_dnotin (by omega) ha hb) hm) fun σ H Q h => De.mono (da_2 (de_prim prs_notinD h)) fun x H1 q => De.mono q fun y H2 ⟨x', y', e, q⟩ => by cases e; exact q
theorem de_isN {k : Nat} {p' : Pos} (ha : DE X F W a ea) : DE X F W (.Compare a [.Is] [.Constant .none k p'] pos) (.prim .isN [ea]) :=
  pe_w (pe_cmp (pc_isN ha) (nomark _)) fun σ H Q h => De.mono (da_1 (de_prim prs_isN h)) fun x H1 ⟨x', e, q⟩ => by cases e; exact q
theorem de_notN {k : Nat} {p' : Pos} (ha : DE X F W a ea) : DE X F W (.Compare a [.IsNot] [.Constant .none k p'] pos) (.prim .notN [ea]) :=
  pe_w (pe_cmp (pc_notN ha) (nomark _)) fun σ H Q h => De.mono (da_1 (de_prim prs_notN h)) fun x H1 ⟨x', e, q⟩ => by cases e; exact q
theorem de_neg (ha : DE X F W a ea) : DE X F W (.UnaryOp .USub a pos) (.prim .neg [ea]) :=
  pe_w (pe_un un_neg ha) fun σ H Q h => De.mono (da_1 (de_prim prs_neg h)) fun x H1 ⟨x', e, q⟩ => by cases e; exact q
theorem de_idx (ha : DE X F W a ea) (hb : DE X F W b eb) (hs : PlainIx b := by intro _ _; rfl) : DE X F W (.Subscript a b pos) (.prim .idx [ea, eb]) :=
  pe_w (pe_ix ix_seq ha hb hs) fun σ H Q h => De.mono (da_2 (de_prim prs_idx h)) fun x H1 q => De.mono q fun y H2 ⟨x', y', e, q⟩ => by cases e; exact q
theorem de_idxD (hu : X.A.units + 66 < cLine) (ha : DE X F W a ea) (hb : DE X F W b eb) (hs : NoSl b := by intro _ _; rfl) : DE X F W (.Subscript a b pos) (.prim .idxD [ea, eb]) :=
  pe_w (pe_dget (by omega) ha hb hs) fun σ H Q h => De.mono (da_2 (de_prim prs_idxD h)) fun x H1 q => De.mono q fun y H2 ⟨x', y', e, q⟩ => by cases e; exact q
theorem sl_AB {X : Cx} : SlR X (rSlB X.K) := sl_list.or sl_tupA
theorem de_slFF {p2 : Pos} (ha : DE X F W a ea) : DE X F W (.Subscript a (.Slice none none none p2) pos) (.prim (.slice false false) [ea]) :=
  pe_w (pe_slice sl_AB ha po_none po_none) fun σ H Q h => De.mono (da_1 (de_prim prs_slFF h)) fun x H1 ⟨x', e, q⟩ => by cases e; exact q
theorem de_chkI {σ : SSt} {H : Hp} {Q : VK} (h : De X.K W (evE F (.chkI ea)) σ H Q) : De X.K W (evE F ea) σ H fun x H1 => ∃ i, x = .int i ∧ Q (.int i) H1 := by
  obtain ⟨m, s, r, w⟩ := h
  simp only [evE, ev2] at w
  refine De.bind r w fun ev s1 m1 H1 v r1 x1 e1 f1 w1 => ?_
  cases q : optI s1 ev with
  | none => exact (show False from wp_eq (d := M.no) w1 (by simp only [intM, q])).elim
  | some i =>
    have w2 := wp_eq (d := M.ret (.pv (.int i))) w1 (by simp only [intM, q])
    exact ⟨i, optI_rel r1 e1 q, w2 m1 H1 (.int i) r1 x1 (by simp only [EVRel, VRel]) fun _ _ z => nomatch z⟩
theorem de_slTF {p2 : Pos} (ha : DE X F W a ea) (hb : DE X F W b eb) : DE X F W (.Subscript a (.Slice (some b) none none p2) pos) (.prim (.slice true false) [ea, .chkI eb]) :=
  pe_w (pe_slice sl_AB ha (po_some hb) po_none) fun σ H Q h => De.mono (da_2 (de_prim prs_slTF h)) fun x H1 q => De.mono (de_chkI q) fun y H2 ⟨i, e1, x', i', e, q⟩ => by cases e; exact ⟨i, e1, q⟩
theorem de_slFT {p2 : Pos} (ha : DE X F W a ea) (hb : DE X F W b eb) : DE X F W (.Subscript a (.Slice none (some b) none p2) pos) (.prim (.slice false true) [ea, .chkI eb]) :=
  pe_w (pe_slice sl_AB ha po_none (po_some hb)) fun σ H Q h => De.mono (da_2 (de_prim prs_slFT h)) fun x H1 q => De.mono (de_chkI q) fun y H2 ⟨i, e1, x', i', e, q⟩ => by cases e; exact ⟨i, e1, q⟩
theorem de_slTT {p2 : Pos} (ha : DE X F W a ea) (hb : DE X F W b eb) (hc : DE X F W c ec) : DE X F W (.Subscript a (.Slice (some b) (some c) none p2) pos) (.prim (.slice true true) [ea, .chkI eb, .chkI ec]) :=
  pe_w (pe_slice sl_AB ha (po_some hb) (po_some hc)) fun σ H Q h => De.mono (da_3 (de_prim prs_slTT h)) fun x H1 q => De.mono (de_chkI q) fun y H2 ⟨i, e1, q⟩ => ⟨i, e1, De.mono (de_chkI q) fun z H3 ⟨j, e2, x', i', j', e, q⟩ => by cases e; exact ⟨j, e2, q⟩⟩
theorem de_rev {k : Nat} {p1 p2 p3 : Pos} (ha : DE X F W a ea) : DE X F W (.Subscript a (.Slice none none (some (.UnaryOp .USub (.Constant (.int 1) k p1) p2)) p3) pos) (.prim .rev [ea]) :=
  pe_w (pe_revL ha) fun σ H Q h => De.mono (da_1 (de_prim prs_rev h)) fun x H1 ⟨x', e, q⟩ => by cases e; exact q
theorem da_nilR : DA X F W [] [] := pa_w pa_nil fun σ H Q h => da_nil h
theorem da_consR (ha : DE X F W a ea) (hr : DA X F W es cs) (hs : starEach (a :: es) X.env = (false, eval a X.env) :: starEach es X.env := by rfl) : DA X F W (a :: es) (ea :: cs) := pa_w (pa_cons ha hr hs) fun σ H Q h => da_cons h
theorem de_blt {id : String} {x : Str} {p : Pos} {q : Prim} {r : List V → Hp → VK → Prop} (hc : CallR X (.builtin id) r) (hq : PrS X.K q r) (hv : bootBuiltins x = some (.builtin id)) (hg : Gl X x) (hm : X.mg x = none) (ha : DA X F W (a :: es) cs)
    (hn : x ≠ "__name__" := by decide) (hdb : (x == ("__debug__" : Str)) = false := by decide) (he : starEach (a :: es) X.env = (false, eval a X.env) :: starEach es X.env := by rfl) (hpl : (backTo pos (starEach es X.env)).any (·.1) = false := by rfl) :
    DE X F W (.Call (.Name x p) (a :: es) [] pos) (.prim q cs) := pe_w (pe_callB hc hg hm hv ha hn hdb he hpl) fun σ H Q h => de_prim hq h
theorem de_ty {T : String} {x : Str} {p : Pos} {q : Prim} {r : List V → Hp → VK → Prop} (hc : CallR X (.type T) r) (hq : PrS X.K q r) (hv : bootBuiltins x = some (.type T)) (hg : Gl X x) (hm : X.mg x = none) (ha : DA X F W (a :: es) cs)
    (hn : x ≠ "__name__" := by decide) (hdb : (x == ("__debug__" : Str)) = false := by decide) (he : starEach (a :: es) X.env = (false, eval a X.env) :: starEach es X.env := by rfl) (hpl : (backTo pos (starEach es X.env)).any (·.1) = false := by rfl) :
    DE X F W (.Call (.Name x p) (a :: es) [] pos) (.prim q cs) := pe_w (pe_callTy hc hg hm hv ha hn hdb he hpl) fun σ H Q h => de_prim hq h
section
variable {p : Pos}
theorem bt_len : bootBuiltins "len" = some (.builtin "len") := by decide +kernel
theorem bt_sum : bootBuiltins "sum" = some (.builtin "sum") := by decide +kernel
theorem bt_all : bootBuiltins "all" = some (.builtin "all") := by decide +kernel
theorem bt_any : bootBuiltins "any" = some (.builtin "any") := by decide +kernel
theorem bt_sorted : bootBuiltins "sorted" = some (.builtin "sorted") := by decide +kernel
theorem bt_abs : bootBuiltins "abs" = some (.builtin "abs") := by decide +kernel
theorem bt_min : bootBuiltins "min" = some (.builtin "min") := by decide +kernel
theorem bt_max : bootBuiltins "max" = some (.builtin "max") := by decide +kernel
theorem bt_repr : bootBuiltins "repr" = some (.builtin "repr") := by decide +kernel
theorem bt_int : bootBuiltins "int" = some (.type "int") := by decide +kernel
theorem bt_tuple : bootBuiltins "tuple" = some (.type "tuple") := by decide +kernel
theorem bt_list : bootBuiltins "list" = some (.type "list") := by decide +kernel
theorem bt_dict : bootBuiltins "dict" = some (.type "dict") := by decide +kernel
theorem de_len (hg : Gl X "len") (hm : X.mg "len" = none) (ha : DA X F W (a :: es) cs) (he : starEach (a :: es) X.env = (false, eval a X.env) :: starEach es X.env := by rfl) (hpl : (backTo pos (starEach es X.env)).any (·.1) = false := by rfl) : DE X F W (.Call (.Name "len" p) (a :: es) [] pos) (.prim .len cs) := de_blt call_len_seq prs_len bt_len hg hm ha (by decide) (by decide) he hpl
theorem sum_tup {prog : Program} {w : World} {A : Around} {E : Value → Shared → Prop} {s : Shared} {l : Addr} {xs : Array (Int × Tok)} {Q : Value → Shared → Prop} (hh : A.handled = none) (hl : s.heap.IsTuple l (intItems xs))
    (h : ∀ h' tk t', (∀ b o, s.heap.get? b = some o → h'.get? b = some o) → Q (.int (preSum (numAt xs) xs.size) t') { s with heap := h', toks := tk }) :
    wpAny (model prog w) A (call (.builtin "sum") [.ref l]) Q E s := by
  have hlt : l < s.heap.objs.size := by obtain ⟨_, e, _⟩ := hl; exact Heap.lt_size e
  refine call_sum_walkG (wpAny_pyIter_tuple hl ?_)
  refine ⟨_, _, _, _, _, _, numAt xs, rfl, Walks.tuple (A := A.in1) hh s.heap.objs.size l (Nat.ne_of_lt hlt) (intItems xs), ⟨⟨_, Heap.get?_push_size _ rfl, rfl, rfl⟩, hl.push _⟩, fun c hc => ?_, (fun _ _ => intItems_at), fun h' tk t' hk => ?_⟩
  · show c < (s.heap.push _).objs.size
    rw [Heap.size_push]
    rcases List.mem_cons.mp hc with rfl | hc
    · exact Nat.lt_succ_self _
    · rcases List.mem_cons.mp hc with rfl | hc
      · exact Nat.lt_succ_of_lt hlt
      · cases hc
  · have := h h' tk t' fun b o e => hk b o (fun hm => by
      rcases List.mem_cons.mp hm with e1 | hm
      · exact absurd (e1 ▸ Heap.lt_size e) (Nat.lt_irrefl _)
      · cases hm) (Heap.get?_push_of_some _ e)
    simpa [intItems] using this
theorem cr_sum2 {X : Cx} (hc : X.calm = true) : CallR X (.builtin "sum") (rSum2 X.K) := by
  intro pins s σ H vs us Q I r h
  obtain ⟨a, ns, rfl, hs | hs, q⟩ := h
  · exact cr_sum hc pins s σ H _ us Q I r ⟨a, ns, rfl, hs, q⟩
  · obtain ⟨its, rv, hl, _⟩ := I.tuple hs
    rw [Vals.ref1 r]
    have hi := rv.ints
    obtain ⟨xs, e⟩ := hi.allInts.items
    have hn : numsOf (intItems xs).toList = ns := by rw [← e]; exact hi.numsOf
    rw [nums_intItems] at hn
    have hl : s.heap.IsTuple a its.toArray := hl
    rw [e] at hl
    refine sum_tup (I.ok.hd hc) hl fun h' tk t' hk => ?_
    rw [preSum_eq, List.take_of_length_le (by simp), hn]
    exact ⟨.int _, H, I.kept hk, ⟨_, rfl⟩, q⟩
theorem de_sum (hc : X.calm = true) (hg : Gl X "sum") (hm : X.mg "sum" = none) (ha : DA X F W (a :: es) cs) (he : starEach (a :: es) X.env = (false, eval a X.env) :: starEach es X.env := by rfl) (hpl : (backTo pos (starEach es X.env)).any (·.1) = false := by rfl) : DE X F W (.Call (.Name "sum" p) (a :: es) [] pos) (.prim .sum cs) := de_blt (cr_sum2 hc) prs_sum bt_sum hg hm ha (by decide) (by decide) he hpl
theorem de_all (hc : X.calm = true) (hg : Gl X "all") (hm : X.mg "all" = none) (ha : DA X F W (a :: es) cs) (he : starEach (a :: es) X.env = (false, eval a X.env) :: starEach es X.env := by rfl) (hpl : (backTo pos (starEach es X.env)).any (·.1) = false := by rfl) : DE X F W (.Call (.Name "all" p) (a :: es) [] pos) (.prim .all cs) := de_blt (cr_all hc) prs_all bt_all hg hm ha (by decide) (by decide) he hpl
theorem de_any (hc : X.calm = true) (hg : Gl X "any") (hm : X.mg "any" = none) (ha : DA X F W (a :: es) cs) (he : starEach (a :: es) X.env = (false, eval a X.env) :: starEach es X.env := by rfl) (hpl : (backTo pos (starEach es X.env)).any (·.1) = false := by rfl) : DE X F W (.Call (.Name "any" p) (a :: es) [] pos) (.prim .any cs) := de_blt (cr_any hc) prs_any bt_any hg hm ha (by decide) (by decide) he hpl
theorem de_sorted (hg : Gl X "sorted") (hm : X.mg "sorted" = none) (ha : DA X F W (a :: es) cs) (he : starEach (a :: es) X.env = (false, eval a X.env) :: starEach es X.env := by rfl) (hpl : (backTo pos (starEach es X.env)).any (·.1) = false := by rfl) : DE X F W (.Call (.Name "sorted" p) (a :: es) [] pos) (.prim .sorted cs) := de_blt cr_sortB prs_sorted bt_sorted hg hm ha (by decide) (by decide) he hpl
theorem de_abs (hg : Gl X "abs") (hm : X.mg "abs" = none) (ha : DA X F W (a :: es) cs) (he : starEach (a :: es) X.env = (false, eval a X.env) :: starEach es X.env := by rfl) (hpl : (backTo pos (starEach es X.env)).any (·.1) = false := by rfl) : DE X F W (.Call (.Name "abs" p) (a :: es) [] pos) (.prim .abs cs) := de_blt call_abs prs_abs bt_abs hg hm ha (by decide) (by decide) he hpl
theorem de_sortIt {apos cpos : Pos} (hc : X.calm = true) (hg : Gl X "sorted") (hm : X.mg "sorted" = none) (ha : DE X F W a ea) (hbase : attributeBase a "items" X.env (eval a X.env) = eval a X.env := by rfl) (hline : (apos.endLine == cpos.line) = true := by rfl)
    (he : starEach [.Call (.Attribute a "items" apos) [] [] cpos] X.env = (false, eval (.Call (.Attribute a "items" apos) [] [] cpos) X.env) :: starEach [] X.env := by rfl) (hpl : (backTo pos (starEach [] X.env)).any (·.1) = false := by rfl) :
    DE X F W (.Call (.Name "sorted" p) [.Call (.Attribute a "items" apos) [] [] cpos] [] pos) (.prim .sortIt [ea]) :=
  pe_w (pe_callB (cr_sortIK hc) hg hm bt_sorted (pa_cons (pe_items ha hbase hline) pa_nil he) (by decide) (by decide) he hpl) fun σ H Q h => De.mono (da_1 (de_prim prs_sortIt h)) fun x H1 ⟨x', e, d, kvs, zs, e2, hd, hk, q⟩ => by
    cases e
    subst e2
    refine ⟨d, kvs, rfl, hd, fun p hp => ⟨p, d, kvs, zs, rfl, upd_same, hd.imp (fun e => upd_grow hp _ _ e) (fun ⟨o, e⟩ => ⟨o, upd_grow hp _ _ e⟩), hk, fun H' l ys us g => q H' l ys us fun b o e => g b o (upd_grow hp _ _ e)⟩⟩
theorem de_min2 (hc : X.calm = true) (hg : Gl X "min") (hm : X.mg "min" = none) (ha : DA X F W (a :: es) cs) (he : starEach (a :: es) X.env = (false, eval a X.env) :: starEach es X.env := by rfl) (hpl : (backTo pos (starEach es X.env)).any (·.1) = false := by rfl) : DE X F W (.Call (.Name "min" p) (a :: es) [] pos) (.prim .min2 cs) := de_blt (call_min2 hc) prs_min2 bt_min hg hm ha (by decide) (by decide) he hpl
theorem de_max2 (hc : X.calm = true) (hg : Gl X "max") (hm : X.mg "max" = none) (ha : DA X F W (a :: es) cs) (he : starEach (a :: es) X.env = (false, eval a X.env) :: starEach es X.env := by rfl) (hpl : (backTo pos (starEach es X.env)).any (·.1) = false := by rfl) : DE X F W (.Call (.Name "max" p) (a :: es) [] pos) (.prim .max2 cs) := de_blt (call_max2 hc) prs_max2 bt_max hg hm ha (by decide) (by decide) he hpl
theorem de_minL (hc : X.calm = true) (hg : Gl X "min") (hm : X.mg "min" = none) (ha : DA X F W (a :: es) cs) (he : starEach (a :: es) X.env = (false, eval a X.env) :: starEach es X.env := by rfl) (hpl : (backTo pos (starEach es X.env)).any (·.1) = false := by rfl) : DE X F W (.Call (.Name "min" p) (a :: es) [] pos) (.prim .minL cs) := de_blt (cr_min hc) prs_minL bt_min hg hm ha (by decide) (by decide) he hpl
theorem de_maxL (hc : X.calm = true) (hg : Gl X "max") (hm : X.mg "max" = none) (ha : DA X F W (a :: es) cs) (he : starEach (a :: es) X.env = (false, eval a X.env) :: starEach es X.env := by rfl) (hpl : (backTo pos (starEach es X.env)).any (·.1) = false := by rfl) : DE X F W (.Call (.Name "max" p) (a :: es) [] pos) (.prim .maxL cs) := de_blt (cr_max hc) prs_maxL bt_max hg hm ha (by decide) (by decide) he hpl
theorem de_repr (hgd : X.A.guards = some []) (hu : X.A.units + 66 < cLine) (hg : Gl X "repr") (hm : X.mg "repr" = none) (ha : DA X F W (a :: es) cs) (he : starEach (a :: es) X.env = (false, eval a X.env) :: starEach es X.env := by rfl) (hpl : (backTo pos (starEach es X.env)).any (·.1) = false := by rfl) : DE X F W (.Call (.Name "repr" p) (a :: es) [] pos) (.prim .repr cs) := de_blt (call_reprD hgd hu) prs_repr bt_repr hg hm ha (by decide) (by decide) he hpl
theorem de_toInt (hg : Gl X "int") (hm : X.mg "int" = none) (ha : DA X F W (a :: es) cs) (he : starEach (a :: es) X.env = (false, eval a X.env) :: starEach es X.env := by rfl) (hpl : (backTo pos (starEach es X.env)).any (·.1) = false := by rfl) : DE X F W (.Call (.Name "int" p) (a :: es) [] pos) (.prim .int cs) := de_ty call_int1 prs_toInt bt_int hg hm ha (by decide) (by decide) he hpl
theorem de_tuple (hg : Gl X "tuple") (hm : X.mg "tuple" = none) (ha : DA X F W (a :: es) cs) (he : starEach (a :: es) X.env = (false, eval a X.env) :: starEach es X.env := by rfl) (hpl : (backTo pos (starEach es X.env)).any (·.1) = false := by rfl) : DE X F W (.Call (.Name "tuple" p) (a :: es) [] pos) (.prim .tuple cs) := de_ty call_tuple_of prs_tuple bt_tuple hg hm ha (by decide) (by decide) he hpl
theorem de_list (hg : Gl X "list") (hm : X.mg "list" = none) (ha : DA X F W (a :: es) cs) (he : starEach (a :: es) X.env = (false, eval a X.env) :: starEach es X.env := by rfl) (hpl : (backTo pos (starEach es X.env)).any (·.1) = false := by rfl) : DE X F W (.Call (.Name "list" p) (a :: es) [] pos) (.prim .list cs) := de_ty call_list_of prs_list bt_list hg hm ha (by decide) (by decide) he hpl
theorem de_dictL (hc : X.calm = true) (hg : Gl X "dict") (hm : X.mg "dict" = none) (ha : DA X F W (a :: es) cs) (he : starEach (a :: es) X.env = (false, eval a X.env) :: starEach es X.env := by rfl) (hpl : (backTo pos (starEach es X.env)).any (·.1) = false := by rfl) : DE X F W (.Call (.Name "dict" p) (a :: es) [] pos) (.prim .dictL cs) := de_ty (call_dictP hc) prs_dictL bt_dict hg hm ha (by decide) (by decide) he hpl
theorem de_lrg1 {p2 pos2 : Pos} {a : Expr} {ea : E} (hc : X.calm = true) (hg : Gl X "list") (hm : X.mg "list" = none) (hg2 : Gl X "range") (hm2 : X.mg "range" = none) (ha : DE X F W a ea) (na : starEach [a] X.env = (false, eval a X.env) :: starEach [] X.env := by rfl) (na2 : starEach [.Call (.Name "range" p2) [a] [] pos2] X.env = (false, eval (.Call (.Name "range" p2) [a] [] pos2) X.env) :: starEach [] X.env := by rfl) :
    DE X F W (.Call (.Name "list" p) [.Call (.Name "range" p2) [a] [] pos2] [] pos) (.prim .lrg1 [ea]) :=
  pe_w (pe_listRg hc hg hm (prg_1 hg2 hm2 ha na) na2) fun σ H Q h => De.mono (da_1 (de_prim prs_lrg1 h)) fun x H1 ⟨j, e, q⟩ => by cases e; exact ⟨j, rfl, q⟩
theorem de_trg1 {p2 pos2 : Pos} {a : Expr} {ea : E} (hc : X.calm = true) (hg : Gl X "tuple") (hm : X.mg "tuple" = none) (hg2 : Gl X "range") (hm2 : X.mg "range" = none) (ha : DE X F W a ea) (na : starEach [a] X.env = (false, eval a X.env) :: starEach [] X.env := by rfl) (na2 : starEach [.Call (.Name "range" p2) [a] [] pos2] X.env = (false, eval (.Call (.Name "range" p2) [a] [] pos2) X.env) :: starEach [] X.env := by rfl) :
    DE X F W (.Call (.Name "tuple" p) [.Call (.Name "range" p2) [a] [] pos2] [] pos) (.prim .trg1 [ea]) :=
  pe_w (pe_tupRg hc hg hm (prg_1 hg2 hm2 ha na) na2) fun σ H Q h => De.mono (da_1 (de_prim prs_trg1 h)) fun x H1 ⟨j, e, q⟩ => by cases e; exact ⟨j, rfl, q⟩
theorem de_lrg2 {p2 pos2 : Pos} {a b : Expr} {ea eb : E} (hc : X.calm = true) (hg : Gl X "list") (hm : X.mg "list" = none) (hg2 : Gl X "range") (hm2 : X.mg "range" = none) (ha : DE X F W a ea) (hb : DE X F W b eb) (na : starEach [a, b] X.env = (false, eval a X.env) :: starEach [b] X.env := by rfl) (nb : starEach [b] X.env = (false, eval b X.env) :: starEach [] X.env := by rfl) (hpb : (backTo pos2 (starEach [b] X.env)).any (·.1) = false := by rfl) (na2 : starEach [.Call (.Name "range" p2) [a, b] [] pos2] X.env = (false, eval (.Call (.Name "range" p2) [a, b] [] pos2) X.env) :: starEach [] X.env := by rfl) :
    DE X F W (.Call (.Name "list" p) [.Call (.Name "range" p2) [a, b] [] pos2] [] pos) (.prim .lrg2 [ea, eb]) :=
  pe_w (pe_listRg hc hg hm (prg_2 hg2 hm2 ha hb na nb hpb) na2) fun σ H Q h => De.mono (da_2 (de_prim prs_lrg2 h)) fun x H1 q => De.mono q fun y H2 ⟨i, j, e, q2⟩ => by cases e; exact ⟨i, j, rfl, rfl, q2⟩
theorem de_trg2 {p2 pos2 : Pos} {a b : Expr} {ea eb : E} (hc : X.calm = true) (hg : Gl X "tuple") (hm : X.mg "tuple" = none) (hg2 : Gl X "range") (hm2 : X.mg "range" = none) (ha : DE X F W a ea) (hb : DE X F W b eb) (na : starEach [a, b] X.env = (false, eval a X.env) :: starEach [b] X.env := by rfl) (nb : starEach [b] X.env = (false, eval b X.env) :: starEach [] X.env := by rfl) (hpb : (backTo pos2 (starEach [b] X.env)).any (·.1) = false := by rfl) (na2 : starEach [.Call (.Name "range" p2) [a, b] [] pos2] X.env = (false, eval (.Call (.Name "range" p2) [a, b] [] pos2) X.env) :: starEach [] X.env := by rfl) :
    DE X F W (.Call (.Name "tuple" p) [.Call (.Name "range" p2) [a, b] [] pos2] [] pos) (.prim .trg2 [ea, eb]) :=
  pe_w (pe_tupRg hc hg hm (prg_2 hg2 hm2 ha hb na nb hpb) na2) fun σ H Q h => De.mono (da_2 (de_prim prs_trg2 h)) fun x H1 q => De.mono q fun y H2 ⟨i, j, e, q2⟩ => by cases e; exact ⟨i, j, rfl, rfl, q2⟩
end
theorem de_mkTup {k : Nat} (h : DA X F W es cs) : DE X F W (.Tuple es k pos) (.prim .mkTup cs) := pe_w (pe_tup h) fun σ H Q h => de_prim prs_mkTup h
theorem de_mkLst (h : DA X F W es cs) : DE X F W (.List es pos) (.prim .mkLst cs) := pe_w (pe_lst h) fun σ H Q h => de_prim prs_mkLst h
theorem de_mkDctE : DE X F W (.Dict [] [] pos) (.prim (.mkDct []) []) := pe_w pe_dnewK fun σ H Q h => de_mkDct0 h
theorem dpps_nil : PPs X pos [] [] (dpairs X.K F W [] []) := pps_nil
theorem dpps_cons {k v : Expr} {ks : List (Option Expr)} {vs : List Expr} {key : Key} {keys : List Key} (hk : PE X k (tC (kV key))) (hv : DE X F W v ea) (hr : PPs X pos ks vs (dpairs X.K F W keys cs)) :
    PPs X pos (some k :: ks) (v :: vs) (dpairs X.K F W (key :: keys) (ea :: cs)) := pps_cons hk hv hr
theorem de_mkDct' {ks : List (Option Expr)} {vs : List Expr} {keys : List Key} (h : PPs X pos ks vs (dpairs X.K F W keys cs)) (hkc : keys.length = cs.length := by rfl) (hall : ks.all (·.isSome) = true := by rfl) (hl : ks.length = vs.length := by rfl) (h0 : ks ≠ [] := by exact fun z => nomatch z) (h15 : ks.length ≤ 15 := by decide) :
    DE X F W (.Dict ks vs pos) (.prim (.mkDct keys) cs) := pe_w (pe_disp h hall hl h0 h15) fun σ H Q h => de_mkDct hkc h
theorem kind_lst {p : Prim} {σ : SSt} {H : Hp} {m : Nat → Addr} {s : DS} {v : V} {e : EV} {R : Unit → DS → Prop} {Y : EX → DS → Prop} (hp : p = .append ∨ p = .pop ∨ p = .popAt ∨ p = .insert ∨ p = .extend) (r : Rel X.K m s σ H) (h : EVRel X.K m s σ H e v) (w : wp (kindM p e) s R Y) : tyV X.K "list" v H ∧ R () s := by
  cases q : coOf s e with
  | none => exact (show False from wp_eq (d := M.no) w (by rcases hp with rfl | rfl | rfl | rfl | rfl <;> simp only [kindM, q])).elim
  | some c =>
    cases c with
    | dct _ => exact (show False from wp_eq (d := M.no) w (by rcases hp with rfl | rfl | rfl | rfl | rfl <;> simp only [kindM, q])).elim
    | lst xs =>
      obtain ⟨a, vs, rfl, e1, _⟩ := coOf_rel r h q
      exact ⟨.inl ⟨rfl, vs, e1⟩, wp_eq (d := M.ret ()) w (by rcases hp with rfl | rfl | rfl | rfl | rfl <;> simp only [kindM, q])⟩
theorem de_meth {p : Prim} {r : List V → Hp → VK → Prop} {σ : SSt} {H : Hp} {Q : VK} {ty : V → Hp → Prop} (hp : PrS X.K p r) (hk : ∀ {σ : SSt} {H : Hp} {m : Nat → Addr} {s : DS} {v : V} {e : EV} {R : Unit → DS → Prop} {Y : EX → DS → Prop}, Rel X.K m s σ H → EVRel X.K m s σ H e v → wp (kindM p e) s R Y → ty v H ∧ R () s)
    (h : De X.K W (evE F (.meth p ea cs)) σ H Q) : De X.K W (evE F ea) σ H fun x H1 => ty x H1 ∧ Da X.K W (evs F cs) σ H1 fun vs H2 => r (x :: vs) H2 Q := by
  obtain ⟨m, s, r0, w⟩ := h
  simp only [evE, ev2] at w
  refine De.bind r0 w fun ev s1 m1 H1 v r1 x1 e1 f1 w1 => ?_
  obtain ⟨h1, w1⟩ := hk r1 e1 (wp_bnd.mp w1)
  refine ⟨h1, m1, s1, r1, wp_mono (wp_bnd.mp w1) (fun es' s2 w2 m2 H2 vs r2 x2 e2 f2 => ?_) fun x s2 z => z.step x1⟩
  have ev2 : EVsRel X.K m2 s2 σ H2 (ev :: es') (v :: vs) := ⟨v, vs, rfl, e1.step r1 x2, fun c a z z2 q => (by
    subst z z2
    obtain ⟨b, z, q2, _⟩ := e1
    cases z
    obtain ⟨o, ho, _⟩ := q2.kind
    rw [f2 _ q] at ho
    cases ho), e2⟩
  refine hp m2 s2 σ H2 _ _ Q _ r2 ev2 (wp_mono w2 (fun e s' ok => OkP.of ok (x1.trans x2) fun a q => ?_) fun _ _ z => z)
  rcases q with ⟨⟨c, z⟩, z2⟩ | q
  · exact f1 c a z z2
  · exact x1.dom a (f2 a q)
theorem lst_meth {id : String} {name : Str} {p : Prim} {r : V → List V → Hp → VK → Prop} {apos : Pos} (hp4 : p = .append ∨ p = .pop ∨ p = .popAt ∨ p = .insert ∨ p = .extend) (hp : PrS X.K p (bm r)) (slot : Slot "list" name id) (hty : typeOf (.builtin id) = pure (.type "method_descriptor")) (hm : MtR X id r) (ho : DE X F W a ea) (ha : DA X F W (b :: es) cs)
    (hbase : attributeBase a name X.env (eval a X.env) = eval a X.env)
    (hfew : ((backTo pos (starEach (b :: es) X.env)).all (fun x => !x.1) && (backToKw pos (keywordEach [] X.env)).all (fun x => x.1.isSome)
      && decide ((b :: es).length + ([] : List Keyword).length + (if ([] : List Keyword).isEmpty then 0 else 1) < 30)) = true)
    (hline : (apos.endLine == pos.line) = true) (hs : starEach (b :: es) X.env = (false, eval b X.env) :: starEach es X.env) (hplain : (backTo pos (starEach es X.env)).any (·.1) = false) :
    DE X F W (.Call (.Attribute a name apos) (b :: es) [] pos) (.meth p ea cs) :=
  pe_w (pe_bm PySem.F.plainAttrs_list slot hty hm ho ha hbase hfew hline hs hplain) fun σ H Q h => De.mono (de_meth hp (kind_lst hp4) h) fun x H1 ⟨t, q⟩ => ⟨t, Da.mono q fun vs H2 ⟨x', t', e, q⟩ => by cases e; exact q⟩
theorem de_append {apos : Pos} (ho : DE X F W a ea) (ha : DA X F W [b] cs) (hbase : attributeBase a "append" X.env (eval a X.env) = eval a X.env := by rfl)
    (hfew : ((backTo pos (starEach [b] X.env)).all (fun x => !x.1) && (backToKw pos (keywordEach [] X.env)).all (fun x => x.1.isSome)
      && decide (([b] : List Expr).length + ([] : List Keyword).length + (if ([] : List Keyword).isEmpty then 0 else 1) < 30)) = true := by rfl)
    (hline : (apos.endLine == pos.line) = true := by rfl) (hs : starEach [b] X.env = (false, eval b X.env) :: starEach [] X.env := by rfl) (hplain : (backTo pos (starEach [] X.env)).any (·.1) = false := by rfl) :
    DE X F W (.Call (.Attribute a "append" apos) [b] [] pos) (.meth .append ea cs) := lst_meth (.inl rfl) prs_append PySem.F.slot_list_append PySem.F.type_list_append mt_append ho ha hbase hfew hline hs hplain
theorem de_popAt {apos : Pos} (ho : DE X F W a ea) (ha : DA X F W [b] cs) (hbase : attributeBase a "pop" X.env (eval a X.env) = eval a X.env := by rfl)
    (hfew : ((backTo pos (starEach [b] X.env)).all (fun x => !x.1) && (backToKw pos (keywordEach [] X.env)).all (fun x => x.1.isSome)
      && decide (([b] : List Expr).length + ([] : List Keyword).length + (if ([] : List Keyword).isEmpty then 0 else 1) < 30)) = true := by rfl)
    (hline : (apos.endLine == pos.line) = true := by rfl) (hs : starEach [b] X.env = (false, eval b X.env) :: starEach [] X.env := by rfl) (hplain : (backTo pos (starEach [] X.env)).any (·.1) = false := by rfl) :
    DE X F W (.Call (.Attribute a "pop" apos) [b] [] pos) (.meth .popAt ea cs) := lst_meth (.inr (.inr (.inl rfl))) prs_popAt PySem.F.slot_list_pop PySem.F.type_list_pop mt_popAt ho ha hbase hfew hline hs hplain
theorem de_extend {apos : Pos} (ho : DE X F W a ea) (ha : DA X F W [b] cs) (hbase : attributeBase a "extend" X.env (eval a X.env) = eval a X.env := by rfl)
    (hfew : ((backTo pos (starEach [b] X.env)).all (fun x => !x.1) && (backToKw pos (keywordEach [] X.env)).all (fun x => x.1.isSome)
      && decide (([b] : List Expr).length + ([] : List Keyword).length + (if ([] : List Keyword).isEmpty then 0 else 1) < 30)) = true := by rfl)
    (hline : (apos.endLine == pos.line) = true := by rfl) (hs : starEach [b] X.env = (false, eval b X.env) :: starEach [] X.env := by rfl) (hplain : (backTo pos (starEach [] X.env)).any (·.1) = false := by rfl) :
    DE X F W (.Call (.Attribute a "extend" apos) [b] [] pos) (.meth .extend ea cs) := lst_meth (.inr (.inr (.inr (.inr rfl)))) prs_extend PySem.F.slot_list_extend PySem.F.type_list_extend mt_extend ho ha hbase hfew hline hs hplain
theorem de_insert {apos : Pos} (ho : DE X F W a ea) (ha : DA X F W [b, c] cs) (hbase : attributeBase a "insert" X.env (eval a X.env) = eval a X.env := by rfl)
    (hfew : ((backTo pos (starEach [b, c] X.env)).all (fun x => !x.1) && (backToKw pos (keywordEach [] X.env)).all (fun x => x.1.isSome)
      && decide (([b, c] : List Expr).length + ([] : List Keyword).length + (if ([] : List Keyword).isEmpty then 0 else 1) < 30)) = true := by rfl)
    (hline : (apos.endLine == pos.line) = true := by rfl) (hs : starEach [b, c] X.env = (false, eval b X.env) :: starEach [c] X.env := by rfl) (hplain : (backTo pos (starEach [c] X.env)).any (·.1) = false := by rfl) :
    DE X F W (.Call (.Attribute a "insert" apos) [b, c] [] pos) (.meth .insert ea cs) := lst_meth (.inr (.inr (.inr (.inl rfl)))) prs_insert PySem.F.slot_list_insert PySem.F.type_list_insert mt_insert ho ha hbase hfew hline hs hplain
theorem de_pop {apos : Pos} (ho : DE X F W a ea) (hbase : attributeBase a "pop" X.env (eval a X.env) = eval a X.env := by rfl) (hline : (apos.endLine == pos.line) = true := by rfl) :
    DE X F W (.Call (.Attribute a "pop" apos) [] [] pos) (.meth .pop ea []) :=
  pe_w (pe_bm0 PySem.F.plainAttrs_list PySem.F.slot_list_pop PySem.F.type_list_pop mt_pop ho hbase hline) fun σ H Q h => De.mono (de_meth prs_pop (kind_lst (.inr (.inl rfl))) h) fun x H1 ⟨t, q⟩ => ⟨t, (da_nil q).elim fun x' z => z.elim fun t' z => by
    obtain ⟨e, q⟩ := z; cases e; exact q⟩
theorem kind_dct {p : Prim} {σ : SSt} {H : Hp} {m : Nat → Addr} {s : DS} {v : V} {e : EV} {R : Unit → DS → Prop} {Y : EX → DS → Prop} (hp : p = .get1 ∨ p = .get2) (r : Rel X.K m s σ H) (h : EVRel X.K m s σ H e v) (w : wp (kindM p e) s R Y) : (∃ a, v = .ref a ∧ IsD H a) ∧ R () s := by
  cases q : coOf s e with
  | none => exact (show False from wp_eq (d := M.no) w (by rcases hp with rfl | rfl <;> simp only [kindM, q])).elim
  | some c =>
    cases c with
    | lst _ => exact (show False from wp_eq (d := M.no) w (by rcases hp with rfl | rfl <;> simp only [kindM, q])).elim
    | dct xs =>
      obtain ⟨a, vs, rfl, e1, _⟩ := coOf_rel r h q
      exact ⟨⟨a, rfl, .inl ⟨vs, e1⟩⟩, wp_eq (d := M.ret ()) w (by rcases hp with rfl | rfl <;> simp only [kindM, q])⟩
theorem de_get1 {apos : Pos} (hu : X.A.units + 66 < cLine) (ho : DE X F W a ea) (hb : DE X F W b eb) (m : M1 X a "get" apos b pos := by exact ⟨rfl, rfl, rfl, rfl⟩) : DE X F W (.Call (.Attribute a "get" apos) [b] [] pos) (.meth .get1 ea [eb]) :=
  pe_w (pe_dget1 (by omega) ho hb m) fun σ H Q h => De.mono (de_meth prs_get1 (kind_dct (.inl rfl)) h) fun x H1 ⟨⟨p, e, d⟩, q⟩ => by
    subst e
    exact ⟨p, rfl, d, De.mono (da_1 q) fun y H2 ⟨x', y', e, p', o, e2, g, q⟩ => by cases e; cases e2; exact ⟨o, g, q⟩⟩
theorem de_get2 {apos : Pos} (hu : X.A.units + 66 < cLine) (ho : DE X F W a ea) (hb : DE X F W b eb) (hc : DE X F W c ec) (m : M2 X a "get" apos b c pos := by exact ⟨rfl, rfl, rfl, rfl⟩) : DE X F W (.Call (.Attribute a "get" apos) [b, c] [] pos) (.meth .get2 ea [eb, ec]) :=
  pe_w (pe_dget2 (by omega) ho hb hc m) fun σ H Q h => De.mono (de_meth prs_get2 (kind_dct (.inr rfl)) h) fun x H1 ⟨⟨p, e, d⟩, q⟩ => by
    subst e
    exact ⟨p, rfl, d, De.mono (da_2 q) fun y H2 q => De.mono q fun z H3 ⟨x', y', z', e, p', o, e2, g, q⟩ => by cases e; cases e2; exact ⟨o, g, q⟩⟩
theorem dt_val (ha : DE X F W a ea) (he : ∀ whole, isTrue a X.env whole = (do let v ← whole; standAt a.pos; holding [v] (truthy v)) := by intro _; rfl)
    (h2 : evT F ea = M.bnd (evE F ea) truthF := by rfl) : DT X F W a ea := by
  refine pt_w (pt_truth ha he) fun σ H Q ⟨m, s, r, w⟩ => ?_
  rw [h2] at w
  exact De.bind r w fun e s1 m1 H1 v r1 x1 e1 f1 w1 => tru_rel r1 e1 w1 fun b ok => ok m1 H1 r1 x1
theorem dt_var {i : Nat} (ha : DE X F W a (.var i)) (he : ∀ whole, isTrue a X.env whole = (do let v ← whole; standAt a.pos; holding [v] (truthy v)) := by intro _; rfl) : DT X F W a (.var i) :=
  dt_val ha he (by
    funext s
    simp only [evT, evE, ev2, M.bnd]
    cases s.env[i]? with
    | none => rfl
    | some o => cases o with
      | none => rfl
      | some sv => cases sv <;> rfl)
theorem dt_cmp {op : CmpOp} {ec : E} (h : DE X F W (.Compare a [op] [b] pos) ec) (hm : behindInMarks op b = false) (h2 : evT F ec = M.bnd (evE F ec) truthF := by rfl)
    (hT : ∀ {σ H Q}, De X.K W (evE F ec) σ H Q → True := by intros; trivial) (he : ∀ whole, isTrue (.Compare a [op] [b] pos) X.env whole = (do let v ← whole; standAt pos; holding [v] (truthy v)) := by intro _; rfl) : DT X F W (.Compare a [op] [b] pos) ec := dt_val h he h2
theorem dt_not (ha : DT X F W a ea) : DT X F W (.UnaryOp .Not a pos) (.notE ea) := by
  refine pt_w (pt_not ha) fun σ H Q ⟨m, s, r, w⟩ => ?_
  simp only [evT, ev2] at w
  exact Dt.bind r w fun b s1 m1 H1 r1 x1 w1 => w1 m1 H1 r1 x1
theorem dw_1 {op : PySem.BoolOp} (ha : DT X F W a ea) : PW X (.BoolOp op [a] pos) (Dt X.K W (evT F ea)) := by
  cases op
  · exact pw_and1 ha
  · exact pw_or1 ha
theorem dw_and {rest : List Expr} (ha : DT X F W a ea) (hb : PW X (.BoolOp .And (b :: rest) pos) (Dt X.K W (evT F eb))) : PW X (.BoolOp .And (a :: b :: rest) pos) (Dt X.K W (evT F (.andE ea eb))) := by
  refine pw_w (pw_and ha hb) fun σ H Q ⟨m, s, r, w⟩ => ?_
  simp only [evT, ev2] at w
  refine Dt.bind r w fun c s1 m1 H1 r1 x1 w1 => ?_
  cases c with
  | true => exact iteT ⟨m1, s1, r1, wp_mono w1 (fun b s2 ok m2 H2 r2 x2 => ok m2 H2 r2 (x1.trans x2)) fun x s2 z => z.step x1⟩
  | false => exact iteF (w1 m1 H1 r1 x1)
theorem dw_or {rest : List Expr} (ha : DT X F W a ea) (hb : PW X (.BoolOp .Or (b :: rest) pos) (Dt X.K W (evT F eb))) : PW X (.BoolOp .Or (a :: b :: rest) pos) (Dt X.K W (evT F (.orE ea eb))) := by
  refine pw_w (pw_or ha hb) fun σ H Q ⟨m, s, r, w⟩ => ?_
  simp only [evT, ev2] at w
  refine Dt.bind r w fun c s1 m1 H1 r1 x1 w1 => ?_
  cases c with
  | true => exact iteT (w1 m1 H1 r1 x1)
  | false => exact iteF ⟨m1, s1, r1, wp_mono w1 (fun b s2 ok m2 H2 r2 x2 => ok m2 H2 r2 (x1.trans x2)) fun x s2 z => z.step x1⟩
theorem dt_bool {op : PySem.BoolOp} {rest : List Expr} (h : PW X (.BoolOp op rest pos) (Dt X.K W (evT F ea))) : DT X F W (.BoolOp op rest pos) ea := h.pt
theorem bool_rel {σ : SSt} {H : Hp} {m : Nat → Addr} {s : DS} {v : V} {e : EV} {R : Bool → DS → Prop} {Y : EX → DS → Prop} (r : Rel X.K m s σ H) (h : EVRel X.K m s σ H e v) (w : wp (boolF e) s R Y) : ∃ c, v = .bl c ∧ R c s := by
  cases q : pvOf s e with
  | none => exact (show False from wp_eq (d := M.no) w (by simp only [boolF, q])).elim
  | some p =>
    cases p with
    | bl c => exact ⟨c, vr_bl (pvOf_rel r h q), wp_eq (d := M.ret c) w (by simp only [boolF, q])⟩
    | _ => exact (show False from wp_eq (d := M.no) w (by simp only [boolF, q])).elim
theorem OkE.step {σ : SSt} {H H1 : Hp} {m m1 : Nat → Addr} {s s1 s2 : DS} {e : EV} {Q : VK} (h : OkE X.K m s σ H Q e s2) (x : Ext NoT m s σ H m1 s1 σ H1) : OkE X.K m1 s1 σ H1 Q e s2 := fun m2 H2 v r2 x2 e2 f2 => h m2 H2 v r2 (x.trans x2) e2 fun c a z z2 => x.dom a (f2 c a z z2)
theorem de_one {op : PySem.BoolOp} (ha : DE X F W a ea) : DE X F W (.BoolOp op [a] pos) ea := pe_one ha
theorem de_and {rest : List Expr} (ha : DE X F W a ea) (hb : DE X F W (.BoolOp .And (b :: rest) pos) eb) : DE X F W (.BoolOp .And (a :: b :: rest) pos) (.andE ea eb) := by
  refine pe_w (pe_and ha hb) fun σ H Q ⟨m, s, r, w⟩ => ?_
  simp only [evE, ev2] at w
  refine De.bind r w fun ev s1 m1 H1 v r1 x1 e1 f1 w1 => ?_
  obtain ⟨c, rfl, w1⟩ := bool_rel r1 e1 (wp_bnd.mp w1)
  refine ⟨c, rfl, ?_⟩
  cases c with
  | true => exact iteT ⟨m1, s1, r1, wp_mono w1 (fun b s2 ok => ok.step x1) fun x s2 z => z.step x1⟩
  | false => exact iteF (w1 m1 H1 (.bl false) r1 x1 (by simp only [EVRel, VRel]) fun _ _ z => nomatch z)
theorem de_or {rest : List Expr} (ha : DE X F W a ea) (hb : DE X F W (.BoolOp .Or (b :: rest) pos) eb) : DE X F W (.BoolOp .Or (a :: b :: rest) pos) (.orE ea eb) := by
  refine pe_w (pe_or ha hb) fun σ H Q ⟨m, s, r, w⟩ => ?_
  simp only [evE, ev2] at w
  refine De.bind r w fun ev s1 m1 H1 v r1 x1 e1 f1 w1 => ?_
  obtain ⟨c, rfl, w1⟩ := bool_rel r1 e1 (wp_bnd.mp w1)
  refine ⟨c, rfl, ?_⟩
  cases c with
  | true => exact iteT (w1 m1 H1 (.bl true) r1 x1 (by simp only [EVRel, VRel]) fun _ _ z => nomatch z)
  | false => exact iteF ⟨m1, s1, r1, wp_mono w1 (fun b s2 ok => ok.step x1) fun x s2 z => z.step x1⟩
theorem de_not (ha : DE X F W a ea) : DE X F W (.UnaryOp .Not a pos) (.notE ea) := by
  refine pe_w (pe_not ha) fun σ H Q ⟨m, s, r, w⟩ => ?_
  simp only [evE, ev2] at w
  refine De.bind r w fun ev s1 m1 H1 v r1 x1 e1 f1 w1 => ?_
  obtain ⟨c, rfl, w1⟩ := bool_rel r1 e1 (wp_bnd.mp w1)
  exact ⟨c, rfl, w1 m1 H1 (.bl (!c)) r1 x1 (by simp only [EVRel, VRel]) fun _ _ z => nomatch z⟩
theorem de_iff (hc : DT X F W c ec) (ha : DE X F W a ea) (hb : DE X F W b eb) : DE X F W (.IfExp c a b pos) (.iff ec ea eb) := by
  refine pe_w (pe_ifExp hc ha hb) fun σ H Q ⟨m, s, r, w⟩ => ?_
  simp only [evE, ev2] at w
  refine Dt.bind r w fun d s1 m1 H1 r1 x1 w1 => ?_
  cases d with
  | true => exact iteT ⟨m1, s1, r1, wp_mono w1 (fun b s2 ok => ok.step x1) fun x s2 z => z.step x1⟩
  | false => exact iteF ⟨m1, s1, r1, wp_mono w1 (fun b s2 ok => ok.step x1) fun x s2 z => z.step x1⟩
end
end DV
namespace DV
open PySem PySem.Spec PyProof.Rows L2
section
variable {K : Fg} {F : FE} {W : WX} {m m' : Nat → Addr} {s s' : DS} {σ σ' : SSt} {H H' : Hp} {T : Addr → Prop} {Q : VK} {X : EX → DS → Prop}
def evOf : SV → EV
  | .pv p => .pv p
  | .own c => .tmp c
  | .lk c => .tmp c
def noLk : SV → Prop
  | .lk _ => False
  | _ => True
theorem toSV_ok {e : EV} {v : V} {RR : SV → DS → Prop} (r : Rel K m s σ H) (h : EVRel K m s σ H e v) (w : wp (toSV e) s RR X) :
    ∃ x s1 m1, Rel K m1 s1 σ H ∧ Ext (TmpAt [e] [v]) m s σ H m1 s1 σ H ∧ EVRel K m1 s1 σ H (evOf x) v ∧ noLk x ∧ (∀ c, x = .own c → (∃ d, e = .tmp d) ∧ s1 = s ∧ m1 = m) ∧ RR x s1 := by
  have viaBox : (∀ c, e ≠ .tmp c) → wp (M.bnd (box e) fun v => M.ret (.pv v)) s RR X → ∃ x s1 m1, Rel K m1 s1 σ H ∧ Ext (TmpAt [e] [v]) m s σ H m1 s1 σ H ∧ EVRel K m1 s1 σ H (evOf x) v ∧ noLk x ∧ (∀ c, x = .own c → (∃ d, e = .tmp d) ∧ s1 = s ∧ m1 = m) ∧ RR x s1 := fun _ w => by
    obtain ⟨p, s1, q1, w⟩ := wp_box (wp_bnd.mp w)
    obtain ⟨m1, r1, x1, v1⟩ := box_ok r h q1
    exact ⟨.pv p, s1, m1, r1, x1, v1, trivial, fun c z => (nomatch z), w⟩
  cases e with
  | pv p => exact viaBox (fun c z => nomatch z) w
  | bw i => exact viaBox (fun c z => nomatch z) w
  | tmp c => exact ⟨.own c, s, m, r, Ext.toT Ext.refl, h, trivial, fun _ _ => ⟨⟨c, rfl⟩, rfl, rfl⟩, w⟩
theorem toSVs_ok : ∀ {es : List EV} {vs : List V} {m : Nat → Addr} {s : DS} {RR : List SV → DS → Prop}, Rel K m s σ H → EVsRel K m s σ H es vs → wp (toSVs es) s RR X →
    ∃ xs s1 m1, Rel K m1 s1 σ H ∧ Ext (TmpAt es vs) m s σ H m1 s1 σ H ∧ EVsRel K m1 s1 σ H (xs.map evOf) vs ∧ (∀ x ∈ xs, noLk x) ∧ (∀ a, TmpAt (xs.map evOf) vs a → TmpAt es vs a) ∧ RR xs s1
  | [], vs, m, s, RR, r, h, w => by
    cases h
    exact ⟨[], s, m, r, Ext.toT Ext.refl, rfl, fun x hx => (nomatch hx), fun a z => z, w⟩
  | e :: es, vs, m, s, RR, r, h, w => by
    obtain ⟨v, t, rfl, h1, h2, h3⟩ := h
    simp only [toSVs] at w
    obtain ⟨x, s1, m1, r1, x1, e1, nl, hx, w⟩ := toSV_ok r h1 (wp_bnd.mp w)
    have hT : ∀ a, TmpAt [e] [v] a → ∃ o, H a = some o ∧ OKind o := fun a z => tmpAt_some (show EVsRel K m s σ H [e] [v] from ⟨v, [], rfl, h1, fun _ _ _ _ z => z.elim, rfl⟩) z
    have h3' := h3.stepT r x1 hT (fun a z z2 => by
      obtain ⟨⟨c, z3⟩, z4⟩ := tmp_one.mp z2
      exact h2 c a z3 z4 z)
    obtain ⟨xs, s2, m2, r2, x2, e2, nl2, ht, w2⟩ := toSVs_ok r1 h3' (wp_bnd.mp w)
    have hT2 : ∀ a, TmpAt es t a → ∃ o, H a = some o ∧ OKind o := fun a z => tmpAt_some h3 z
    have one : ∀ a, TmpAt [evOf x] [v] a → TmpAt [e] [v] a := fun a z => by
      obtain ⟨⟨c, z1⟩, z2⟩ := tmp_one.mp z
      cases x with
      | pv p => cases z1
      | own c' => obtain ⟨d, _, _⟩ := hx c' rfl; exact tmp_one.mpr ⟨d, z2⟩
      | lk c' => exact nl.elim
    refine ⟨x :: xs, s2, m2, r2, (x1.then' x2).weak fun a z => ?_, ⟨v, t, rfl, e1.stepT r1 x2 hT2 (fun c a z z2 z3 => ?_), fun c a z z2 z3 => ?_, e2⟩, ?_, fun a z => ?_, w2⟩
    · rcases z with z | z
      · obtain ⟨z3, z4⟩ := tmp_one.mp z
        exact .inl ⟨z3, z4⟩
      · exact .inr z
    · obtain ⟨⟨d, z4⟩, _⟩ := tmp_one.mp (one a (tmp_one.mpr ⟨⟨c, z⟩, z2⟩))
      exact h2 d a z4 z2 z3
    · obtain ⟨⟨d, z4⟩, _⟩ := tmp_one.mp (one a (tmp_one.mpr ⟨⟨c, z⟩, z2⟩))
      exact h2 d a z4 z2 (ht a z3)
    · intro y hy
      rcases List.mem_cons.mp hy with rfl | hy
      · exact nl
      · exact nl2 y hy
    · rcases z with ⟨z1, z2⟩ | z
      · obtain ⟨z3, z4⟩ := tmp_one.mp (one a (tmp_one.mpr ⟨z1, z2⟩))
        exact .inl ⟨z3, z4⟩
      · exact .inr (ht a z)
def setAll (σ : SSt) : List Nat → List V → SSt
  | i :: is, v :: vs => setAll (σ.set i (some v)) is vs
  | _, _ => σ
theorem srel_of {x : SV} {v : V} (h : EVRel K m s σ H (evOf x) v) (nl : noLk x) : SRel K m s.h.length H x v := by
  cases x with
  | pv p => exact h
  | own c => obtain ⟨a, e, q, _⟩ := h; exact ⟨a, e, q⟩
  | lk c => exact nl.elim
theorem wp_putSlot {i : Nat} {x : SV} {RR : Unit → DS → Prop} (w : wp (putSlot i x) s RR X) : ∃ y, s.env[i]? = some y ∧ (∀ c, y ≠ some (.lk c)) ∧ RR () { s with env := s.env.set i (some x) } := by
  cases q : s.env[i]? with
  | none => exact (show False from wp_eq (d := M.no) w (by simp only [putSlot, q])).elim
  | some y =>
    cases y with
    | none => exact ⟨none, rfl, fun _ z => (nomatch z), by have := wp_eq (d := fun s => .ok () { s with env := s.env.set i (some x) }) w (by simp only [putSlot, q]); exact this⟩
    | some y =>
      cases y with
      | lk c => exact (show False from wp_eq (d := M.no) w (by simp only [putSlot, q])).elim
      | pv p => exact ⟨_, rfl, fun _ z => (nomatch z), by have := wp_eq (d := fun s => .ok () { s with env := s.env.set i (some x) }) w (by simp only [putSlot, q]); exact this⟩
      | own p => exact ⟨_, rfl, fun _ z => (nomatch z), by have := wp_eq (d := fun s => .ok () { s with env := s.env.set i (some x) }) w (by simp only [putSlot, q]); exact this⟩
theorem EVRel.move {x : SV} {v : V} {s' : DS} {σ' : SSt} (h : EVRel K m s σ H (evOf x) v) (hh : s'.h = s.h) (hn : ∀ a, v = .ref a → (∃ c, evOf x = .tmp c) → Own m s' σ' a → Own m s σ a) : EVRel K m s' σ' H (evOf x) v := by
  cases x with
  | pv p => show VRel K m s'.h.length H p v; rw [hh]; exact h
  | own c => obtain ⟨a, e, q, no⟩ := h; exact ⟨a, e, by rw [hh]; exact q, fun z => no (hn a e ⟨c, rfl⟩ z)⟩
  | lk c => obtain ⟨a, e, q, no⟩ := h; exact ⟨a, e, by rw [hh]; exact q, fun z => no (hn a e ⟨c, rfl⟩ z)⟩
theorem putSVs_ok : ∀ {is : List Nat} {xs : List SV} {vs : List V} {s : DS} {σ : SSt} {RR : Unit → DS → Prop}, Rel K m s σ H → EVsRel K m s σ H (xs.map evOf) vs → (∀ x ∈ xs, noLk x) → wp (putSVs is xs) s RR X →
    ∃ s1, Rel K m s1 (setAll σ is vs) H ∧ Ext (TmpAt (xs.map evOf) vs) m s σ H m s1 (setAll σ is vs) H ∧ is.length = vs.length ∧ s1.h = s.h ∧ RR () s1
  | [], [], vs, s, σ, RR, r, h, _, w => by cases h; exact ⟨s, r, Ext.toT Ext.refl, rfl, rfl, w⟩
  | [], x :: xs, _, _, _, _, _, _, _, w => (show False from w).elim
  | i :: is, [], _, _, _, _, _, _, _, w => (show False from w).elim
  | i :: is, x :: xs, vs, s, σ, RR, r, h, nl, w => by
    obtain ⟨v, t, rfl, h1, h2, h3⟩ := h
    simp only [putSVs] at w
    obtain ⟨y, hy, ny, w⟩ := wp_putSlot (wp_bnd.mp w)
    have nlx := nl x List.mem_cons_self
    obtain ⟨r1, x1⟩ := put_ok (T := TmpAt [evOf x] [v]) r hy ny (srel_of h1 nlx) (fun c a z z2 => by
      subst z z2
      obtain ⟨b, z, _, no⟩ := h1
      cases z
      exact no) (fun c z => by subst z; exact nlx) (fun c a z z2 => by subst z; exact tmp_one.mpr ⟨⟨c, rfl⟩, z2⟩)
    have own1 : ∀ a, Own m { s with env := s.env.set i (some x) } (σ.set i (some v)) a → TmpAt (xs.map evOf) t a → Own m s σ a := fun a z z2 => by
      rcases x1.ow a z with z3 | z3 | z3
      · exact z3
      · obtain ⟨⟨c, z4⟩, z5⟩ := tmp_one.mp z3
        exact (h2 c a z4 z5 z2).elim
      · obtain ⟨o, ho, _⟩ := tmpAt_some h3 z2
        rw [ho] at z3; cases z3
    have h3' : ∀ {ys : List SV} {us : List V}, EVsRel K m s σ H (ys.map evOf) us → (∀ a, TmpAt (ys.map evOf) us a → TmpAt (xs.map evOf) t a) → EVsRel K m { s with env := s.env.set i (some x) } (σ.set i (some v)) H (ys.map evOf) us := fun {ys} => by
      induction ys with
      | nil => intro us h _; exact h
      | cons z ys ih =>
        intro us h hs
        obtain ⟨u, us', rfl, q1, q2, q3⟩ := h
        refine ⟨u, us', rfl, q1.move rfl (fun a e1 e2 o => own1 a o (hs a (.inl ⟨e2, e1⟩))), q2, ih q3 fun a z => hs a (.inr z)⟩
    obtain ⟨s2, r2, x2, hl, hh, w2⟩ := putSVs_ok r1 (h3' h3 fun _ z => z) (fun y hy => nl y (List.mem_cons_of_mem _ hy)) w
    refine ⟨s2, r2, (x1.then' x2).weak fun a z => ?_, by simp [hl], hh, w2⟩
    rcases z with z | z
    · obtain ⟨z3, z4⟩ := tmp_one.mp z
      exact .inl ⟨z3, z4⟩
    · exact .inr z
theorem putSlots_SVs {is : List Nat} {ps : List PV} : putSlots is ps = putSVs is (ps.map .pv) := by
  induction is generalizing ps with
  | nil => cases ps <;> rfl
  | cons i is ih =>
    cases ps with
    | nil => rfl
    | cons p ps =>
      simp only [putSlots, List.map_cons, putSVs]
      rw [ih]
theorem evs_pv {ps : List PV} {vs : List V} (h : VsRel K m s.h.length H ps vs) : EVsRel K m s σ H ((ps.map SV.pv).map evOf) vs := by
  induction ps generalizing vs with
  | nil => simp only [VsRel] at h; exact h
  | cons p ps ih =>
    simp only [VsRel] at h
    obtain ⟨v, r, rfl, h1, h2⟩ := h
    exact ⟨v, r, rfl, h1, fun c a z => (nomatch z), ih h2⟩
theorem tmp_pv {ps : List PV} {vs : List V} {a : Addr} (h : TmpAt ((ps.map SV.pv).map evOf) vs a) : False := by
  induction ps generalizing vs with
  | nil => exact h
  | cons p ps ih =>
    cases vs with
    | nil => exact h
    | cons v vs =>
      rcases h with ⟨⟨c, z⟩, _⟩ | h
      · cases z
      · exact ih h
theorem putSlots_ok {is : List Nat} {ps : List PV} {vs : List V} {RR : Unit → DS → Prop} (r : Rel K m s σ H) (h : VsRel K m s.h.length H ps vs) (w : wp (putSlots is ps) s RR X) :
    ∃ s1, Rel K m s1 (setAll σ is vs) H ∧ Ext NoT m s σ H m s1 (setAll σ is vs) H ∧ is.length = vs.length ∧ s1.h = s.h ∧ RR () s1 := by
  rw [putSlots_SVs] at w
  obtain ⟨s1, r1, x1, h1, h2, w⟩ := putSVs_ok r (evs_pv h) (fun x hx => by
    obtain ⟨p, _, rfl⟩ := List.mem_map.mp hx
    trivial) w
  exact ⟨s1, r1, x1.weak fun a z => tmp_pv z, h1, h2, w⟩
end
def gNames : List Nat → TGs
  | [] => gNil
  | i :: is => gCons (gName i) (gNames is)
theorem gNames_run : ∀ {is : List Nat} {vs : List V} {σ : SSt} {H : Hp} {Q : SSt → Hp → Prop}, is.length = vs.length → Q (setAll σ is vs) H → gNames is vs σ H Q
  | [], vs, σ, H, Q, hl, h => by
    have : vs = [] := List.eq_nil_of_length_eq_zero hl.symm
    subst this
    exact ⟨rfl, h⟩
  | i :: is, [], _, _, _, hl, _ => by cases hl
  | i :: is, v :: vs, σ, H, Q, hl, h => ⟨v, vs, rfl, gNames_run (by simpa using hl) h⟩
section
variable {X : Cx} {F : FE} {W : WX} {a b c : Expr} {ea eb ec : E} {es : List Expr} {cs : List E} {pos : Pos} {st : Stmt} {sts : List Stmt} {d : S} {ds : List S}
abbrev DSt (X : Cx) (F : FE) (W : WX) (e : Stmt) (c : S) : Prop := PS X e (Ds X.K W (evS F c))
abbrev DSs (X : Cx) (F : FE) (W : WX) (es : List Stmt) (cs : List S) : Prop := PSs X es (Ds X.K W (evSs F cs))
variable {K : Fg} {m m' : Nat → Addr} {s s' : DS} {σ σ' : SSt} {H H' : Hp} {T : Addr → Prop} {D : Ends}
theorem OkS.step {f : Fl} {m1 : Nat → Addr} {s1 : DS} {σ1 : SSt} {H1 : Hp} (h : OkS K m s σ H D f s') (x : Ext NoT m s σ H m1 s1 σ1 H1) : OkS K m1 s1 σ1 H1 D f s' := fun m' σ' H' r y => by
  have q := h m' σ' H' r (x.trans y)
  cases f with
  | nx => exact q
  | bk => exact q
  | ct => exact q
  | rt e => exact fun v z f1 => q v z fun c a e1 e2 => x.dom a (f1 c a e1 e2)
theorem OkS.nx (h : OkS K m s σ H D .nx s') (r : Rel K m' s' σ' H') (x : Ext NoT m s σ H m' s' σ' H') : D.nx σ' H' := h m' σ' H' r x
theorem dss_nil : DSs X F W [] [] := pss_w pss_nil fun D σ H ⟨m, s, r, w⟩ => by
  simp only [evSs] at w
  exact w m σ H r Ext.refl
theorem dss_cons (h1 : DSt X F W st d) (h2 : DSs X F W sts ds) : DSs X F W (st :: sts) (d :: ds) := by
  refine pss_w (pss_cons h1 h2) fun D σ H ⟨m, s, r, w⟩ => ?_
  simp only [evSs] at w
  refine ⟨m, s, r, wp_mono (wp_bnd.mp w) (fun f s1 w1 m1 σ1 H1 r1 x1 => ?_) fun _ _ z => z⟩
  cases f with
  | nx => exact ⟨m1, s1, r1, wp_mono w1 (fun f s2 ok => ok.step x1) fun x s2 z => z.step x1⟩
  | bk => exact w1 m1 σ1 H1 r1 x1
  | ct => exact w1 m1 σ1 H1 r1 x1
  | rt e => exact w1 m1 σ1 H1 r1 x1
theorem ds_pass : DSt X F W (.Pass pos) .pass := ps_w ps_pass fun D σ H ⟨m, s, r, w⟩ => w m σ H r Ext.refl
theorem ds_brk : DSt X F W (.Break pos) .brk := ps_w ps_break fun D σ H ⟨m, s, r, w⟩ => w m σ H r Ext.refl
theorem ds_cont : DSt X F W (.Continue pos) .cont := ps_w ps_continue fun D σ H ⟨m, s, r, w⟩ => w m σ H r Ext.refl
theorem ds_expr (ha : DE X F W a ea) (hs : swapsWith a none pos.line X.env = pure false := by rfl) : DSt X F W (.Expr a pos) (.expr ea) := ps_w (ps_expr ha hs) fun D σ H ⟨m, s, r, w⟩ => by
  simp only [evS] at w
  exact De.bind r w fun e s1 m1 H1 v r1 x1 e1 f1 w1 => w1 m1 σ H1 r1 x1
theorem ds_ret (ha : DE X F W a ea) : DSt X F W (.Return (some a) pos) (.ret ea) := ps_w (ps_ret ha) fun D σ H ⟨m, s, r, w⟩ => by
  simp only [evS] at w
  exact De.bind r w fun e s1 m1 H1 v r1 x1 e1 f1 w1 => w1 m1 σ H1 r1 x1 v e1 f1
theorem ds_retN : DSt X F W (.Return none pos) .retN := ps_w ps_retN fun D σ H ⟨m, s, r, w⟩ => w m σ H r Ext.refl .non (by simp only [EVRel, VRel]) fun _ _ z => nomatch z
theorem ds_ite {sa sb : List Stmt} {da db : List S} (hc : DT X F W c ec) (ha : DSs X F W sa da) (hb : DSs X F W sb db) : DSt X F W (.If c sa sb pos) (.ite ec da db) := ps_w (ps_if hc ha hb) fun D σ H ⟨m, s, r, w⟩ => by
  simp only [evS] at w
  refine Dt.bind r w fun b s1 m1 H1 r1 x1 w1 => ?_
  cases b with
  | true => exact iteT ⟨m1, s1, r1, wp_mono w1 (fun f s2 ok => ok.step x1) fun x s2 z => z.step x1⟩
  | false => exact iteF ⟨m1, s1, r1, wp_mono w1 (fun f s2 ok => ok.step x1) fun x s2 z => z.step x1⟩
theorem asg_core {i : Nat} (h : Ds X.K W (evS F (.asg i ea)) D σ H) : De X.K W (evE F ea) σ H fun x H1 => gName i x σ H1 D.nx := by
  obtain ⟨m, s, r, w⟩ := h
  simp only [evS] at w
  refine De.bind r w fun e s1 m1 H1 v r1 x1 e1 f1 w1 => ?_
  obtain ⟨x, s2, m2, r2, x2, e2, nl, _, w2⟩ := toSV_ok r1 e1 (wp_bnd.mp w1)
  have w3 : wp (putSVs [i] [x]) s2 (fun _ s' => OkS X.K m s σ H D .nx s') (ExW X.K W m s σ H) := by
    simp only [putSVs]
    exact wp_bnd.mpr (wp_mono (wp_bnd.mp w2) (fun _ _ z => z) fun _ _ z => z)
  obtain ⟨s3, r3, x3, _, _, w4⟩ := putSVs_ok r2 (show EVsRel X.K m2 s2 σ H1 ([x].map evOf) [v] from ⟨v, [], rfl, e2, fun _ _ _ _ z => z.elim, rfl⟩) (fun y hy => by
    have : y = x := by simpa using hy
    rw [this]; exact nl) w3
  have ht : ∀ a, TmpAt [e] [v] a ∨ TmpAt ([x].map evOf) [v] a → H a = none := fun a z => by
    have key : v = .ref a → (∃ c, e = .tmp c) → H a = none := fun z1 ⟨c, z2⟩ => f1 c a z2 z1
    rcases z with z | z
    · obtain ⟨z1, z2⟩ := tmp_one.mp z
      exact key z2 z1
    · obtain ⟨⟨c, z1⟩, z2⟩ := tmp_one.mp z
      cases x with
      | pv p => cases z1
      | lk c => exact nl.elim
      | own c =>
        have := ‹∀ c_1, SV.own c = SV.own c_1 → _› c rfl
        exact key z2 this.1
  exact w4 m2 _ H1 r3 (x1.transT (x2.then' x3) ht)
theorem ds_asg {i : Nat} {x : Str} {p' : Pos} (ha : DE X F W a ea) (hN : X.N.Nodup) (hi : X.N[i]? = some x := by rfl) (hx : Loc X.env.scope x := by first | exact .inl rfl | exact .inr rfl) (hs : swapsWith a (some (.Name x p')) pos.line X.env = pure false := by rfl) (hf : X.fn x = true ∨ X.env.scope.names.lookup x = some .local := by first | exact .inl rfl | exact .inr rfl) :
    DSt X F W (.Assign [.Name x p'] a pos) (.asg i ea) := ps_w (ps_set hN hi hx ha hs hf) fun D σ H h => asg_core h
end
end DV
namespace DV
open PySem PySem.Spec PyProof.Rows L2
section
variable {X : Cx} {F : FE} {W : WX} {a b c : Expr} {ea eb ec : E} {es : List Expr} {cs : List E} {pos : Pos} {st : Stmt} {sts : List Stmt} {d : S} {ds : List S}
variable {K : Fg} {m m' : Nat → Addr} {s s' : DS} {σ σ' : SSt} {H H' : Hp} {T : Addr → Prop} {D : Ends}
theorem par_core {is : List Nat} (h : Ds X.K W (evS F (.par is cs)) D σ H) : Da X.K W (evs F cs) σ H fun vs H1 => is.length = vs.length ∧ ∀ H2, (∀ a o, H1 a = some o → H2 a = some o) → D.nx (setAll σ is vs) H2 := by
  obtain ⟨m, s, r, w⟩ := h
  simp only [evS] at w
  refine Da.bind r w fun es' s1 m1 H1 vs r1 x1 e1 f1 w1 => ?_
  obtain ⟨xs, s2, m2, r2, x2, e2, nl, ht, w2⟩ := toSVs_ok r1 e1 (wp_bnd.mp w1)
  obtain ⟨s3, r3, x3, hl, _, w4⟩ := putSVs_ok r2 e2 nl (wp_bnd.mp w2)
  refine ⟨hl, fun H2 g => w4 m2 _ H2 (r3.grow g) ((x1.transT (x2.then' x3) fun a z => ?_).trans (Ext.grow g))⟩
  rcases z with z | z
  · exact f1 a z
  · exact f1 a (ht a z)
theorem ds_par2 {i j : Nat} {x y : Str} {px py pt : Pos} {kt k2 pt2} (ha : DA X F W [a, b] cs) (hc : X.calm = true) (hN : X.N.Nodup) (hi : X.N[i]? = some x := by rfl) (hj : X.N[j]? = some y := by rfl) (hij : i ≠ j := by decide)
    (hx : X.env.scope.names.lookup x = some .local := by rfl) (hy : X.env.scope.names.lookup y = some .local := by rfl)
    (hw : swappedStores [.Tuple [.Name x px, .Name y py] kt pt] (.Tuple [a, b] k2 pt2) X.env = pure (some [x, y]) := by rfl)
    (hs : swapsWithSole [.Tuple [.Name x px, .Name y py] kt pt] (.Tuple [a, b] k2 pt2) pos.line X.env = pure false := by rfl) :
    DSt X F W (.Assign [.Tuple [.Name x px, .Name y py] kt pt] (.Tuple [a, b] k2 pt2) pos) (.par [i, j] cs) :=
  ps_w (ps_par hc hN hi hj hij hx hy ha hw hs) fun D σ H h => Da.mono (par_core h) fun vs H1 ⟨hl, q⟩ => by
    match vs, hl with
    | [v, w], _ => exact ⟨v, w, rfl, q H1 fun _ _ e => e⟩
theorem ds_par3 {i j l : Nat} {x y z : Str} {px py pz pt : Pos} {kt k2 pt2} (ha : DA X F W [a, b, c] cs) (hc : X.calm = true) (hN : X.N.Nodup) (hi : X.N[i]? = some x := by rfl) (hj : X.N[j]? = some y := by rfl) (hl : X.N[l]? = some z := by rfl) (hij : i ≠ j := by decide) (hil : i ≠ l := by decide) (hjl : j ≠ l := by decide)
    (hx : X.env.scope.names.lookup x = some .local := by rfl) (hy : X.env.scope.names.lookup y = some .local := by rfl) (hz : X.env.scope.names.lookup z = some .local := by rfl)
    (hw : swappedStores [.Tuple [.Name x px, .Name y py, .Name z pz] kt pt] (.Tuple [a, b, c] k2 pt2) X.env = pure (some [x, y, z]) := by rfl)
    (hs : swapsWithSole [.Tuple [.Name x px, .Name y py, .Name z pz] kt pt] (.Tuple [a, b, c] k2 pt2) pos.line X.env = pure false := by rfl) :
    DSt X F W (.Assign [.Tuple [.Name x px, .Name y py, .Name z pz] kt pt] (.Tuple [a, b, c] k2 pt2) pos) (.par [i, j, l] cs) :=
  ps_w (ps_par3 hc hN hi hj hl hij hil hjl hx hy hz ha hw hs) fun D σ H h => Da.mono (par_core h) fun vs H1 ⟨hl, q⟩ => by
    match vs, hl with
    | [v, w, u], _ => exact ⟨v, w, u, rfl, q H1 fun _ _ e => e⟩
theorem ds_parT {is : List Nat} {ts : List Expr} {kt : Nat} {pt : Pos} {k2 pt2} (ha : DA X F W es cs) (hc : X.calm = true) (hg : PGs X ts (gNames is)) (hn : (assignEach ts X.env).length = is.length := by rfl) (hst : (assignEach ts X.env).findIdx? (·.1) = none := by rfl)
    (hs : swapsWithSole [.Tuple ts kt pt] (.Tuple es k2 pt2) pos.line X.env = pure false := by rfl) (hw : swappedStores [.Tuple ts kt pt] (.Tuple es k2 pt2) X.env = pure none := by rfl)
    (h1 : (assignEach [.Tuple ts kt pt] X.env).map (·.2) = [assign (.Tuple ts kt pt) X.env] := by rfl) (hz : is.length ≤ 100 := by decide) :
    DSt X F W (.Assign [.Tuple ts kt pt] (.Tuple es k2 pt2) pos) (.par is cs) :=
  ps_w (ps_asg (pe_tup ha) (pg_tup hc hg hn hst) hs hw h1) fun D σ H h => Da.mono (par_core h) fun vs H1 ⟨hl, q⟩ => by
    refine ⟨?_, fun p hp => ⟨p, vs, rfl, SqT.of upd_same, hl.symm, gNames_run hl (q _ (upd_grow hp))⟩⟩
    rw [← hl, sizeLine_eq]
    omega
theorem pgs_nilN : PGs X [] (gNames []) := pgs_nil
theorem pgs_consN {i : Nat} {is : List Nat} {x : Str} {p' : Pos} {ts : List Expr} (hr : PGs X ts (gNames is)) (hN : X.N.Nodup) (hi : X.N[i]? = some x := by rfl) (hx : Loc X.env.scope x := by first | exact .inl rfl | exact .inr rfl)
    (hf : X.fn x = true ∨ X.env.scope.names.lookup x = some .local := by first | exact .inl rfl | exact .inr rfl) (hs : (assignEach (.Name x p' :: ts) X.env).map (·.2) = assign (.Name x p') X.env :: (assignEach ts X.env).map (·.2) := by rfl) : PGs X (.Name x p' :: ts) (gNames (i :: is)) := pgs_cons (pg_name hN hi hx hf) hr hs
def gSeq (K : Fg) (n : Nat) (t : TGs) : TG := fun v σ H Q => ∃ a xs, v = .ref a ∧ (SqT K H a xs ∨ SqL K H a xs) ∧ xs.length = n ∧ t xs σ H Q
section
variable {prog : Program} {w : World} {A : Around} {E : Value → Shared → Prop}
theorem draw_lst {l it : Addr} {its : Array Value} (ne : l ≠ it) : ∀ (n i : Nat) (s : Shared) (Q : List Value → Shared → Prop), s.heap.IsListIter it l i → s.heap.IsList l its → i + n ≤ its.size →
    (∀ h', h'.IsListIter it l (i + n) → Heap.SameBut it s.heap h' → Q ((its.toList.drop i).take n) { s with heap := h' }) → wpAny (model prog w) A (draw (.ref it) n) Q E s
  | 0, i, s, Q, h1, h2, h3, k => by
    unfold draw
    exact wpAny_pure (k s.heap h1 (Heap.SameBut.refl ..))
  | n + 1, i, s, Q, h1, h2, h3, k => by
    have lt : i < its.size := by omega
    unfold draw
    refine wpAny_bind (wpAny_pyNext_list_item h1 h2 (x := its[i]) (by simp [lt]) fun hA eA sA => ?_)
    have h2A : hA.IsList l its := let ⟨o, ho, r⟩ := h2; ⟨o, (sA.2 _ ne).trans ho, r⟩
    refine wpAny_bind (wpAny_holding (draw_lst ne n (i + 1) { s with heap := hA } _ eA h2A (by omega) fun hB eB sB => wpAny_pure ?_))
    have ed : its.toList.drop i = its[i] :: its.toList.drop (i + 1) := by simp [List.drop_eq_getElem_cons, lt]
    have z := k hB (by rw [show i + (n + 1) = i + 1 + n by omega]; exact eB) (sA.trans sB)
    rw [ed, List.take_succ_cons] at z
    exact z
theorem unp_lst {s : Shared} {l : Addr} {its : Array Value} {Q : List Value → Shared → Prop} (hh : A.handled = none) (hl : s.heap.IsList l its) (k : ∀ h', Heap.ExtBut s.heap.objs.size s.heap h' → Q its.toList { s with heap := h' }) :
    wpAny (model prog w) A (unpackItems (.ref l) its.size none) Q E s := by
  have ne : l ≠ s.heap.objs.size := by obtain ⟨o, ho, _⟩ := hl; exact Nat.ne_of_lt (Heap.lt_size ho)
  have hl2 : ∀ o, (s.heap.push o).IsList l its := fun o => let ⟨ob, ho, r⟩ := hl; ⟨ob, Heap.get?_push_of_some _ ho, r⟩
  unfold unpackItems
  refine wpAny_bind ?_
  unfold notIterableAtAll
  refine wpAny_bind (wpAny_specialOf hl.typeIs slot_list_iter.lookup ?_)
  refine wpAny_pure ?_
  simp only [Bool.false_eq_true, if_false]
  refine wpAny_bind (wpAny_holding (wpAny_pyIter_list hl ?_))
  refine wpAny_bind (wpAny_holding (draw_lst ne its.size 0 _ _ ⟨_, Heap.get?_push_size _ rfl, rfl, rfl⟩ (hl2 _) (by omega) fun hA eA sA => ?_))
  have eall : List.take its.size (List.drop 0 its.toList) = its.toList := by
    rw [List.drop_zero]; exact List.take_of_length_le (by simp)
  rw [eall, if_neg (by simp)]
  have hlA : hA.IsList l its := let ⟨o, ho, r⟩ := hl2 _; ⟨o, (sA.2 _ ne).trans ho, r⟩
  refine wpAny_bind (wpAny_holding (wpAny_pyNext_list_end hh eA hlA (by simp) fun hB eB => ?_))
  simp only [Option.isSome_none, Bool.false_eq_true, if_false]
  refine wpAny_pure (k hB fun b o hb e => ?_)
  exact eB b o hb ((sA.2 b hb).trans (Heap.get?_push_of_some _ e))
theorem asg_lst {env : Env} {ts : List Expr} {x1} {p1 : Pos} {s : Shared} {l : Addr} {its : Array Value} {Q : Unit → Shared → Prop} (hh : A.handled = none) (hl : s.heap.IsList l its)
    (hn : (assignEach ts env).length = its.size) (hst : (assignEach ts env).findIdx? (·.1) = none)
    (k : ∀ h', Heap.ExtBut s.heap.objs.size s.heap h' → wpAny (model prog w) A (assignInOrder ((assignEach ts env).map (·.2)) its.toList) Q E { s with heap := h' }) :
    wpAny (model prog w) A (assign (.Tuple ts x1 p1) env (.ref l)) Q E s := by
  rw [assign_Tuple]
  refine wpAny_bind (wpAny_standAt ?_)
  unfold unpack
  rw [hn, hst]
  exact wpAny_bind (wpAny_holding (unp_lst hh hl k))
end
theorem pg_seq {es : List Expr} {k : Nat} {t : TGs} {n : Nat} (hc : X.calm = true) (h : PGs X es t)
    (hn : (assignEach es X.env).length = n := by rfl) (hst : (assignEach es X.env).findIdx? (·.1) = none := by rfl) : PG X (.Tuple es k pos) (gSeq X.K n t) := by
  refine ⟨fun pins s σ H v u Q I r ⟨a, xs, e1, hq, hl, hw⟩ => ?_⟩
  rcases hq with hq | hq
  · exact (pg_tup hc h hn hst).run pins s σ H v u Q I r ⟨a, xs, e1, hq, hl, hw⟩
  · subst e1
    cases r
    obtain ⟨its, rv, ht, hz⟩ := I.list hq
    refine asg_lst (I.ok.hd hc) ht.isList (by simp [hn, ← hl, rv.length]) hst fun h' hx => ?_
    have I1 : Inv X pins σ H { s with heap := h' } := I.kept (t' := s.toks) fun b o e => hx b o (Nat.ne_of_lt (Heap.lt_size e)) e
    exact h.run pins _ σ H xs _ Q I1 (by simpa using rv) hw
theorem ds_unp {is : List Nat} {ts : List Expr} {kt : Nat} {pt : Pos} (ha : DE X F W a ea) (hc : X.calm = true) (hg : PGs X ts (gNames is)) (hn : (assignEach ts X.env).length = is.length := by rfl) (hst : (assignEach ts X.env).findIdx? (·.1) = none := by rfl)
    (hs : swapsWithSole [.Tuple ts kt pt] a pos.line X.env = pure false := by rfl) (hw : swappedStores [.Tuple ts kt pt] a X.env = pure none := by rfl)
    (h1 : (assignEach [.Tuple ts kt pt] X.env).map (·.2) = [assign (.Tuple ts kt pt) X.env] := by rfl) :
    DSt X F W (.Assign [.Tuple ts kt pt] a pos) (.unp is ea) :=
  ps_w (ps_asg ha (pg_seq hc hg hn hst) hs hw h1) fun D σ H ⟨m, s, r, w⟩ => by
    simp only [evS] at w
    refine De.bind r w fun e s1 m1 H1 v r1 x1 e1 f1 w1 => ?_
    have viaL : (∀ xs, itemsOf s1 e = some (true, xs) → wp (M.bnd (M.chk (decide (xs.length = is.length))) (fun _ => M.bnd (putSlots is xs) fun _ => M.ret Fl.nx)) s1 (OkS X.K m s σ H D) (ExW X.K W m s σ H) → gSeq X.K is.length (gNames is) v σ H1 D.nx) := fun xs q w2 => by
      obtain ⟨hl, w2⟩ := wp_chk.mp (wp_bnd.mp w2)
      obtain ⟨p, vs, rfl, q1, q2⟩ := itemsOf_rel r1 e1 q
      obtain ⟨s2, r2, x2, hl2, _, w3⟩ := putSlots_ok r1 q2 (wp_bnd.mp w2)
      exact ⟨p, vs, rfl, .inr q1, hl2.symm, gNames_run hl2 (w3 m1 _ H1 r2 (x1.trans x2))⟩
    cases q : pvOf s1 e with
    | none =>
      cases q2 : itemsOf s1 e with
      | none => exact (show False from wp_eq (d := M.no) w1 (by simp only [q, q2])).elim
      | some z =>
        obtain ⟨bb, xs⟩ := z
        cases bb with
        | false => exact (show False from wp_eq (d := M.no) w1 (by simp only [q, q2])).elim
        | true => exact viaL xs q2 (wp_eq (d := M.bnd (M.chk (decide (xs.length = is.length))) (fun _ => M.bnd (putSlots is xs) fun _ => M.ret .nx)) w1 (by simp only [q, q2]))
    | some p =>
      cases p with
      | tup xs =>
        have w2 := wp_eq (d := M.bnd (M.chk (decide (xs.length = is.length))) (fun _ => M.bnd (putSlots is xs) fun _ => M.ret .nx)) w1 (by simp only [q])
        obtain ⟨hl, w2⟩ := wp_chk.mp (wp_bnd.mp w2)
        obtain ⟨p, vs, rfl, q1, q2⟩ := vr_tup (pvOf_rel r1 e1 q)
        obtain ⟨s2, r2, x2, hl2, _, w3⟩ := putSlots_ok r1 q2 (wp_bnd.mp w2)
        exact ⟨p, vs, rfl, .inl q1, hl2.symm, gNames_run hl2 (w3 m1 _ H1 r2 (x1.trans x2))⟩
      | _ =>
        cases q2 : itemsOf s1 e with
        | none => exact (show False from wp_eq (d := M.no) w1 (by simp only [q, q2])).elim
        | some z =>
          obtain ⟨bb, xs⟩ := z
          cases bb with
          | false => exact (show False from wp_eq (d := M.no) w1 (by simp only [q, q2])).elim
          | true => exact viaL xs q2 (wp_eq (d := M.bnd (M.chk (decide (xs.length = is.length))) (fun _ => M.bnd (putSlots is xs) fun _ => M.ret .nx)) w1 (by simp only [q, q2]))
theorem De.bind2 {β : Type} {c1 c2 : M EV} {f : EV → EV → M β} {RR : β → DS → Prop} {R2 : V → V → Hp → Prop} (r : Rel K m s σ H) (w : wp (M.bnd c1 fun x => M.bnd c2 fun y => f x y) s RR (ExW K W m s σ H))
    (h : ∀ e1 e2 s2 m2 H2 v1 v2, Rel K m2 s2 σ H2 → Ext NoT m s σ H m2 s2 σ H2 → EVRel K m2 s2 σ H2 e1 v1 → EVRel K m2 s2 σ H2 e2 v2 → Fresh H e1 v1 → Fresh H e2 v2 → wp (f e1 e2) s2 RR (ExW K W m s σ H) → R2 v1 v2 H2) :
    De K W c1 σ H fun v1 H1 => De K W c2 σ H1 fun v2 H2 => R2 v1 v2 H2 :=
  De.bind r w fun e1 s1 m1 H1 v1 r1 x1 q1 f1 w1 => ⟨m1, s1, r1, wp_mono (wp_bnd.mp w1) (fun e2 s2 w2 m2 H2 v2 r2 x2 q2 f2 => h e1 e2 s2 m2 H2 v1 v2 r2 (x1.trans x2) (q1.step r1 x2) q2 f1 (fun c a z z2 => x1.dom a (f2 c a z z2)) w2) fun x s2 z => z.step x1⟩
theorem De.bind3 {β : Type} {c1 c2 c3 : M EV} {f : EV → EV → EV → M β} {RR : β → DS → Prop} {R3 : V → V → V → Hp → Prop} (r : Rel K m s σ H) (w : wp (M.bnd c1 fun x => M.bnd c2 fun y => M.bnd c3 fun z => f x y z) s RR (ExW K W m s σ H))
    (h : ∀ e1 e2 e3 s2 m2 H2 v1 v2 v3, Rel K m2 s2 σ H2 → Ext NoT m s σ H m2 s2 σ H2 → EVRel K m2 s2 σ H2 e1 v1 → EVRel K m2 s2 σ H2 e2 v2 → EVRel K m2 s2 σ H2 e3 v3 → Fresh H e1 v1 → Fresh H e2 v2 → Fresh H e3 v3 → wp (f e1 e2 e3) s2 RR (ExW K W m s σ H) → R3 v1 v2 v3 H2) :
    De K W c1 σ H fun v1 H1 => De K W c2 σ H1 fun v2 H2 => De K W c3 σ H2 fun v3 H3 => R3 v1 v2 v3 H3 :=
  De.bind r w fun e1 s1 m1 H1 v1 r1 x1 q1 f1 w1 => ⟨m1, s1, r1, wp_mono (wp_bnd.mp w1) (fun e2 s2 w2 m2 H2 v2 r2 x2 q2 f2 => ⟨m2, s2, r2, wp_mono (wp_bnd.mp w2) (fun e3 s3 w3 m3 H3 v3 r3 x3 q3 f3 => h e1 e2 e3 s3 m3 H3 v1 v2 v3 r3 ((x1.trans x2).trans x3) ((q1.step r1 x2).step r2 x3) (q2.step r2 x3) q3 f1 (fun c a z z2 => x1.dom a (f2 c a z z2)) (fun c a z z2 => x1.dom a (x2.dom a (f3 c a z z2))) w3) fun x s2 z => z.step (x1.trans x2)⟩) fun x s2 z => z.step x1⟩
theorem putCO_co {e : EV} {v : V} {c : CO} (r : Rel K m s σ H) (h : EVRel K m s σ H e v) (q : putCO e c s = .ok () s') : ∃ l c0, v = .ref l ∧ CORel K m s.h.length H c0 l := by
  have up : ∀ n c0, s.h[n]? = some (.rw c0) → CORel K m s.h.length H c0 (m n) := fun n c0 e =>
    CORel.mono (fun _ _ => rfl) (Nat.le_of_lt (List.getElem?_eq_some_iff.mp e).1) (fun _ _ z => z) (fun _ z => z) (r.hp n _ e)
  have viaRef : ∀ n w c0, VRel K m s.h.length H (.ref n) w → s.h[n]? = some (.rw c0) → ∃ l c0, w = .ref l ∧ CORel K m s.h.length H c0 l := fun n w c0 hv e => by
    simp only [VRel] at hv
    exact ⟨_, c0, hv.2, up n c0 e⟩
  cases e with
  | pv p =>
    cases p with
    | ref n =>
      simp only [putCO] at q
      split at q
      · rename_i c0 e1; exact viaRef n v c0 h e1
      · cases q
    | _ => simp [putCO] at q
  | tmp _ => simp [putCO] at q
  | bw i =>
    have hv : σ[i]? = some (some v) := h
    simp only [putCO] at q
    split at q
    · rename_i c0 e1
      obtain ⟨v', h1, a, h2, h3⟩ := r.sl i _ e1
      rw [hv] at h1; cases h1
      exact ⟨a, c0, h2, h3⟩
    · rename_i n e1
      obtain ⟨v', h1, h2⟩ := r.sl i _ e1
      rw [hv] at h1; cases h1
      split at q
      · rename_i c0 e2; exact viaRef n v c0 h2 e2
      · cases q
    · cases q
theorem ds_setIx {p' : Pos} (ho : DE X F W a ea) (hi : DE X F W b eb) (hv : DE X F W c ec) (hs : swapsWithSole [.Subscript a b p'] c pos.line X.env = pure false := by rfl) (hw : swappedStores [.Subscript a b p'] c X.env = pure none := by rfl)
    (h1 : (assignEach [.Subscript a b p'] X.env).map (·.2) = [assign (.Subscript a b p') X.env] := by rfl)
    (ha : ∀ v, assign (.Subscript a b p') X.env v = (do
      let ov ← holding [v] (eval a X.env)
      let iv ← holding [v, ov] (eval b X.env)
      standAt p'
      holding [v, ov, iv] (setItem ov iv v)
      release [v, ov, iv] []) := by intro _; rfl) :
    DSt X F W (.Assign [.Subscript a b p'] c pos) (.setIx ea eb ec) :=
  ps_w (ps_asg hv (pg_sub ho hi set_list ha) hs hw h1) fun D σ H ⟨m, s, r, w⟩ => by
    simp only [evS] at w
    refine De.bind3 (R3 := fun v o i H3 => rSetL o i v H3 fun H4 => D.nx σ H4) r w fun e1 e2 e3 s2 m2 H2 v1 v2 v3 r2 x2 q1 q2 q3 f1 f2 f3 w2 => ?_
    have w2 := wp_bnd.mp w2
    cases z1 : liOf s2 e2 with
    | none => exact (show False from wp_eq (d := M.no) w2 (by simp only [setIxF, z1])).elim
    | some xs =>
      cases z2 : pvOf s2 e3 with
      | none => exact (show False from wp_eq (d := M.no) w2 (by simp only [setIxF, z1, z2])).elim
      | some p =>
        cases p with
        | int k =>
          have w2 := wp_eq (d := M.bnd (M.opt (ixN xs.length k)) (fun j => M.bnd (box e1) fun p => putCO e2 (.lst (xs.set j p)))) w2 (by simp only [setIxF, z1, z2])
          obtain ⟨j, hj, w2⟩ := wp_opt.mp (wp_bnd.mp w2)
          obtain ⟨p, s3, z3, w3⟩ := wp_box (wp_bnd.mp w2)
          obtain ⟨m3, r3, x3, v3'⟩ := box_ok r2 q1 z3
          obtain ⟨s4, z4, w4⟩ := wp_put w3
          obtain ⟨l, vs, rfl, e4, e5⟩ := liOf_rel r2 q2 z1
          obtain rfl := vr_int (pvOf_rel r2 q3 z2)
          have hT : ∀ a, TmpAt [e1] [v1] a → ∃ o, H2 a = some o ∧ OKind o := fun a z => tmpAt_some (show EVsRel X.K m2 s2 σ H2 [e1] [v1] from ⟨v1, [], rfl, q1, fun _ _ _ _ z => z.elim, rfl⟩) z
          have q2' := q2.stepT r2 x3 hT (fun c a e _ => (evrel_of_put z4 c e).elim)
          obtain ⟨l', o, e6, e7, ko, wr⟩ := putCO_ok r3 q2' z4
          cases e6
          refine ⟨l, vs, k, j, rfl, rfl, e4, by rw [e5.length]; exact hj, ?_⟩
          have ht := sqT_upd (K := X.K) (o' := .lst (vs.set j v1)) e7 ko
          obtain ⟨r4, x4⟩ := wr (.lst (vs.set j v1)) trivial ⟨_, upd_same, VsRel.set j (VRel.mono (fun _ _ => rfl) (Nat.le_refl _) ht v3') (e5.mono x3.mm x3.len ht)⟩
          exact w4 m3 σ _ r4 (x2.transT (x3.then' x4) fun a z => z.elim (fun z => by
            obtain ⟨⟨c, z5⟩, z6⟩ := tmp_one.mp z
            exact f1 c a z5 z6) fun z => z.elim)
        | _ => exact (show False from wp_eq (d := M.no) w2 (by simp only [setIxF, z1, z2])).elim
theorem setKey_core {σ : SSt} {H : Hp} (h : Ds X.K W (evS F (.setKey ea eb ec)) D σ H) : sDPut (De X.K W (evE F ea)) (De X.K W (evE F eb)) (De X.K W (evE F ec)) D σ H := by
    obtain ⟨m, s, r, w⟩ := h
    simp only [evS] at w
    refine De.bind3 (R3 := fun v x y H3 => ∃ a H4, x = .ref a ∧ DPut H3 a y v H4 ∧ D.nx σ H4) r w fun e1 e2 e3 s2 m2 H2 v1 v2 v3 r2 x2 q1 q2 q3 f1 f2 f3 w2 => ?_
    have w2 := wp_bnd.mp w2
    cases z1 : coOf s2 e2 with
    | none => exact (show False from wp_eq (d := M.no) w2 (by simp only [setKeyF, z1])).elim
    | some c0 =>
      cases c0 with
      | lst _ => exact (show False from wp_eq (d := M.no) w2 (by simp only [setKeyF, z1])).elim
      | dct kvs =>
        cases z2 : pvOf s2 e3 with
        | none => exact (show False from wp_eq (d := M.no) w2 (by simp only [setKeyF, z1, z2, Option.bind_none])).elim
        | some p0 =>
          cases z0 : keyOf p0 with
          | none => exact (show False from wp_eq (d := M.no) w2 (by simp only [setKeyF, z1, z2, Option.bind_some, z0])).elim
          | some k =>
            have w2 := wp_eq (d := M.bnd (M.chk (decide (kvs.length < sizeLine))) (fun _ => M.bnd (box e1) fun p => putCO e2 (.dct (put kvs k p)))) w2 (by simp only [setKeyF, z1, z2, Option.bind_some, z0])
            obtain ⟨hz, w2⟩ := wp_chk.mp (wp_bnd.mp w2)
            obtain ⟨p, s3, z3, w3⟩ := wp_box (wp_bnd.mp w2)
            obtain ⟨m3, r3, x3, v3'⟩ := box_ok r2 q1 z3
            obtain ⟨s4, z4, w4⟩ := wp_put w3
            obtain ⟨l, kvs', rfl, e4, e5, e6⟩ := coOf_rel r2 q2 z1
            have hk := keyOf_rel (pvOf_rel r2 q3 z2) z0
            have hT : ∀ a, TmpAt [e1] [v1] a → ∃ o, H2 a = some o ∧ OKind o := fun a z => tmpAt_some (show EVsRel X.K m2 s2 σ H2 [e1] [v1] from ⟨v1, [], rfl, q1, fun _ _ _ _ z => z.elim, rfl⟩) z
            have q2' := q2.stepT r2 x3 hT (fun c a e _ => (evrel_of_put z4 c e).elim)
            obtain ⟨l', o, e7, e8, ko, wr⟩ := putCO_ok r3 q2' z4
            cases e7
            obtain ⟨l', c1, e9, e10⟩ := putCO_co r3 q2' z4
            cases e9
            have hd : H2 l = some (.dK kvs') := by
              rcases e4 with e4 | ⟨od, e4⟩
              · exact e4
              · cases c1 with
                | lst _ => obtain ⟨_, e, _⟩ := e10; rw [e4] at e; cases e
                | dct _ => obtain ⟨_, e, _⟩ := e10; rw [e4] at e; cases e
            have kr := KR.of e5 e6
            refine ⟨l, _, rfl, .inl ⟨kvs', k, hd, hk, by rw [kr.length]; exact of_decide_eq_true hz, rfl⟩, ?_⟩
            have ht := sqT_upd (K := X.K) (o' := .dK (putK kvs' k v1)) e8 ko
            have kr2 := KR.put (k := k) (VRel.mono (fun _ _ => rfl) (Nat.le_refl _) ht v3') (KR.of e5 (e6.mono x3.mm x3.len ht))
            obtain ⟨k1, k2⟩ := kr2.to
            obtain ⟨r4, x4⟩ := wr (.dK (putK kvs' k v1)) trivial ⟨_, upd_same, k1, k2⟩
            exact w4 m3 σ _ r4 (x2.transT (x3.then' x4) fun a z => z.elim (fun z => by
              obtain ⟨⟨c, z5⟩, z6⟩ := tmp_one.mp z
              exact f1 c a z5 z6) fun z => z.elim)
theorem ds_setKey {p' : Pos} (hu : X.A.units + 66 < cLine) (ho : DE X F W a ea) (hi : DE X F W b eb) (hv : DE X F W c ec) (hs : swapsWith c (some (.Subscript a b p')) pos.line X.env = pure false := by rfl) :
    DSt X F W (.Assign [.Subscript a b p'] c pos) (.setKey ea eb ec) :=
  ps_w (ps_dput (by omega) ho hi hv hs) fun D σ H h => setKey_core h
theorem parK_core {i : Nat} {σ : SSt} {H : Hp} (h : Ds X.K W (evS F (.parK i ea eb cs)) D σ H) : Da X.K W (evs F cs) σ H fun vs H1 => ∃ x y : Int, vs = [V.int x, V.int y] ∧ ∀ H2, (∀ a o, H1 a = some o → H2 a = some o) →
    De X.K W (evE F ea) (σ.set i (some (.int x))) H2 fun o H3 => De X.K W (evE F eb) (σ.set i (some (.int x))) H3 fun k H4 => ∃ a H5, o = .ref a ∧ DPut H4 a k (.int y) H5 ∧ D.nx (σ.set i (some (.int x))) H5 := by
  obtain ⟨m, s, r, w⟩ := h
  simp only [evS] at w
  refine Da.bind r w fun es' s1 m1 H1 vs r1 x1 e1 f1 w1 => ?_
  have key : ∃ x y : Int, es' = [.pv (.int x), .pv (.int y)] := by
    unfold parKF at w1
    split at w1
    · exact ⟨_, _, rfl⟩
    · exact (show False from w1).elim
  obtain ⟨x, y, rfl⟩ := key
  obtain ⟨v1, v2, rfl, h1, h2⟩ := evs2 e1
  obtain rfl := vr_int (show VRel X.K m1 s1.h.length H1 (.int x) v1 from h1)
  obtain rfl := vr_int (show VRel X.K m1 s1.h.length H1 (.int y) v2 from h2)
  refine ⟨x, y, rfl, fun H2 g => ?_⟩
  have w1 : wp (M.bnd (putSlot i (.pv (.int x))) fun _ => M.bnd (evE F ea) fun ov => M.bnd (evE F eb) fun kv => M.bnd (setKeyF ov kv (.pv (.int y))) fun _ => M.ret .nx) s1 (OkS X.K m s σ H D) (ExW X.K W m s σ H) := w1
  obtain ⟨s3, r3, x3, _, _, w4⟩ := putSVs_ok (is := [i]) (xs := [.pv (.int x)]) (vs := [.int x])
    (RR := fun _ s3 => wp (M.bnd (evE F ea) fun ov => M.bnd (evE F eb) fun kv => M.bnd (setKeyF ov kv (.pv (.int y))) fun _ => M.ret .nx) s3 (OkS X.K m s σ H D) (ExW X.K W m s σ H)) r1
    ⟨_, _, rfl, by simp only [evOf, EVRel, VRel], (fun c a z => nomatch z), rfl⟩ (fun z hz => by
      rcases List.mem_singleton.mp hz with rfl
      exact trivial) (wp_bnd.mpr (wp_mono (wp_bnd.mp w1) (fun _ s2 w2 => w2) fun _ _ z => z))
  have xx : Ext NoT m s σ H m1 s3 (σ.set i (some (.int x))) H2 := (x1.transT x3 fun a z => by
    rcases z with ⟨⟨c, z⟩, _⟩ | z
    · cases z
    · exact z.elim).trans (Ext.grow g)
  have e : evS F (.setKey ea eb (.con (.int y))) = M.bnd (evE F ea) fun ov => M.bnd (evE F eb) fun kv => M.bnd (setKeyF ov kv (.pv (.int y))) fun _ => M.ret .nx := by
    simp only [evS, evE, ev2]; rfl
  have q := setKey_core (D := D) (F := F) (W := W) (X := X) (ea := ea) (eb := eb) (ec := .con (.int y)) (σ := σ.set i (some (.int x))) (H := H2) ⟨m1, s3, r3.grow g, by
    rw [e]
    exact wp_mono w4 (fun f s' ok => ok.step xx) fun _ _ z => z.step xx⟩
  obtain ⟨m', s', r', w'⟩ := q
  simp only [evE, ev2] at w'
  exact w' m' H2 (.int y) r' Ext.refl (by simp only [EVRel, VRel]) (fun _ _ z => nomatch z)
theorem ds_parK {i : Nat} {x : Str} {px p' pt : Pos} {kt : Nat} {k2 pt2} (hu : X.A.units + 66 < cLine) (ha : DA X F W es cs) (hc : X.calm = true) (hN : X.N.Nodup) (ho : DE X F W a ea) (hk : DE X F W b eb)
    (hi : X.N[i]? = some x := by rfl) (hx : Loc X.env.scope x := by first | exact .inl rfl | exact .inr rfl) (hf : X.fn x = true ∨ X.env.scope.names.lookup x = some .local := by first | exact .inl rfl | exact .inr rfl)
    (hn : (assignEach [.Name x px, .Subscript a b p'] X.env).length = 2 := by rfl) (hst : (assignEach [.Name x px, .Subscript a b p'] X.env).findIdx? (·.1) = none := by rfl)
    (hsub : ∀ v, assign (.Subscript a b p') X.env v = (do
      let ov ← holding [v] (eval a X.env)
      let iv ← holding [v, ov] (eval b X.env)
      standAt p'
      holding [v, ov, iv] (setItem ov iv v)
      release [v, ov, iv] []) := by intro _; rfl)
    (h2 : (assignEach [.Subscript a b p'] X.env).map (·.2) = assign (.Subscript a b p') X.env :: (assignEach [] X.env).map (·.2) := by rfl)
    (h3 : (assignEach [.Name x px, .Subscript a b p'] X.env).map (·.2) = assign (.Name x px) X.env :: (assignEach [.Subscript a b p'] X.env).map (·.2) := by rfl)
    (hs : swapsWithSole [.Tuple [.Name x px, .Subscript a b p'] kt pt] (.Tuple es k2 pt2) pos.line X.env = pure false := by rfl) (hw : swappedStores [.Tuple [.Name x px, .Subscript a b p'] kt pt] (.Tuple es k2 pt2) X.env = pure none := by rfl)
    (h1 : (assignEach [.Tuple [.Name x px, .Subscript a b p'] kt pt] X.env).map (·.2) = [assign (.Tuple [.Name x px, .Subscript a b p'] kt pt) X.env] := by rfl) :
    DSt X F W (.Assign [.Tuple [.Name x px, .Subscript a b p'] kt pt] (.Tuple es k2 pt2) pos) (.parK i ea eb cs) :=
  ps_w (ps_asg (pe_tup ha) (pg_tup hc (pgs_cons (pg_name hN hi hx hf) (pgs_cons (pg_sub ho hk (set_dict (by omega)) hsub) pgs_nil h2) h3) hn hst) hs hw h1) fun D σ H h => Da.mono (parK_core h) fun vs H1 ⟨u, v, e, q⟩ => by
    subst e
    refine ⟨by show 2 ≤ sizeLine; rw [sizeLine_eq]; decide, fun p hp => ⟨p, _, rfl, SqT.of upd_same, rfl, _, _, rfl, _, _, rfl, ?_⟩⟩
    exact De.mono (q _ (upd_grow hp)) fun o H3 q => De.mono q fun k H4 ⟨l, H5, z1, z2, z3⟩ => ⟨l, H5, z1, z2, rfl, z3⟩
theorem ds_stk : DSt X F W st .stk := ps_w ps_never fun D σ H ⟨m, s, r, w⟩ => by
  simp only [evS] at w
  exact w
theorem ds_wh {sb : List Stmt} {db : List S} (hp : PassesOwn (model X.prog X.w) X.A X.env X.xe) (hc : DT X F W c ec) (hb : DSs X F W sb db) : DSt X F W (.While c sb [] pos) (.wh ec db) :=
  ps_w (ps_while hp hc hb) fun D σ H ⟨m, s, r, w⟩ => by
    simp only [evS] at w
    refine ⟨fun n σ' H' => ∃ m' s', Rel X.K m' s' σ' H' ∧ Ext NoT m s σ H m' s' σ' H' ∧ wp (whF (evT F ec) (evSs F db) n) s' (OkS X.K m s σ H D) (ExW X.K W m s σ H), ⟨wFuel, m, s, r, Ext.refl, w⟩, ?_⟩
    rintro n σ' H' ⟨m', s', r', x', w'⟩
    cases n with
    | zero => exact w'.elim
    | succ n =>
      simp only [whF] at w'
      refine ⟨m', s', r', wp_mono (wp_bnd.mp w') (fun b s1 w1 m1 H1 r1 x1 => ?_) fun x s2 z => z.step x'⟩
      cases b with
      | false => exact iteF (w1 m1 σ' H1 r1 (x'.trans x1))
      | true =>
        refine iteT ⟨fun σ2 H2 => ∃ m2 s2, Rel X.K m2 s2 σ2 H2 ∧ Ext NoT m s σ H m2 s2 σ2 H2 ∧ wp (whF (evT F ec) (evSs F db) n) s2 (OkS X.K m s σ H D) (ExW X.K W m s σ H), fun σ2 H2 h => ⟨n, Nat.lt_succ_self _, h⟩, m1, s1, r1, wp_mono (wp_bnd.mp w1) (fun f s2 w2 m2 σ2 H2 r2 x2 => ?_) fun x s2 z => z.step (x'.trans x1)⟩
        have x02 := (x'.trans x1).trans x2
        cases f with
        | nx => exact ⟨m2, s2, r2, x02, w2⟩
        | ct => exact ⟨m2, s2, r2, x02, w2⟩
        | bk => exact w2 m2 σ2 H2 r2 x02
        | rt e => exact fun v z f1 => w2 m2 σ2 H2 r2 x02 v z fun c a e1 e2 => (x'.trans x1).dom a (f1 c a e1 e2)
end
end DV
namespace DV
open PySem PySem.Spec PyProof.Rows L2
section
variable {prog : Program} {w : World} {A : Around} {E : Value → Shared → Prop} {s : Shared}
theorem drawsT (hh : A.handled = none) (it l : Addr) (ne : l ≠ it) (its : Array Value) :
    Draws prog w A it [it, l] its.size (fun i v => its[i]? = some v) (fun i h => h.IsTupleIter it l i ∧ h.IsTuple l its) where
  live := fun _ _ z => let ⟨o, q, _⟩ := z.1; ⟨o, q⟩
  frame := fun _ _ _ z k => ⟨let ⟨o, q, r⟩ := z.1; ⟨o, k it (by simp) o q, r⟩, let ⟨o, q, r⟩ := z.2; ⟨o, k l (by simp) o q, r⟩⟩
  item := fun i s Q E lt z hQ => by
    refine RZ.nextOf_tuple_item z.1 z.2 (x := its[i]) (by simp [lt]) fun h1 e1 b1 => ?_
    exact hQ _ h1 s.toks (by simp [lt]) ⟨e1, z.2.extBut b1.extBut ne⟩ b1
  done := fun s Q E z hE => RZ.nextOf_tuple_end hh z.1 z.2 (by simp) hE
theorem drawsE (hh : A.handled = none) (it l : Addr) (its : Array Value) (i : Nat) (hi : its[i]? = none) :
    Draws prog w A it [it, l] i (fun _ _ => True) (fun j h => j = i ∧ h.IsTupleIter it l i ∧ h.IsTuple l its) where
  live := fun _ _ z => let ⟨o, q, _⟩ := z.2.1; ⟨o, q⟩
  frame := fun _ _ _ z k => ⟨z.1, let ⟨o, q, r⟩ := z.2.1; ⟨o, k it (by simp) o q, r⟩, let ⟨o, q, r⟩ := z.2.2; ⟨o, k l (by simp) o q, r⟩⟩
  item := fun j s Q E lt z hQ => absurd z.1 (Nat.ne_of_lt lt)
  done := fun s Q E z hE => RZ.nextOf_tuple_end hh z.2.1 z.2.2 hi hE
theorem enew (l : Addr) (its : Array Value) (n : Nat) (dct : Option Addr) (sl : Array (Option Value)) :
    Meets (Builtin.«enumerate.__new__» ⟨[.type "enumerate", .ref l], []⟩) (fun _ R s => s.heap.get? l = some { cls := .type "tuple", dict := dct, data := .seq its n, slots := sl } ∧
      R (.ok (.ret (.ref (s.heap.push { cls := .type "tuple_iterator", data := .fields #[.ref l, .int 0 0] }).objs.size)))
        { s with heap := (s.heap.push { cls := .type "tuple_iterator", data := .fields #[.ref l, .int 0 0] }).push { cls := .type "enumerate", data := .fields #[.none, .bool false, .ref s.heap.objs.size, rawInt 0, .none, .none] } }) :=
  .of_wp fun prog w A R s h => by
    obtain ⟨h0, g0, d0, t0, o0⟩ := s
    obtain ⟨hl, h⟩ := h
    have sube := sub_enumerate
    have hT : IsTup (Shared.heap ⟨h0, g0, d0, t0, o0⟩) l its := ⟨_, hl, rfl, n, rfl⟩
    wp_walk using wpAny_loadPart' hl
    refine wpAny_stack_any fun st => wpAny_pure ?_
    split
    · rename_i c _ _ _ _ _
      cases (c == Value.type "enumerate")
      · wp_walk using wpAny_loadPart' hl, iter_tuple hT
        exact ⟨_, rfl, h⟩
      · wp_walk using wpAny_loadPart' hl, iter_tuple hT
        exact ⟨_, rfl, h⟩
    · wp_walk using wpAny_loadPart' hl, iter_tuple hT
      exact ⟨_, rfl, h⟩
theorem ecall {l : Addr} {its : Array Value} {Q : Value → Shared → Prop} (hL : IsTup s.heap l its)
    (h : ∀ h', IsEnum h' (s.heap.objs.size + 1) s.heap.objs.size 0 .none → h'.IsTupleIter s.heap.objs.size l 0 → h'.objs.size = s.heap.objs.size + 2 →
      (∀ b o, s.heap.get? b = some o → h'.get? b = some o) → Q (.ref (s.heap.objs.size + 1)) { s with heap := h' }) :
    wpAny (model prog w) A (call (.type "enumerate") [.ref l]) Q E s := by
  obtain ⟨⟨c, dct, dt, sl⟩, hl, hc, n, hd⟩ := hL
  replace hc : c = .type "tuple" := hc
  replace hd : dt = .seq its n := hd
  subst hc; subst hd
  refine callType_new F.called_enumerate (by decide) (F.typeCall_enumerate_1 _) (F.newCall_enumerate_1 _) (fun ob => F.args_object_init_2 ob _) F.entry_enumerate_new (enew l its n dct sl) ⟨hl, ?_⟩
  have z1 : (s.heap.push { cls := .type "tuple_iterator", data := .fields #[.ref l, .int 0 0] }).objs.size = s.heap.objs.size + 1 := Heap.size_push ..
  show _ ∧ _
  rw [z1]
  have he : IsEnum ((s.heap.push { cls := .type "tuple_iterator", data := .fields #[.ref l, .int 0 0] }).push { cls := .type "enumerate", data := .fields #[.none, .bool false, .ref s.heap.objs.size, rawInt 0, .none, .none] }) (s.heap.objs.size + 1) s.heap.objs.size 0 .none := by
    have q := Heap.get?_push_size (s.heap.push { cls := .type "tuple_iterator", data := .fields #[.ref l, .int 0 0] }) (o := { cls := .type "enumerate", data := .fields #[.none, .bool false, .ref s.heap.objs.size, rawInt 0, .none, .none] }) rfl
    rw [z1] at q
    exact q
  exact ⟨⟨_, he, rfl⟩, h _ he ⟨_, Heap.get?_push_of_some _ (Heap.get?_push_size _ rfl), rfl, rfl⟩ (by rw [Heap.size_push, z1]) fun b o x => Heap.get?_push_of_some _ (Heap.get?_push_of_some _ x)⟩
end
def IteT (K : Fg) (a : Addr) : It :=
  ⟨fun i H => ∃ (xs : List V) (x : V), SqT K H a xs ∧ xs[i]? = some x, fun i H v H' => ∃ T x, v = .ref T ∧ H T = none ∧ H' = upd H T (.tup [.int (i : Nat), x]) ∧ ∀ xs, SqT K H a xs → xs[i]? = some x, fun i H => ∃ xs : List V, SqT K H a xs ∧ xs.length ≤ i⟩
theorem turn_eT {P : Program} {w : World} {K : Fg} {elts : List Expr} {kk : Nat} {tpos : Pos} (a e it : Addr) :
    Turn P w K (.Tuple elts kk tpos) (IteT K a) [e, it] e (fun i h => (∃ old, IsEnum h e it ((i : Nat) : Int) old) ∧ h.IsTupleIter it a i ∧ e ≠ it ∧ e ≠ a ∧ a ≠ it) where
  mem := by simp
  obj := fun i h st b hb => by
    obtain ⟨⟨old, he⟩, ⟨o, ho, hc, hd⟩, _⟩ := st
    rcases (show b = e ∨ b = it by simpa using hb) with z | z
    · rw [z]; exact ⟨_, he, fun v q => nomatch q⟩
    · rw [z]; exact ⟨o, ho, fun v q => by rw [hd] at q; cases q⟩
  keep := fun i h h' st k => let ⟨⟨old, he⟩, ⟨o, ho, r⟩, n1, n2, n3⟩ := st; ⟨⟨old, k e (by simp) _ he⟩, ⟨o, k it (by simp) o ho, r⟩, n1, n2, n3⟩
  item := by
    intro X e1 e2 e3 calm i pins s σ H E I fr st go
    subst e1; subst e2; subst e3
    obtain ⟨⟨old, he⟩, hit, n1, n2, n3⟩ := st
    obtain ⟨xs, x, hq, hx⟩ := go
    obtain ⟨its, rv, p, _⟩ := I.tuple hq
    obtain ⟨u, hu, ru⟩ := rv.get hx
    have el : e < s.heap.objs.size := Heap.lt_size he
    have il : it < s.heap.objs.size := by obtain ⟨_, q, _⟩ := hit; exact Heap.lt_size q
    have hlt : i < its.toArray.size := by
      have := (List.getElem?_eq_some_iff.mp hu).1
      simpa using this
    refine wpAny_pyNext_enum_itemD (drawsT (A := X.A.in1) (I.ok.hd calm) it a n3 its.toArray) he ⟨hit, p⟩ hlt n1 (by simp [n1, n2]) fun y h1 tk hy ho hit' hT _ hk => ?_
    obtain rfl : y = u := by
      have hu' : its.toArray[i]? = some u := by simpa using hu
      rw [hu'] at hy; cases hy; rfl
    refine ⟨_, rfl, wpAny_letOwnedTupleGo_enum (s := { s with heap := h1, toks := tk + 1 }) ho fun h2 he' sb => ?_⟩
    have hT2 : h2.get? s.heap.objs.size = some { cls := .type "tuple", data := .seq #[.int i tk, y] } := (sb.2 _ (Nat.ne_of_gt el)).trans hT
    have lay : ObjOk X.prog X.w (upd H s.heap.objs.size (.tup [.int (i : Nat), x])) h2 s.heap.objs.size (.tup [.int (i : Nat), x]) :=
      ⟨by show 2 ≤ sizeLine; decide, [.int i tk, y], .cons ⟨_, rfl⟩ (.cons ru .nil), ⟨_, hT2, rfl, _, rfl⟩⟩
    have J : Inv X pins σ (upd H s.heap.objs.size (.tup [.int (i : Nat), x])) { s with heap := h2, toks := tk + 1 } :=
      I.turnedNew (ch := [e, it]) (fun b ob hb q => (sb.2 b (fun z => hb (by simp [z]))).trans (hk b ob (fun z => hb (by simp [z])) (fun z => hb (by simp [z])) q)) fr (Nat.le_refl _) lay
    refine ⟨.ref s.heap.objs.size, _, J, rfl, ⟨_, x, rfl, I.hok.fresh (Nat.le_refl _), rfl, fun ys hy2 => by rw [I.tuple_inj hy2 hq]; exact hx⟩, ⟨⟨y, ?_⟩, ?_, n1, n2, n3⟩, fun b hb => ?_⟩
    · rw [show ((i + 1 : Nat) : Int) = (i : Int) + 1 by omega]; exact he'
    · obtain ⟨⟨o, q, r⟩, _⟩ := hit'
      exact ⟨o, (sb.2 it (Ne.symm n1)).trans q, r⟩
    · have hb' : b < s.heap.objs.size := by
        rcases (show b = e ∨ b = it by simpa using hb) with z | z
        · rw [z]; exact el
        · rw [z]; exact il
      rw [upd_ne (Nat.ne_of_lt hb')]
      exact (fr b hb).1
  done := by
    intro X e1 e2 e3 calm i pins s σ H E I fr st go
    subst e1; subst e2; subst e3
    obtain ⟨⟨old, he⟩, hit, n1, n2, n3⟩ := st
    obtain ⟨xs, hq, hx⟩ := go
    obtain ⟨its, rv, p, _⟩ := I.tuple hq
    obtain ⟨f0, f1, f2, f3, f4, f5⟩ := fr it (by simp)
    have len := rv.length
    have no : its.toArray[i]? = none := by simp; omega
    exact wpAny_pyNext_enum_endD (drawsE (A := X.A.in1) (I.ok.hd calm) it a its.toArray i no) he ⟨rfl, hit, p⟩ fun h1 eb => ⟨rfl, I.turned (t' := s.toks) (fun b o hb q => eb b o hb q) f0 f1 f3 f4 f5⟩
  self := fun A i s Q E st h => let ⟨⟨_, he⟩, _⟩ := st; wpAny_pyIter_enum he h
def iEnumA (K : Fg) (ta : TA) : TI := fun σ H R => ta σ H fun vs H1 => ∃ a xs, vs = [.ref a] ∧ ((SqL K H1 a xs ∧ R (Ite K a) H1) ∨ (SqT K H1 a xs ∧ R (IteT K a) H1))
theorem pi_enumA {X : Cx} {e : Expr} {ta : TA} {p pos tpos : Pos} {elts : List Expr} {kk : Nat} (hg : Gl X "enumerate") (hm : X.mg "enumerate" = none) (ha : PA X [e] ta) (hs : starEach [e] X.env = [(false, eval e X.env)] := by rfl) :
    PI X (.Tuple elts kk tpos) (.Call (.Name "enumerate" p) [e] [] pos) (iEnumA X.K ta) := by
  refine ⟨fun pins s σ H R I h => ?_⟩
  refine Call_ (ld_blt I hg hm boot_enumerate (PyProof.Rows.callWith_type1 (thn (ha.run pos pins s σ H _ I h) fun us s1 ⟨vs, H1, I1, r1, a, xs, ev, q1⟩ => ?_) hs rfl))
  subst ev
  cases r1 with
  | cons r rr =>
    cases rr
    cases r
    have fresh : ∀ b, b ∈ [s1.heap.objs.size + 1, s1.heap.objs.size] → FpOk X pins H1 b := fun b hb => by
      have le : s1.heap.objs.size ≤ b := by
        rcases (show b = s1.heap.objs.size + 1 ∨ b = s1.heap.objs.size by simpa using hb) with z | z
        · rw [z]; exact Nat.le_add_right _ _
        · rw [z]; exact Nat.le_refl _
      exact I1.fpOk le (I1.hok.fresh le)
    rcases q1 with ⟨hq, q⟩ | ⟨hq, q⟩
    · obtain ⟨its, rv, pl, _⟩ := I1.list hq
      refine call_enumerate_list pl.isList fun h1 he hit _ hk => wpAny_pyIter_enum he ?_
      exact ⟨s1.heap.objs.size + 1, [s1.heap.objs.size + 1, s1.heap.objs.size], _, _, H1, rfl, I1.kept (t' := s1.toks) hk, turn_enum a (s1.heap.objs.size + 1) s1.heap.objs.size, ⟨⟨.none, he⟩, hit, Nat.succ_ne_self _⟩, fresh, q⟩
    · obtain ⟨its, rv, pt, _⟩ := I1.tuple hq
      have al : a < s1.heap.objs.size := by obtain ⟨o, ho, _⟩ := pt; exact Heap.lt_size ho
      refine ecall pt fun h1 he hit _ hk => wpAny_pyIter_enum he ?_
      exact ⟨s1.heap.objs.size + 1, [s1.heap.objs.size + 1, s1.heap.objs.size], _, _, H1, rfl, I1.kept (t' := s1.toks) hk, turn_eT a (s1.heap.objs.size + 1) s1.heap.objs.size, ⟨⟨.none, he⟩, hit, Nat.succ_ne_self _, Nat.ne_of_gt (Nat.lt_succ_of_lt al), Nat.ne_of_lt al⟩, fresh, q⟩
section
variable {K : Fg} {m m' : Nat → Addr} {s s' s2 : DS} {σ σ' : SSt} {H H' : Hp} {T : Addr → Prop}
def SameS (x y : Option (Option SV)) : Prop := x = y ∨ ∃ xs, (x = some (some (.own (.lst xs))) ∨ x = some (some (.lk (.lst xs)))) ∧ (y = some (some (.own (.lst xs))) ∨ y = some (some (.lk (.lst xs))))
def SameD (x y : Option DO) : Prop := x = y ∨ ∃ xs, (x = some (.rw (.lst xs)) ∨ x = some (.lk (.lst xs))) ∧ (y = some (.rw (.lst xs)) ∨ y = some (.lk (.lst xs)))
structure Sim (s s2 : DS) : Prop where
  hl : s2.h.length = s.h.length
  el : s2.env.length = s.env.length
  hh : ∀ n : Nat, SameD s.h[n]? s2.h[n]?
  ee : ∀ i : Nat, SameS s.env[i]? s2.env[i]?
theorem Sim.refl : Sim s s := ⟨rfl, rfl, fun _ => .inl rfl, fun _ => .inl rfl⟩
theorem SameS.symm {x y : Option (Option SV)} (h : SameS x y) : SameS y x := h.elim (fun e => .inl e.symm) fun ⟨xs, a, b⟩ => .inr ⟨xs, b, a⟩
theorem SameD.symm {x y : Option DO} (h : SameD x y) : SameD y x := h.elim (fun e => .inl e.symm) fun ⟨xs, a, b⟩ => .inr ⟨xs, b, a⟩
theorem Sim.symm (h : Sim s s2) : Sim s2 s := ⟨h.hl.symm, h.el.symm, fun n => (h.hh n).symm, fun n => (h.ee n).symm⟩
theorem SameS.trans {x y z : Option (Option SV)} (h : SameS x y) (g : SameS y z) : SameS x z := by
  rcases h with rfl | ⟨xs, a, b⟩
  · exact g
  · rcases g with rfl | ⟨ys, c, d⟩
    · exact .inr ⟨xs, a, b⟩
    · have : xs = ys := by rcases b with rfl | rfl <;> rcases c with c | c <;> cases c <;> rfl
      subst this
      exact .inr ⟨xs, a, d⟩
theorem SameD.trans {x y z : Option DO} (h : SameD x y) (g : SameD y z) : SameD x z := by
  rcases h with rfl | ⟨xs, a, b⟩
  · exact g
  · rcases g with rfl | ⟨ys, c, d⟩
    · exact .inr ⟨xs, a, b⟩
    · have : xs = ys := by rcases b with rfl | rfl <;> rcases c with c | c <;> cases c <;> rfl
      subst this
      exact .inr ⟨xs, a, d⟩
theorem Sim.trans {s3 : DS} (h : Sim s s2) (g : Sim s2 s3) : Sim s s3 := ⟨g.hl.trans h.hl, g.el.trans h.el, fun n => (h.hh n).trans (g.hh n), fun n => (h.ee n).trans (g.ee n)⟩
theorem Sim.ownS (h : Sim s s2) {i : Nat} (o : OwnS s2 i) : OwnS s i := by
  obtain ⟨c, o⟩ := o
  rcases h.ee i with e | ⟨xs, a, b⟩
  · exact ⟨c, by rw [e]; exact o⟩
  · exact ⟨.lst xs, a⟩
theorem Sim.fz (h : Sim s s2) {n : Nat} {o : DO} (e : s2.h[n]? = some o) : ∃ o1, s.h[n]? = some o1 ∧ o1.isFz = o.isFz := by
  rcases h.hh n with z | ⟨xs, a, b⟩
  · exact ⟨o, by rw [z]; exact e, rfl⟩
  · rw [e] at b
    have hb : o.isFz = false := by rcases b with b | b <;> cases b <;> rfl
    rcases a with a | a <;> exact ⟨_, a, by rw [hb]; rfl⟩
theorem Sim.own (h : Sim s s2) {a : Addr} (o : Own m s2 σ a) : Own m s σ a := by
  rcases o with ⟨n, o, e, f, z⟩ | ⟨i, o, z⟩
  · obtain ⟨o1, e1, f1⟩ := h.fz e
    exact .inl ⟨n, o1, e1, f1.trans f, z⟩
  · exact .inr ⟨i, h.ownS o, z⟩
theorem Sim.rel (h : Sim s s2) (r : Rel K m s σ H) : Rel K m s2 σ H := by
  refine ⟨fun n o e => ?_, fun i x e => ?_, h.el.trans r.len, fun n n' o o' e e' f f' z => ?_, fun n o i a e f hi z => ?_, fun i j a hi hj z z' => r.inj3 i j a (h.ownS hi) (h.ownS hj) z z'⟩
  · rcases h.hh n with z | ⟨xs, a, b⟩
    · exact r.hp n o (by rw [z]; exact e)
    · rw [e] at b
      have z : ∃ vs, H (m n) = some (.lst vs) ∧ VsRel K m n H xs vs := by
        rcases a with a | a
        · exact r.hp n _ a
        · exact r.hp n _ a
      rcases b with b | b <;> cases b <;> exact z
  · rw [h.hl]
    rcases h.ee i with z | ⟨xs, a, b⟩
    · exact r.sl i x (by rw [z]; exact e)
    · rw [e] at b
      have z : ∃ v, σ[i]? = some (some v) ∧ ∃ p, v = .ref p ∧ ∃ vs, H p = some (.lst vs) ∧ VsRel K m s.h.length H xs vs := by
        rcases a with a | a
        · exact r.sl i _ a
        · exact r.sl i _ a
      rcases b with b | b <;> cases b <;> exact z
  · obtain ⟨o1, e1, f1⟩ := h.fz e
    obtain ⟨o2, e2, f2⟩ := h.fz e'
    exact r.inj n n' o1 o2 e1 e2 (f1.trans f) (f2.trans f') z
  · obtain ⟨o1, e1, f1⟩ := h.fz e
    exact r.inj2 n o1 i a e1 (f1.trans f) (h.ownS hi) z
theorem Sim.ev (h : Sim s s2) {e : EV} {v : V} (q : EVRel K m s σ H e v) : EVRel K m s2 σ H e v := by
  cases e with
  | pv p => show VRel K m s2.h.length H p v; rw [h.hl]; exact q
  | tmp c => obtain ⟨a, z, z2, no⟩ := q; exact ⟨a, z, by rw [h.hl]; exact z2, fun o => no (h.own o)⟩
  | bw i => exact q
theorem Sim.co (h : Sim s s2) (e : EV) : coOf s2 e = coOf s e := by
  have viaH : ∀ n : Nat, (s2.h[n]?).map DO.co = (s.h[n]?).map DO.co := fun n => by
    rcases h.hh n with z | ⟨xs, a, b⟩
    · rw [z]
    · rcases a with a | a <;> rcases b with b | b <;> rw [a, b] <;> rfl
  cases e with
  | pv p => cases p <;> first | rfl | exact viaH _
  | tmp c => rfl
  | bw i =>
    simp only [coOf]
    rcases h.ee i with z | ⟨xs, a, b⟩
    · rw [← z]
      cases s.env[i]? with
      | none => rfl
      | some o => cases o with
        | none => rfl
        | some sv => cases sv with
          | pv p => cases p <;> first | rfl | exact viaH _
          | own c => rfl
          | lk c => rfl
    · rcases a with a | a <;> rcases b with b | b <;> rw [a, b]
def unl (ls : List Lk) (s : DS) : DS := ls.foldl (fun s l => unlock l s) s
structure Locks (ls : List Lk) (s s2 : DS) : Prop where
  sim : Sim s s2
  off : ∀ (K : Fg) (m m' : Nat → Addr) (s' : DS) (σ σ' : SSt) (H H' : Hp), Ext NoT m s2 σ H m' s' σ' H' → Sim s' (unl ls s') ∧ Ext NoT m s σ H m' (unl ls s') σ' H'
theorem Ext.unsim (x : Ext NoT m s2 σ H m' s' σ' H') (g : Sim s s2) {s3 : DS} (h : Sim s' s3) (hlk : ∀ (i : Nat) (c : CO), s.env[i]? = some (some (.lk c)) → s2.env[i]? = some (some (.lk c)) ∧ s3.env[i]? = s'.env[i]?)
    (hhk : ∀ (n : Nat) (o : DO), (∀ c, o ≠ .rw c) → s.h[n]? = some o → s2.h[n]? = some o ∧ s3.h[n]? = s'.h[n]?) : Ext NoT m s σ H m' s3 σ' H' where
  len := by rw [h.hl, ← g.hl]; exact x.len
  mm := fun k hk => x.mm k (by rw [g.hl]; exact hk)
  fr := fun a o e no _ => x.fr a o e (fun z => no (g.own z)) (fun z => z)
  ow := fun a z => (x.ow a (h.own z)).elim (fun z => .inl (g.own z)) .inr
  dom := x.dom
  lks := fun i c e => by
    obtain ⟨e1, e2⟩ := hlk i c e
    obtain ⟨e3, e4⟩ := x.lks i c e1
    exact ⟨by rw [e2]; exact e3, e4⟩
  lkh := fun n c e => by
    obtain ⟨e1, e2⟩ := hhk n (.lk c) (fun _ z => by cases z) e
    rw [e2]
    exact x.lkh n c e1
  fzh := fun n c e => by
    obtain ⟨e1, e2⟩ := hhk n (.fz c) (fun _ z => by cases z) e
    rw [e2]
    exact x.fzh n c e1
  nfz := fun n o e f => by
    obtain ⟨o1, e1, f1⟩ := g.symm.fz e
    obtain ⟨o2, e2, f2⟩ := x.nfz n o1 e1 (f1.trans f)
    obtain ⟨o3, e3, f3⟩ := h.symm.fz e2
    exact ⟨o3, e3, f3.trans f2⟩
theorem lock_ok {v : EV} {l : Lk} (q : lockF v s = .ok l s2) (hc : ∀ c, coOf s v = some c → ∃ xs, c = .lst xs) : Locks [l] s s2 := by
  have trivial' : l = .none → s2 = s → Locks [l] s s2 := fun e1 e2 => by
    subst e1 e2
    exact ⟨Sim.refl, fun K m m' s' σ σ' H H' x => ⟨Sim.refl, x⟩⟩
  have slot : ∀ i c, s.env[i]? = some (some (.own c)) → (∃ xs, c = .lst xs) → l = .slot i c → s2 = { s with env := s.env.set i (some (.lk c)) } → Locks [l] s s2 := fun i c e1 ⟨xs, e2⟩ e3 e4 => by
    subst e2 e3 e4
    have hi : i < s.env.length := (List.getElem?_eq_some_iff.mp e1).1
    have g : Sim s { s with env := s.env.set i (some (.lk (.lst xs))) } := ⟨rfl, List.length_set, fun _ => .inl rfl, fun j => by
      by_cases hj : i = j
      · subst hj
        exact .inr ⟨xs, .inl e1, .inr (List.getElem?_set_self hi)⟩
      · exact .inl (List.getElem?_set_ne hj).symm⟩
    refine ⟨g, fun K m m' s' σ σ' H H' x => ?_⟩
    have hlk : s'.env[i]? = some (some (.lk (.lst xs))) := (x.lks i (.lst xs) (List.getElem?_set_self hi)).1
    have hi' : i < s'.env.length := (List.getElem?_eq_some_iff.mp hlk).1
    have h : Sim s' (unl [.slot i (.lst xs)] s') := ⟨rfl, List.length_set, fun _ => .inl rfl, fun j => by
      by_cases hj : i = j
      · subst hj
        exact .inr ⟨xs, .inr hlk, .inl (List.getElem?_set_self hi')⟩
      · exact .inl (List.getElem?_set_ne hj).symm⟩
    refine ⟨h, x.unsim g h (fun j c e => ?_) fun n o _ e => ⟨e, rfl⟩⟩
    have hj : i ≠ j := by rintro rfl; rw [e1] at e; cases e
    exact ⟨by rw [← e]; exact List.getElem?_set_ne hj, List.getElem?_set_ne hj⟩
  have hp : ∀ n c, s.h[n]? = some (.rw c) → (∃ xs, c = .lst xs) → l = .hp n c → s2 = { s with h := s.h.set n (.lk c) } → Locks [l] s s2 := fun n c e1 ⟨xs, e2⟩ e3 e4 => by
    subst e2 e3 e4
    have hi : n < s.h.length := (List.getElem?_eq_some_iff.mp e1).1
    have g : Sim s { s with h := s.h.set n (.lk (.lst xs)) } := ⟨List.length_set, rfl, fun j => by
      by_cases hj : n = j
      · subst hj
        exact .inr ⟨xs, .inl e1, .inr (List.getElem?_set_self hi)⟩
      · exact .inl (List.getElem?_set_ne hj).symm, fun _ => .inl rfl⟩
    refine ⟨g, fun K m m' s' σ σ' H H' x => ?_⟩
    have hlk : s'.h[n]? = some (.lk (.lst xs)) := x.lkh n (.lst xs) (List.getElem?_set_self hi)
    have hi' : n < s'.h.length := (List.getElem?_eq_some_iff.mp hlk).1
    have h : Sim s' (unl [.hp n (.lst xs)] s') := ⟨List.length_set, rfl, fun j => by
      by_cases hj : n = j
      · subst hj
        exact .inr ⟨xs, .inr hlk, .inl (List.getElem?_set_self hi')⟩
      · exact .inl (List.getElem?_set_ne hj).symm, fun _ => .inl rfl⟩
    refine ⟨h, x.unsim g h (fun j c e => ⟨e, rfl⟩) fun j o no e => ?_⟩
    have hj : n ≠ j := by rintro rfl; rw [e1] at e; cases e; exact no _ rfl
    exact ⟨by rw [← e]; exact List.getElem?_set_ne hj, List.getElem?_set_ne hj⟩
  cases v with
  | tmp c => cases q; exact trivial' rfl rfl
  | pv p =>
    cases p with
    | ref n =>
      simp only [lockF] at q
      split at q
      · rename_i c e1
        cases q
        exact hp n c e1 (hc c (by simp only [coOf, e1]; rfl)) rfl rfl
      · cases q; exact trivial' rfl rfl
    | _ => cases q; exact trivial' rfl rfl
  | bw i =>
    simp only [lockF] at q
    split at q
    · rename_i c e1
      cases q
      exact slot i c e1 (hc c (by simp only [coOf, e1])) rfl rfl
    · rename_i n e1
      split at q
      · rename_i c e2
        cases q
        exact hp n c e2 (hc c (by simp only [coOf, e1, e2]; rfl)) rfl rfl
      · cases q; exact trivial' rfl rfl
    · cases q; exact trivial' rfl rfl
theorem lockF_noex {v : EV} {x : EX} (q : lockF v s = .ex x s') : False := by
  unfold lockF at q
  repeat (first | cases q | split at q)
theorem Locks.trans {ls ls' : List Lk} {s1 s2 : DS} (h : Locks ls s s1) (g : Locks ls' s1 s2) : Locks (ls' ++ ls) s s2 := by
  refine ⟨h.sim.trans g.sim, fun K m m' s' σ σ' H H' x => ?_⟩
  obtain ⟨q1, x1⟩ := g.off K m m' s' σ σ' H H' x
  obtain ⟨q2, x2⟩ := h.off K m m' (unl ls' s') σ σ' H H' x1
  have e : unl (ls' ++ ls) s' = unl ls (unl ls' s') := by unfold unl; rw [List.foldl_append]
  rw [e]
  exact ⟨q1.trans q2, x2⟩
theorem lockL_ok : ∀ {vs : List EV} {acc : List Lk} {s : DS} {RR : List Lk → DS → Prop} {Y : EX → DS → Prop}, wp (lockL vs acc) s RR Y → (∀ v ∈ vs, ∀ c, coOf s v = some c → ∃ xs, c = .lst xs) → ∃ ls s2, Locks ls s s2 ∧ RR (ls ++ acc) s2
  | [], acc, s, RR, Y, w, _ => ⟨[], s, ⟨Sim.refl, fun K m m' s' σ σ' H H' x => ⟨Sim.refl, x⟩⟩, w⟩
  | v :: vs, acc, s, RR, Y, w, hc => by
    simp only [lockL] at w
    have w := wp_bnd.mp w
    unfold wp at w
    cases q : lockF v s with
    | no => rw [q] at w; exact w.elim
    | ex x s1 => exact (lockF_noex q).elim
    | ok l s1 =>
      rw [q] at w
      have h1 := lock_ok q (hc v List.mem_cons_self)
      obtain ⟨ls, s2, h2, w2⟩ := lockL_ok (show wp (lockL vs (l :: acc)) s1 RR Y from w) fun u hu c e => hc u (List.mem_cons_of_mem _ hu) c (by rw [← h1.sim.co]; exact e)
      refine ⟨ls ++ [l], s2, h1.trans h2, ?_⟩
      rw [List.append_assoc]
      exact w2
structure Walk (K : Fg) (J : It) (xs : List PV) (m : Nat → Addr) (s : DS) (σ : SSt) (H : Hp) : Prop where
  go : ∀ (m' : Nat → Addr) (s' : DS) (σ' : SSt) (H' : Hp) (i : Nat) (p : PV), Rel K m' s' σ' H' → Ext NoT m s σ H m' s' σ' H' → xs[i]? = some p → J.go i H' ∧ ∀ x H2, J.yld i H' x H2 → (∀ a o, H' a = some o → H2 a = some o) ∧ VRel K m' s'.h.length H2 p x
  stop : ∀ (m' : Nat → Addr) (s' : DS) (σ' : SSt) (H' : Hp), Rel K m' s' σ' H' → Ext NoT m s σ H m' s' σ' H' → J.stop xs.length H'
def Stays (K : Fg) (xs : List PV) (m : Nat → Addr) (s : DS) (σ : SSt) (H : Hp) (P : Hp → List V → Prop) : Prop :=
  ∀ (m' : Nat → Addr) (s' : DS) (σ' : SSt) (H' : Hp), Rel K m' s' σ' H' → Ext NoT m s σ H m' s' σ' H' → ∃ vs, P H' vs ∧ VsRel K m' s'.h.length H' xs vs
theorem walk_list {xs : List PV} {a : Addr} (h : Stays K xs m s σ H fun H' vs => SqL K H' a vs) : Walk K (Itl K a) xs m s σ H := by
  refine ⟨fun m' s' σ' H' i p r x e => ?_, fun m' s' σ' H' r x => ?_⟩
  · obtain ⟨vs, h1, h2⟩ := h m' s' σ' H' r x
    obtain ⟨u, h3, h4⟩ := h2.get e
    refine ⟨⟨vs, u, h1, h3⟩, fun y H2 ⟨e1, e2⟩ => ?_⟩
    subst e1
    have := e2 vs h1
    rw [h3] at this; cases this
    exact ⟨fun _ _ z => z, h4⟩
  · obtain ⟨vs, h1, h2⟩ := h m' s' σ' H' r x
    exact ⟨vs, h1, by rw [h2.length]; exact Nat.le_refl _⟩
theorem walk_tup {xs : List PV} {a : Addr} (h : Stays K xs m s σ H fun H' vs => SqT K H' a vs) : Walk K (Itt K a) xs m s σ H := by
  refine ⟨fun m' s' σ' H' i p r x e => ?_, fun m' s' σ' H' r x => ?_⟩
  · obtain ⟨vs, h1, h2⟩ := h m' s' σ' H' r x
    obtain ⟨u, h3, h4⟩ := h2.get e
    refine ⟨⟨vs, u, h1, h3⟩, fun y H2 ⟨e1, e2⟩ => ?_⟩
    subst e1
    have := e2 vs h1
    rw [h3] at this; cases this
    exact ⟨fun _ _ z => z, h4⟩
  · obtain ⟨vs, h1, h2⟩ := h m' s' σ' H' r x
    exact ⟨vs, h1, by rw [h2.length]; exact Nat.le_refl _⟩
theorem rangeL_get : ∀ (n : Nat) (lo : Int) (i : Nat) (p : PV), (rangeL lo n)[i]? = some p → i < n ∧ p = .int (lo + i)
  | 0, lo, i, p, h => by simp [rangeL] at h
  | n + 1, lo, 0, p, h => by simp [rangeL] at h; subst h; simp
  | n + 1, lo, i + 1, p, h => by
    simp only [rangeL, List.getElem?_cons_succ] at h
    obtain ⟨h1, h2⟩ := rangeL_get n (lo + 1) i p h
    refine ⟨by omega, ?_⟩
    subst h2
    congr 1
    omega
theorem rangeL_length : ∀ (n : Nat) (lo : Int), (rangeL lo n).length = n
  | 0, _ => rfl
  | n + 1, lo => by simp only [rangeL, List.length_cons, rangeL_length n]
theorem walk_range {lo : Int} {n : Nat} : Walk K (Itr lo n) (rangeL lo n) m s σ H := by
  refine ⟨fun m' s' σ' H' i p r x e => ?_, fun m' s' σ' H' r x => ?_⟩
  · obtain ⟨h1, h2⟩ := rangeL_get n lo i p e
    subst h2
    refine ⟨h1, fun y H2 ⟨e1, e2⟩ => ?_⟩
    subst e1 e2
    exact ⟨fun _ _ z => z, vi⟩
  · show n ≤ _
    rw [rangeL_length]
    exact Nat.le_refl _
theorem rangeC_get : ∀ (n : Nat) (lo c : Int) (i : Nat) (p : PV), (rangeC lo c n)[i]? = some p → i < n ∧ p = .int (lo + (i : Nat) * c)
  | 0, _, _, _, _, h => by simp [rangeC] at h
  | n + 1, lo, c, 0, p, h => by
    simp [rangeC] at h; subst h
    exact ⟨by omega, by simp⟩
  | n + 1, lo, c, i + 1, p, h => by
    simp only [rangeC, List.getElem?_cons_succ] at h
    obtain ⟨h1, h2⟩ := rangeC_get n (lo + c) c i p h
    refine ⟨by omega, ?_⟩
    rw [h2]
    congr 1
    rw [Int.natCast_add, Int.add_mul]
    show lo + c + _ = lo + (_ + 1 * c)
    omega
theorem rangeC_length : ∀ (n : Nat) (lo c : Int), (rangeC lo c n).length = n
  | 0, _, _ => rfl
  | n + 1, lo, c => by simp only [rangeC, List.length_cons, rangeC_length n]
theorem walk_rangeC {lo c : Int} {n : Nat} : Walk K (Itc lo c n) (rangeC lo c n) m s σ H := by
  refine ⟨fun m' s' σ' H' i p r x e => ?_, fun m' s' σ' H' r x => ?_⟩
  · obtain ⟨h1, h2⟩ := rangeC_get n lo c i p e
    subst h2
    refine ⟨h1, fun y H2 ⟨e1, e2⟩ => ?_⟩
    subst e1 e2
    exact ⟨fun _ _ z => z, vi⟩
  · show n ≤ _
    rw [rangeC_length]
    exact Nat.le_refl _
theorem enumL_get : ∀ (xs : List PV) (k i : Nat) (p : PV), (enumL k xs)[i]? = some p → ∃ q, xs[i]? = some q ∧ p = .tup [.int ((k + i : Nat) : Int), q]
  | [], _, _, _, h => by simp [enumL] at h
  | x :: r, k, 0, p, h => by simp [enumL] at h; subst h; exact ⟨x, rfl, rfl⟩
  | x :: r, k, i + 1, p, h => by
    simp only [enumL, List.getElem?_cons_succ] at h
    obtain ⟨q, h1, h2⟩ := enumL_get r (k + 1) i p h
    refine ⟨q, by simpa using h1, ?_⟩
    rw [h2]
    have : k + 1 + i = k + (i + 1) := by omega
    rw [this]
theorem enumL_length : ∀ (xs : List PV) (k : Nat), (enumL k xs).length = xs.length
  | [], _ => rfl
  | x :: r, k => by simp only [enumL, List.length_cons, enumL_length r]
theorem pair_rel {n : Nat} {p q : PV} {x y : V} {T : Addr} (h1 : VRel K m n H p x) (h2 : VRel K m n H q y) (hT : H T = none) : VRel K m n (upd H T (.tup [x, y])) (.tup [p, q]) (.ref T) := by
  have g := sqT_grow (K := K) (upd_grow (o := HO.tup [x, y]) hT)
  simp only [VRel, VsRel]
  exact ⟨T, [x, y], rfl, SqT.of upd_same, x, [y], rfl, VRel.mono (fun _ _ => rfl) (Nat.le_refl _) g h1, y, [], rfl, VRel.mono (fun _ _ => rfl) (Nat.le_refl _) g h2, rfl⟩
theorem walk_enum {xs : List PV} {a : Addr} (h : Stays K xs m s σ H fun H' vs => SqL K H' a vs) : Walk K (Ite K a) (enumL 0 xs) m s σ H := by
  refine ⟨fun m' s' σ' H' i p r x e => ?_, fun m' s' σ' H' r x => ?_⟩
  · obtain ⟨vs, h1, h2⟩ := h m' s' σ' H' r x
    obtain ⟨q, e1, e2⟩ := enumL_get xs 0 i p e
    obtain ⟨u, h3, h4⟩ := h2.get e1
    subst e2
    refine ⟨⟨vs, u, h1, h3⟩, fun y H2 ⟨T, z, e3, e4, e5, e6⟩ => ?_⟩
    subst e3 e5
    have := e6 vs h1
    rw [h3] at this; cases this
    refine ⟨upd_grow e4, ?_⟩
    rw [Nat.zero_add]
    exact pair_rel vi h4 e4
  · obtain ⟨vs, h1, h2⟩ := h m' s' σ' H' r x
    exact ⟨vs, h1, by rw [h2.length, enumL_length]; exact Nat.le_refl _⟩
theorem walk_enumT {xs : List PV} {a : Addr} (h : Stays K xs m s σ H fun H' vs => SqT K H' a vs) : Walk K (IteT K a) (enumL 0 xs) m s σ H := by
  refine ⟨fun m' s' σ' H' i p r x e => ?_, fun m' s' σ' H' r x => ?_⟩
  · obtain ⟨vs, h1, h2⟩ := h m' s' σ' H' r x
    obtain ⟨q, e1, e2⟩ := enumL_get xs 0 i p e
    obtain ⟨u, h3, h4⟩ := h2.get e1
    subst e2
    refine ⟨⟨vs, u, h1, h3⟩, fun y H2 ⟨T, z, e3, e4, e5, e6⟩ => ?_⟩
    subst e3 e5
    have := e6 vs h1
    rw [h3] at this; cases this
    refine ⟨upd_grow e4, ?_⟩
    rw [Nat.zero_add]
    exact pair_rel vi h4 e4
  · obtain ⟨vs, h1, h2⟩ := h m' s' σ' H' r x
    exact ⟨vs, h1, by rw [h2.length, enumL_length]; exact Nat.le_refl _⟩
theorem zipL_get : ∀ (xs ys : List PV) (i : Nat) (p : PV), (zipL xs ys)[i]? = some p → ∃ q r, xs[i]? = some q ∧ ys[i]? = some r ∧ p = .tup [q, r]
  | [], _, _, _, h => by simp [zipL] at h
  | _ :: _, [], _, _, h => by simp [zipL] at h
  | x :: xs, y :: ys, 0, p, h => by simp [zipL] at h; subst h; exact ⟨x, y, rfl, rfl, rfl⟩
  | x :: xs, y :: ys, i + 1, p, h => by
    simp only [zipL, List.getElem?_cons_succ] at h
    obtain ⟨q, r, h1, h2, h3⟩ := zipL_get xs ys i p h
    exact ⟨q, r, by simpa using h1, by simpa using h2, h3⟩
theorem zipL_length : ∀ (xs ys : List PV), (zipL xs ys).length = min xs.length ys.length
  | [], _ => by simp [zipL]
  | _ :: _, [] => by simp [zipL]
  | x :: xs, y :: ys => by simp only [zipL, List.length_cons, zipL_length xs ys]; omega
theorem walk_zip {xs ys : List PV} {a b : Addr} (h : Stays K xs m s σ H fun H' vs => SqL K H' a vs) (g : Stays K ys m s σ H fun H' vs => SqL K H' b vs) : Walk K (Itz K a b) (zipL xs ys) m s σ H := by
  refine ⟨fun m' s' σ' H' i p r x e => ?_, fun m' s' σ' H' r x => ?_⟩
  · obtain ⟨vs, h1, h2⟩ := h m' s' σ' H' r x
    obtain ⟨us, g1, g2⟩ := g m' s' σ' H' r x
    obtain ⟨q, q', e1, e1', e2⟩ := zipL_get xs ys i p e
    obtain ⟨u, h3, h4⟩ := h2.get e1
    obtain ⟨u', g3, g4⟩ := g2.get e1'
    subst e2
    refine ⟨⟨vs, us, u, u', h1, g1, h3, g3⟩, fun y H2 ⟨T, z, z', e3, e4, e5, e6, e7⟩ => ?_⟩
    subst e3 e5
    have t1 := e6 vs h1
    rw [h3] at t1; cases t1
    have t2 := e7 us g1
    rw [g3] at t2; cases t2
    exact ⟨upd_grow e4, pair_rel h4 g4 e4⟩
  · obtain ⟨vs, h1, h2⟩ := h m' s' σ' H' r x
    obtain ⟨us, g1, g2⟩ := g m' s' σ' H' r x
    refine ⟨vs, us, h1, g1, ?_⟩
    rw [h2.length, g2.length, zipL_length]
    omega
theorem walk_zipT {xs ys : List PV} {a b : Addr} (h : Stays K xs m s σ H fun H' vs => SqT K H' a vs) (g : Stays K ys m s σ H fun H' vs => SqT K H' b vs) : Walk K (RZ.ItzT K a b) (zipL xs ys) m s σ H := by
  refine ⟨fun m' s' σ' H' i p r x e => ?_, fun m' s' σ' H' r x => ?_⟩
  · obtain ⟨vs, h1, h2⟩ := h m' s' σ' H' r x
    obtain ⟨us, g1, g2⟩ := g m' s' σ' H' r x
    obtain ⟨q, q', e1, e1', e2⟩ := zipL_get xs ys i p e
    obtain ⟨u, h3, h4⟩ := h2.get e1
    obtain ⟨u', g3, g4⟩ := g2.get e1'
    subst e2
    refine ⟨⟨vs, us, u, u', h1, g1, h3, g3⟩, fun y H2 ⟨T, z, z', e3, e4, e5, e6, e7⟩ => ?_⟩
    subst e3 e5
    have t1 := e6 vs h1
    rw [h3] at t1; cases t1
    have t2 := e7 us g1
    rw [g3] at t2; cases t2
    exact ⟨upd_grow e4, pair_rel h4 g4 e4⟩
  · obtain ⟨vs, h1, h2⟩ := h m' s' σ' H' r x
    obtain ⟨us, g1, g2⟩ := g m' s' σ' H' r x
    refine ⟨vs, us, h1, g1, ?_⟩
    rw [h2.length, g2.length, zipL_length]
    omega
theorem stays_tup {xs : List PV} {vs : List V} {a : Addr} (r : Rel K m s σ H) (h : SqT K H a vs) (q : VsRel K m s.h.length H xs vs) : Stays K xs m s σ H fun H' vs => SqT K H' a vs := fun m' s' σ' H' r' x => by
  have ht := x.sqT r fun _ z => z.elim
  exact ⟨vs, ht a vs h, q.mono x.mm x.len ht⟩
theorem stays_list {v : EV} {l : Lk} {w : V} {xs : List PV} {s1 : DS} (r : Rel K m s σ H) (h : EVRel K m s σ H v w) (q : coOf s v = some (.lst xs)) (hl : lockF v s = .ok l s1) {ls : List Lk} {s2 : DS} (more : Locks ls s1 s2) (keep : ∀ (i : Nat) (c : CO), s1.env[i]? = some (some (.lk c)) → s2.env[i]? = some (some (.lk c))) (keepH : ∀ (n : Nat) (o : DO), (∀ c, o ≠ .rw c) → s1.h[n]? = some o → s2.h[n]? = some o) :
    ∃ a, w = .ref a ∧ Stays K xs m s2 σ H fun H' vs => SqL K H' a vs := by
  have r1 : Rel K m s1 σ H := (lock_ok hl fun c e => by rw [q] at e; cases e; exact ⟨xs, rfl⟩).sim.rel r
  have hlen : s2.h.length = s.h.length := more.sim.hl.trans (lock_ok hl fun c e => by rw [q] at e; cases e; exact ⟨xs, rfl⟩).sim.hl
  have sim1 : Sim s s1 := (lock_ok hl fun c e => by rw [q] at e; cases e; exact ⟨xs, rfl⟩).sim
  have viaH : ∀ (n : Nat) (u : V) (o : DO), VRel K m s.h.length H (.ref n) u → s1.h[n]? = some o → (∀ c, o ≠ .rw c) → o.co = .lst xs → ∃ a, u = .ref a ∧ Stays K xs m s2 σ H fun H' vs => SqL K H' a vs := fun n u o hv e1 no ec => by
    simp only [VRel] at hv
    obtain ⟨hn, rfl⟩ := hv
    refine ⟨_, rfl, fun m' s' σ' H' r' x => ?_⟩
    have e2 := keepH n o no e1
    have e3 : s'.h[n]? = some o := by
      cases o with
      | rw c => exact (no c rfl).elim
      | lk c => exact x.lkh n c e2
      | fz c => exact x.fzh n c e2
    have z := heap_rd r' e3
    rw [ec, x.mm n (by rw [hlen]; exact hn)] at z
    obtain ⟨a, vs, e4, e5, e6⟩ := z
    cases e4
    exact ⟨vs, e5, e6⟩
  have viaE : ∀ (i : Nat) (u : V), σ[i]? = some (some u) → s1.env[i]? = some (some (.lk (.lst xs))) → ∃ a, u = .ref a ∧ Stays K xs m s2 σ H fun H' vs => SqL K H' a vs := fun i u hv e1 => by
    obtain ⟨u', h1, a, h2, _⟩ := r1.sl i _ e1
    rw [hv] at h1; cases h1; subst h2
    refine ⟨a, rfl, fun m' s' σ' H' r' x => ?_⟩
    obtain ⟨e2, e3⟩ := x.lks i (.lst xs) (keep i _ e1)
    obtain ⟨u', h3, b, h4, vs, h5, h6⟩ := r'.sl i _ e2
    rw [e3, hv] at h3; cases h3; cases h4
    exact ⟨vs, SqL.of h5, h6⟩
  cases v with
  | tmp c =>
    simp only [coOf, Option.some.injEq] at q
    subst q
    cases hl
    obtain ⟨a, rfl, ⟨vs, h1, h2⟩, no⟩ := h
    refine ⟨a, rfl, fun m' s' σ' H' r' x => ?_⟩
    have no2 : ¬ Own m s2 σ a := fun z => no (more.sim.own z)
    have r2 := more.sim.rel r
    exact ⟨vs, SqL.of (x.fr a _ h1 no2 (fun z => z)), h2.mono (fun k hk => x.mm k (by rw [hlen]; exact hk)) (by rw [← hlen]; exact x.len) (x.sqT r2 fun _ z => z.elim)⟩
  | pv p =>
    cases p with
    | ref n =>
      simp only [coOf, Option.map_eq_some_iff] at q
      obtain ⟨o, e1, e2⟩ := q
      have hn : n < s.h.length := (List.getElem?_eq_some_iff.mp e1).1
      simp only [lockF, e1] at hl
      cases o with
      | rw c =>
        cases hl
        exact viaH n w (.lk c) h (List.getElem?_set_self hn) (fun _ z => by cases z) e2
      | lk c => cases hl; exact viaH n w _ h e1 (fun _ z => by cases z) e2
      | fz c => cases hl; exact viaH n w _ h e1 (fun _ z => by cases z) e2
    | _ => simp [coOf] at q
  | bw i =>
    have hv : σ[i]? = some (some w) := h
    simp only [coOf] at q
    split at q
    · rename_i c e1
      cases q
      simp only [lockF, e1] at hl
      cases hl
      exact viaE i w hv (List.getElem?_set_self (List.getElem?_eq_some_iff.mp e1).1)
    · rename_i c e1
      cases q
      simp only [lockF, e1] at hl
      cases hl
      exact viaE i w hv e1
    · rename_i n e1
      obtain ⟨v', h1, h2⟩ := r.sl i _ e1
      rw [hv] at h1; cases h1
      simp only [Option.map_eq_some_iff] at q
      obtain ⟨o, e3, e2⟩ := q
      have hn : n < s.h.length := (List.getElem?_eq_some_iff.mp e3).1
      simp only [lockF, e1, e3] at hl
      cases o with
      | rw c =>
        cases hl
        exact viaH n w (.lk c) h2 (List.getElem?_set_self hn) (fun _ z => by cases z) e2
      | lk c => cases hl; exact viaH n w _ h2 e3 (fun _ z => by cases z) e2
      | fz c => cases hl; exact viaH n w _ h2 e3 (fun _ z => by cases z) e2
    · cases q
theorem lock_keeps {v : EV} {l : Lk} (q : lockF v s = .ok l s2) : (∀ (i : Nat) (c : CO), s.env[i]? = some (some (.lk c)) → s2.env[i]? = some (some (.lk c))) ∧ ∀ (n : Nat) (o : DO), (∀ c, o ≠ .rw c) → s.h[n]? = some o → s2.h[n]? = some o := by
  have same : s2 = s → (∀ (i : Nat) (c : CO), s.env[i]? = some (some (.lk c)) → s2.env[i]? = some (some (.lk c))) ∧ ∀ (n : Nat) (o : DO), (∀ c, o ≠ .rw c) → s.h[n]? = some o → s2.h[n]? = some o := fun e => by
    subst e; exact ⟨fun _ _ z => z, fun _ _ _ z => z⟩
  have slot : ∀ i c, s.env[i]? = some (some (.own c)) → s2 = { s with env := s.env.set i (some (.lk c)) } → (∀ (i : Nat) (c : CO), s.env[i]? = some (some (.lk c)) → s2.env[i]? = some (some (.lk c))) ∧ ∀ (n : Nat) (o : DO), (∀ c, o ≠ .rw c) → s.h[n]? = some o → s2.h[n]? = some o := fun i c e1 e2 => by
    subst e2
    refine ⟨fun j d e => ?_, fun _ _ _ z => z⟩
    have hj : i ≠ j := by rintro rfl; rw [e1] at e; cases e
    rw [← e]; exact List.getElem?_set_ne hj
  have hp : ∀ n c, s.h[n]? = some (.rw c) → s2 = { s with h := s.h.set n (.lk c) } → (∀ (i : Nat) (c : CO), s.env[i]? = some (some (.lk c)) → s2.env[i]? = some (some (.lk c))) ∧ ∀ (n : Nat) (o : DO), (∀ c, o ≠ .rw c) → s.h[n]? = some o → s2.h[n]? = some o := fun i c e1 e2 => by
    subst e2
    refine ⟨fun _ _ z => z, fun j d no e => ?_⟩
    have hj : i ≠ j := by rintro rfl; rw [e1] at e; cases e; exact no _ rfl
    rw [← e]; exact List.getElem?_set_ne hj
  cases v with
  | tmp c => cases q; exact same rfl
  | pv p =>
    cases p with
    | ref n =>
      simp only [lockF] at q
      split at q
      · rename_i c e1; cases q; exact hp n c e1 rfl
      · cases q; exact same rfl
    | _ => cases q; exact same rfl
  | bw i =>
    simp only [lockF] at q
    split at q
    · rename_i c e1; cases q; exact slot i c e1 rfl
    · split at q
      · rename_i c e2; cases q; exact hp _ c e2 rfl
      · cases q; exact same rfl
    · cases q; exact same rfl
end
end DV
namespace DV
open PySem PySem.Spec PyProof.Rows L2
section
variable {X : Cx} {F : FE} {W : WX} {a b c : Expr} {ea eb ec : E} {es : List Expr} {cs : List E} {pos : Pos} {st : Stmt} {sts : List Stmt} {d : S} {ds : List S}
variable {K : Fg} {m m' : Nat → Addr} {s s' s2 : DS} {σ σ' : SSt} {H H' : Hp} {T : Addr → Prop} {D : Ends}
def walkM (F : FE) (k : ItK) (its : List E) : M (List PV × List Lk) := M.bnd (evs F its) fun vs => M.bnd (itemsK k vs) fun xs => M.bnd (lockL vs []) fun ls => M.ret (xs, ls)
def OkW (K : Fg) (m : Nat → Addr) (s : DS) (σ : SSt) (H : Hp) (R : It → Hp → Prop) : List PV × List Lk → DS → Prop := fun z s2 => ∀ m1 s1 H1 J, Rel K m1 s1 σ H1 → Ext NoT m s σ H m1 s1 σ H1 → Locks z.2 s1 s2 → Walk K J z.1 m1 s2 σ H1 → R J H1
def Iw (K : Fg) (W : WX) (c : M (List PV × List Lk)) : TI := fun σ H R => ∃ m s, Rel K m s σ H ∧ wp c s (OkW K m s σ H R) (ExW K W m s σ H)
theorem ex_of {α β : Type} {c : M α} {f : α → M β} {RR : β → DS → Prop} {Y : EX → DS → Prop} {x : EX} {s1 : DS} (e : c s = .ex x s1) (w : wp (M.bnd c f) s RR Y) : ∀ {Q : α → DS → Prop}, wp c s Q Y := fun {Q} => by
  unfold wp M.bnd at w
  unfold wp
  rw [e] at w ⊢
  exact w
theorem wp_at {α β : Type} {c : M α} {f : α → M β} {RR : β → DS → Prop} {Y : EX → DS → Prop} {x : α} {s1 : DS} (e : c s = .ok x s1) (w : wp (M.bnd c f) s RR Y) : wp (f x) s1 RR Y := by
  unfold wp M.bnd at w
  rw [e] at w
  exact w
theorem wp_ok {α : Type} {c : M α} {RR : α → DS → Prop} {Y : EX → DS → Prop} {x : α} {s1 : DS} (e : c s = .ok x s1) (w : RR x s1) : wp c s RR Y := by
  unfold wp
  rw [e]
  exact w
theorem lock1 {v : EV} {RR : List Lk → DS → Prop} {Y : EX → DS → Prop} (w : wp (lockL [v] []) s RR Y) : ∃ l s1, lockF v s = .ok l s1 ∧ RR [l] s1 := by
  simp only [lockL] at w
  cases q : lockF v s with
  | no => exact (show False from wp_eq (d := M.no) (wp_bnd.mp w) q).elim
  | ex x s3 => exact (lockF_noex q).elim
  | ok l s3 => exact ⟨l, s3, rfl, wp_at q w⟩
theorem lock2 {v u : EV} {RR : List Lk → DS → Prop} {Y : EX → DS → Prop} (w : wp (lockL [v, u] []) s RR Y) : ∃ l s1 l2 s2, lockF v s = .ok l s1 ∧ lockF u s1 = .ok l2 s2 ∧ RR [l2, l] s2 := by
  simp only [lockL] at w
  cases q : lockF v s with
  | no => exact (show False from wp_eq (d := M.no) (wp_bnd.mp w) q).elim
  | ex x s3 => exact (lockF_noex q).elim
  | ok l s3 =>
    have w := wp_at q w
    cases q2 : lockF u s3 with
    | no => exact (show False from wp_eq (d := M.no) (wp_bnd.mp w) q2).elim
    | ex x s4 => exact (lockF_noex q2).elim
    | ok l2 s4 => exact ⟨l, s3, l2, s4, rfl, q2, wp_at q2 w⟩
theorem Locks.refl : Locks [] s s := ⟨Sim.refl, fun K m m' s' σ σ' H H' x => ⟨Sim.refl, x⟩⟩
theorem coOf_items {v : EV} {xs : List PV} (q : itemsOf s v = some (true, xs)) : coOf s v = some (.lst xs) := by
  unfold itemsOf at q
  split at q
  · cases q
  · split at q
    · rename_i e; cases q; exact e
    · cases q
theorem only_lst {v : EV} {c0 : CO} (q : coOf s v = some c0) (h : ∃ xs, c0 = .lst xs) : ∀ c, coOf s v = some c → ∃ xs, c = .lst xs := fun c e => by
  rw [q] at e; cases e; exact h
theorem ik_seq {v : EV} : itemsK .seq [v] = seqItems v := rfl
theorem ik_rng1 {v : EV} : itemsK .rng1 [v] s = match pvOf s v with
    | some (.int j) => M.bnd (M.chk (rngOk j)) (fun _ => M.ret (rangeL 0 j.toNat)) s
    | _ => .no := rfl
theorem ik_rng2 {v u : EV} : itemsK .rng2 [v, u] s = match pvOf s v, pvOf s u with
    | some (.int i), some (.int j) => M.bnd (M.chk (rngOk i && rngOk j)) (fun _ => M.ret (rangeL i (j - i).toNat)) s
    | _, _ => .no := rfl
theorem ik_enum {v : EV} : itemsK .enum [v] s = match itemsOf s v with
    | some (_, xs) => .ok (enumL 0 xs) s
    | none => .no := rfl
theorem ik_zip {v u : EV} : itemsK .zip [v, u] s = match itemsOf s v, itemsOf s u with
    | some (true, xs), some (true, ys) => .ok (zipL xs ys) s
    | some (false, xs), some (false, ys) => .ok (zipL xs ys) s
    | _, _ => .no := rfl
theorem iw_seq {tg : Expr} (he : DE X F W a ea) : PI X tg a (Iw X.K W (walkM F .seq [ea])) := by
  refine ⟨fun pins sh σ H R I ⟨m, s, r, w⟩ => ?_⟩
  have key : iList X.K (De X.K W (evE F ea)) σ H R ∨ iTup X.K (De X.K W (evE F ea)) σ H R := by
    unfold walkM at w
    simp only [evs] at w
    have w := wp_bnd.mp w
    cases q : evE F ea s with
    | no => exact (show False from wp_eq (d := M.no) (wp_bnd.mp w) q).elim
    | ex x s1 => exact .inl ⟨m, s, r, ex_of q w⟩
    | ok ev s1 =>
      have w0 := wp_at q w
      have w1 : wp (M.bnd (itemsK .seq [ev]) fun xs => M.bnd (lockL [ev] []) fun ls => M.ret (xs, ls)) s1 (OkW X.K m s σ H R) (ExW X.K W m s σ H) := w0
      have w1 := wp_bnd.mp w1
      have fin : ∀ (P : V → Hp → Prop), (∀ m1 H1 v, Rel X.K m1 s1 σ H1 → Ext NoT m s σ H m1 s1 σ H1 → EVRel X.K m1 s1 σ H1 ev v → P v H1) → De X.K W (evE F ea) σ H P := fun P h => ⟨m, s, r, wp_ok q fun m1 H1 v r1 x1 e1 _ => h m1 H1 v r1 x1 e1⟩
      cases q2 : itemsOf s1 ev with
      | none => exact (show False from wp_eq (d := M.no) w1 (by simp only [ik_seq, seqItems, q2])).elim
      | some z =>
        obtain ⟨bb, xs⟩ := z
        have w2 : wp (M.bnd (lockL [ev] []) fun ls => M.ret (xs, ls)) s1 (OkW X.K m s σ H R) (ExW X.K W m s σ H) := wp_eq (d := M.ret xs) w1 (by simp only [ik_seq, seqItems, q2])
        obtain ⟨l, s3, q3, w3⟩ := lock1 (wp_bnd.mp w2)
        have w3 : OkW X.K m s σ H R (xs, [l]) s3 := w3
        cases bb with
        | true =>
          have qc := coOf_items q2
          have lk := lock_ok q3 (only_lst qc ⟨xs, rfl⟩)
          refine .inl (fin _ fun m1 H1 v r1 x1 e1 => ?_)
          obtain ⟨p, vs, rfl, h1, h2⟩ := itemsOf_rel r1 e1 q2
          obtain ⟨p', e2, st⟩ := stays_list r1 e1 qc q3 Locks.refl (fun _ _ z => z) (fun _ _ _ z => z)
          cases e2
          exact ⟨p, rfl, ⟨vs, h1⟩, w3 m1 s1 H1 _ r1 x1 lk (walk_list st)⟩
        | false =>
          have lk := lock_ok q3 fun c e => by
            unfold itemsOf at q2
            split at q2
            · simp [coOf] at e
            · rw [e] at q2
              cases c with
              | lst xs => exact ⟨xs, rfl⟩
              | dct _ => cases q2
          refine .inr (fin _ fun m1 H1 v r1 x1 e1 => ?_)
          obtain ⟨p, vs, rfl, h1, h2⟩ := itemsOf_rel r1 e1 q2
          refine ⟨p, rfl, ⟨vs, h1⟩, w3 m1 s1 H1 _ r1 x1 lk (walk_tup ?_)⟩
          exact stays_tup (lk.sim.rel r1) h1 (by rw [lk.sim.hl]; exact h2)
  rcases key with q | q
  · exact (pi_list he).run pins sh σ H R I q
  · exact (pi_tup he).run pins sh σ H R I q
theorem pv_int_co {v : EV} {i : Int} (h : pvOf s v = some (.int i)) : ∀ c, coOf s v = some c → ∃ xs, c = .lst xs := fun c e => by
  cases v with
  | pv p => cases h; cases e
  | tmp c => cases h
  | bw j =>
    simp only [pvOf] at h
    simp only [coOf] at e
    split at h
    · rename_i p q; cases h; rw [q] at e; cases e
    · cases h
theorem iw_rng1 {tg : Expr} {p : Pos} (hg : Gl X "range") (hm : X.mg "range" = none) (ha : DA X F W [a] [ea]) (hs : starEach [a] X.env = [(false, eval a X.env)] := by rfl) : PI X tg (.Call (.Name "range" p) [a] [] pos) (Iw X.K W (walkM F .rng1 [ea])) :=
  pi_w (pi_range1 hg hm ha hs) fun σ H R ⟨m, s, r, w⟩ => Da.bind r w fun es' s1 m1 H1 vs r1 x1 e1 f1 w1 => by
    have w1 := wp_bnd.mp w1
    cases es' with
    | nil => exact (show False from wp_eq (d := M.no) w1 rfl).elim
    | cons v t =>
      cases t with
      | cons _ _ => exact (show False from wp_eq (d := M.no) w1 rfl).elim
      | nil =>
        obtain ⟨x, rfl, h1⟩ := evs1 e1
        cases q : pvOf s1 v with
        | none => exact (show False from wp_eq (d := M.no) w1 (by simp only [ik_rng1, q])).elim
        | some p =>
          cases p with
          | int j =>
            have w2 := wp_eq (d := M.bnd (M.chk (rngOk j)) (fun _ => M.ret (rangeL 0 j.toNat))) w1 (by simp only [ik_rng1, q])
            obtain ⟨hj, w2⟩ := wp_chk.mp (wp_bnd.mp w2)
            unfold rngOk at hj
            simp only [Bool.and_eq_true, decide_eq_true_eq] at hj
            obtain rfl := vr_int (pvOf_rel r1 h1 q)
            have w3 : wp (M.bnd (lockL [v] []) fun ls => M.ret (rangeL 0 j.toNat, ls)) s1 (OkW X.K m s σ H R) (ExW X.K W m s σ H) := w2
            obtain ⟨l, s3, q3, w4⟩ := lock1 (wp_bnd.mp w3)
            have w4 : OkW X.K m s σ H R (rangeL 0 j.toNat, [l]) s3 := w4
            exact ⟨j, rfl, hj.1, hj.2, w4 m1 s1 H1 _ r1 x1 (lock_ok q3 (pv_int_co q)) walk_range⟩
          | _ => exact (show False from wp_eq (d := M.no) w1 (by simp only [ik_rng1, q])).elim
theorem iw_rng2 {tg : Expr} {p : Pos} (hg : Gl X "range") (hm : X.mg "range" = none) (ha : DA X F W [a, b] [ea, eb]) (hs : starEach [a, b] X.env = [(false, eval a X.env), (false, eval b X.env)] := by rfl) (hs2 : starEach [b] X.env = [(false, eval b X.env)] := by rfl) :
    PI X tg (.Call (.Name "range" p) [a, b] [] pos) (Iw X.K W (walkM F .rng2 [ea, eb])) :=
  pi_w (pi_range2 hg hm ha hs hs2) fun σ H R ⟨m, s, r, w⟩ => Da.bind r w fun es' s1 m1 H1 vs r1 x1 e1 f1 w1 => by
    have w1 := wp_bnd.mp w1
    cases es' with
    | nil => exact (show False from wp_eq (d := M.no) w1 rfl).elim
    | cons v t =>
      cases t with
      | nil => exact (show False from wp_eq (d := M.no) w1 rfl).elim
      | cons u t =>
        cases t with
        | cons _ _ => exact (show False from wp_eq (d := M.no) w1 rfl).elim
        | nil =>
          obtain ⟨x, y, rfl, h1, h2⟩ := evs2 e1
          cases q : pvOf s1 v with
          | none => exact (show False from wp_eq (d := M.no) w1 (by simp only [ik_rng2, q])).elim
          | some p =>
            cases q' : pvOf s1 u with
            | none => exact (show False from wp_eq (d := M.no) w1 (by simp only [ik_rng2, q, q'])).elim
            | some p' =>
              cases p with
              | int i =>
                cases p' with
                | int j =>
                  have w2 := wp_eq (d := M.bnd (M.chk (rngOk i && rngOk j)) (fun _ => M.ret (rangeL i (j - i).toNat))) w1 (by simp only [ik_rng2, q, q'])
                  obtain ⟨hj, w2⟩ := wp_chk.mp (wp_bnd.mp w2)
                  unfold rngOk at hj
                  simp only [Bool.and_eq_true, decide_eq_true_eq] at hj
                  obtain rfl := vr_int (pvOf_rel r1 h1 q)
                  obtain rfl := vr_int (pvOf_rel r1 h2 q')
                  have w3 : wp (M.bnd (lockL [v, u] []) fun ls => M.ret (rangeL i (j - i).toNat, ls)) s1 (OkW X.K m s σ H R) (ExW X.K W m s σ H) := w2
                  obtain ⟨ls, s3, lk, w4⟩ := lockL_ok (wp_bnd.mp w3) fun z hz => by
                    rcases List.mem_cons.mp hz with rfl | hz
                    · exact pv_int_co q
                    · have : z = u := by simpa using hz
                      subst this
                      exact pv_int_co q'
                  have w4 : OkW X.K m s σ H R (rangeL i (j - i).toNat, ls ++ []) s3 := w4
                  rw [List.append_nil] at w4
                  exact ⟨i, j, rfl, ⟨hj.1.1, hj.1.2, hj.2.1, hj.2.2⟩, w4 m1 s1 H1 _ r1 x1 lk walk_range⟩
                | _ => exact (show False from wp_eq (d := M.no) w1 (by simp only [ik_rng2, q, q'])).elim
              | _ => exact (show False from wp_eq (d := M.no) w1 (by cases p' <;> simp only [ik_rng2, q, q'])).elim
theorem ik_rng3 {v u w : EV} : itemsK .rng3 [v, u, w] s = match pvOf s v, pvOf s u, pvOf s w with
    | some (.int i), some (.int j), some (.int c) => M.bnd (M.chk (stepOk i j c)) (fun _ => M.ret (rangeC i c (stepN i j c))) s
    | _, _, _ => .no := rfl
theorem iw_rng3 {tg : Expr} {p : Pos} (hg : Gl X "range") (hm : X.mg "range" = none) (ha : DA X F W [a, b, c] [ea, eb, ec]) (hs : starEach [a, b, c] X.env = (false, eval a X.env) :: starEach [b, c] X.env := by rfl) (hpl : (backTo pos (starEach [b, c] X.env)).any (·.1) = false := by rfl) :
    PI X tg (.Call (.Name "range" p) [a, b, c] [] pos) (Iw X.K W (walkM F .rng3 [ea, eb, ec])) :=
  pi_w (pi_range3 hg hm ha hs hpl) fun σ H R ⟨m, s, r, w⟩ => Da.bind r w fun es' s1 m1 H1 vs r1 x1 e1 f1 w1 => by
    replace w1 := wp_bnd.mp w1
    match es', e1, f1, w1 with
    | [], e1, f1, w1 => exact (show False from wp_eq (d := M.no) w1 rfl).elim
    | [_], e1, f1, w1 => exact (show False from wp_eq (d := M.no) w1 rfl).elim
    | [_, _], e1, f1, w1 => exact (show False from wp_eq (d := M.no) w1 rfl).elim
    | _ :: _ :: _ :: _ :: _, e1, f1, w1 => exact (show False from wp_eq (d := M.no) w1 rfl).elim
    | [v, u, t], e1, f1, w1 =>
      obtain ⟨x, y, z, rfl, h1, h2, h3⟩ := evs3 e1
      have key : ∃ i j k, pvOf s1 v = some (.int i) ∧ pvOf s1 u = some (.int j) ∧ pvOf s1 t = some (.int k) := by
        have no : itemsK .rng3 [v, u, t] s1 = .no → False := fun e => (show False from wp_eq (d := M.no) w1 e)
        rw [ik_rng3] at no
        split at no
        · exact ⟨_, _, _, by assumption, by assumption, by assumption⟩
        · exact (no rfl).elim
      obtain ⟨i, j, k, q1, q2, q3⟩ := key
      have w2 := wp_eq (d := M.bnd (M.chk (stepOk i j k)) (fun _ => M.ret (rangeC i k (stepN i j k)))) w1 (by simp only [ik_rng3, q1, q2, q3])
      obtain ⟨hj, w2⟩ := wp_chk.mp (wp_bnd.mp w2)
      unfold stepOk at hj
      simp only [Bool.and_eq_true, decide_eq_true_eq] at hj
      obtain rfl := vr_int (pvOf_rel r1 h1 q1)
      obtain rfl := vr_int (pvOf_rel r1 h2 q2)
      obtain rfl := vr_int (pvOf_rel r1 h3 q3)
      have w3 : wp (M.bnd (lockL [v, u, t] []) fun ls => M.ret (rangeC i k (stepN i j k), ls)) s1 (OkW X.K m s σ H R) (ExW X.K W m s σ H) := w2
      obtain ⟨ls, s3, lk, w4⟩ := lockL_ok (wp_bnd.mp w3) fun z hz => by
        simp only [List.mem_cons, List.not_mem_nil, or_false] at hz
        rcases hz with rfl | rfl | rfl
        · exact pv_int_co q1
        · exact pv_int_co q2
        · exact pv_int_co q3
      have w4 : OkW X.K m s σ H R (rangeC i k (stepN i j k), ls ++ []) s3 := w4
      rw [List.append_nil] at w4
      exact ⟨i, j, k, stepN i j k, rfl, ⟨hj.1.1, hj.1.2, hj.2, PyProof.Rows.rangeSize_toNat i j k⟩, w4 m1 s1 H1 _ r1 x1 lk walk_rangeC⟩
theorem co_itemsF {v : EV} {xs : List PV} (q : itemsOf s v = some (false, xs)) : ∀ c, coOf s v = some c → ∃ xs, c = .lst xs := fun c e => by
  unfold itemsOf at q
  split at q
  · simp [coOf] at e
  · rw [e] at q
    cases c with
    | lst xs => exact ⟨xs, rfl⟩
    | dct _ => cases q
theorem iw_enum {p tpos : Pos} {elts : List Expr} {kk : Nat} (hg : Gl X "enumerate") (hm : X.mg "enumerate" = none) (ha : DA X F W [a] [ea]) (hs : starEach [a] X.env = [(false, eval a X.env)] := by rfl) :
    PI X (.Tuple elts kk tpos) (.Call (.Name "enumerate" p) [a] [] pos) (Iw X.K W (walkM F .enum [ea])) :=
  pi_w (pi_enumA hg hm ha hs) fun σ H R ⟨m, s, r, w⟩ => Da.bind r w fun es' s1 m1 H1 vs r1 x1 e1 f1 w1 => by
    replace w1 := wp_bnd.mp w1
    match es', e1, f1, w1 with
    | [], e1, f1, w1 => exact (show False from wp_eq (d := M.no) w1 rfl).elim
    | _ :: _ :: _, e1, f1, w1 => exact (show False from wp_eq (d := M.no) w1 rfl).elim
    | [v], e1, f1, w1 =>
      obtain ⟨x, rfl, h1⟩ := evs1 e1
      cases q : itemsOf s1 v with
      | none => exact (show False from wp_eq (d := M.no) w1 (by simp only [ik_enum, q])).elim
      | some z =>
        obtain ⟨bb, xs⟩ := z
        have w2 : wp (M.bnd (lockL [v] []) fun ls => M.ret (enumL 0 xs, ls)) s1 (OkW X.K m s σ H R) (ExW X.K W m s σ H) := wp_eq (d := M.ret (enumL 0 xs)) w1 (by simp only [ik_enum, q])
        obtain ⟨l, s3, q3, w4⟩ := lock1 (wp_bnd.mp w2)
        have w4 : OkW X.K m s σ H R (enumL 0 xs, [l]) s3 := w4
        cases bb with
        | true =>
          have qc := coOf_items q
          obtain ⟨p', rfl, st⟩ := stays_list r1 h1 qc q3 Locks.refl (fun _ _ z => z) (fun _ _ _ z => z)
          obtain ⟨p2, vs, e2, h2, _⟩ := coOf_rel r1 h1 qc
          cases e2
          exact ⟨p', vs, rfl, .inl ⟨h2, w4 m1 s1 H1 _ r1 x1 (lock_ok q3 (only_lst qc ⟨xs, rfl⟩)) (walk_enum st)⟩⟩
        | false =>
          obtain ⟨p', vs, rfl, g1, g2⟩ := itemsOf_rel r1 h1 q
          have lk := lock_ok q3 (co_itemsF q)
          exact ⟨p', vs, rfl, .inr ⟨g1, w4 m1 s1 H1 _ r1 x1 lk (walk_enumT (stays_tup (lk.sim.rel r1) g1 (by rw [lk.sim.hl]; exact g2)))⟩⟩
theorem iw_zip {p tpos : Pos} {elts : List Expr} {kk : Nat} (hg : Gl X "zip") (hm : X.mg "zip" = none) (ha : DA X F W [a, b] [ea, eb]) (hs : starEach [a, b] X.env = (false, eval a X.env) :: starEach [b] X.env := by rfl) (hpl : (backTo pos (starEach [b] X.env)).any (·.1) = false := by rfl) :
    PI X (.Tuple elts kk tpos) (.Call (.Name "zip" p) [a, b] [] pos) (Iw X.K W (walkM F .zip [ea, eb])) :=
  pi_w (RZ.pi_zipA hg hm ha hs hpl) fun σ H R ⟨m, s, r, w⟩ => Da.bind r w fun es' s1 m1 H1 vs r1 x1 e1 f1 w1 => by
    replace w1 := wp_bnd.mp w1
    match es', e1, f1, w1 with
    | [], e1, f1, w1 => exact (show False from wp_eq (d := M.no) w1 rfl).elim
    | [_], e1, f1, w1 => exact (show False from wp_eq (d := M.no) w1 rfl).elim
    | _ :: _ :: _ :: _, e1, f1, w1 => exact (show False from wp_eq (d := M.no) w1 rfl).elim
    | [v, u], e1, f1, w1 =>
      obtain ⟨x, y, rfl, h1, h2⟩ := evs2 e1
      have key : ∃ b xs ys, itemsOf s1 v = some (b, xs) ∧ itemsOf s1 u = some (b, ys) := by
        have no : itemsK .zip [v, u] s1 = .no → False := fun e => (show False from wp_eq (d := M.no) w1 e)
        rw [ik_zip] at no
        split at no
        · exact ⟨_, _, _, by assumption, by assumption⟩
        · exact ⟨_, _, _, by assumption, by assumption⟩
        · exact (no rfl).elim
      obtain ⟨bb, xs, ys, i1, i2⟩ := key
      have w2 : wp (M.bnd (lockL [v, u] []) fun ls => M.ret (zipL xs ys, ls)) s1 (OkW X.K m s σ H R) (ExW X.K W m s σ H) := wp_eq (d := M.ret (zipL xs ys)) w1 (by cases bb <;> simp only [ik_zip, i1, i2])
      cases bb with
      | true =>
        have q := coOf_items i1
        have q' := coOf_items i2
        obtain ⟨l, s3, l2, s4, q3, q4, w4⟩ := lock2 (wp_bnd.mp w2)
        have w4 : OkW X.K m s σ H R (zipL xs ys, [l2, l]) s4 := w4
        have lk1 := lock_ok q3 (only_lst q ⟨xs, rfl⟩)
        have q'' : coOf s3 u = some (.lst ys) := by rw [lk1.sim.co]; exact q'
        have lk2 := lock_ok q4 (only_lst q'' ⟨ys, rfl⟩)
        have kp := lock_keeps q4
        obtain ⟨p1, rfl, st1⟩ := stays_list r1 h1 q q3 lk2 kp.1 kp.2
        obtain ⟨p2, rfl, st2⟩ := stays_list (lk1.sim.rel r1) (lk1.sim.ev h2) q'' q4 Locks.refl (fun _ _ z => z) (fun _ _ _ z => z)
        obtain ⟨p3, vs, e2, g2, _⟩ := coOf_rel r1 h1 q
        cases e2
        obtain ⟨p4, us, e3, g3, _⟩ := coOf_rel r1 h2 q'
        cases e3
        exact ⟨p1, p2, vs, us, rfl, .inl ⟨g2, g3, w4 m1 s1 H1 _ r1 x1 (lk1.trans lk2) (walk_zip st1 st2)⟩⟩
      | false =>
        obtain ⟨p, vs, rfl, g1, g2⟩ := itemsOf_rel r1 h1 i1
        obtain ⟨p', us, rfl, g3, g4⟩ := itemsOf_rel r1 h2 i2
        obtain ⟨ls, s3, lk, w4⟩ := lockL_ok (wp_bnd.mp w2) fun z hz => by
          rcases List.mem_cons.mp hz with rfl | hz
          · exact co_itemsF i1
          · have : z = u := by simpa using hz
            subst this
            exact co_itemsF i2
        have w4 : OkW X.K m s σ H R (zipL xs ys, ls ++ []) s3 := w4
        rw [List.append_nil] at w4
        exact ⟨p, p', vs, us, rfl, .inr ⟨g1, g3, w4 m1 s1 H1 _ r1 x1 lk (walk_zipT (stays_tup (lk.sim.rel r1) g1 (by rw [lk.sim.hl]; exact g2)) (stays_tup (lk.sim.rel r1) g3 (by rw [lk.sim.hl]; exact g4)))⟩⟩
def gT (K : Fg) : Tg → TG
  | .one i => gName i
  | .many is => gTup K is.length (gNames is)
theorem assignG_ok {g : Tg} {p : PV} {x : V} {RR : Unit → DS → Prop} {Y : EX → DS → Prop} {Q : SSt → Hp → Prop} (r : Rel K m s σ H) (h : VRel K m s.h.length H p x) (w : wp (assignG g p) s RR Y) (k : ∀ σ2 s1, Rel K m s1 σ2 H → Ext NoT m s σ H m s1 σ2 H → s1.h = s.h → RR () s1 → Q σ2 H) : gT K g x σ H Q := by
  cases g with
  | one i =>
    have w2 : wp (putSlots [i] [p]) s RR Y := by
      simp only [putSlots]
      exact wp_bnd.mpr (wp_mono w (fun _ _ z => z) fun _ _ z => z)
    obtain ⟨s1, r1, x1, _, hh, w3⟩ := putSlots_ok r (show VsRel K m s.h.length H [p] [x] by simp only [VsRel]; exact ⟨x, [], rfl, h, rfl⟩) w2
    exact k _ s1 r1 x1 hh w3
  | many is =>
    cases p with
    | tup xs =>
      obtain ⟨hl, w2⟩ := wp_chk.mp (wp_bnd.mp w)
      obtain ⟨a, vs, rfl, h1, h2⟩ := vr_tup h
      obtain ⟨s1, r1, x1, hl2, hh, w3⟩ := putSlots_ok r h2 w2
      exact ⟨a, vs, rfl, h1, hl2.symm, gNames_run hl2 (k _ s1 r1 x1 hh w3)⟩
    | _ => exact (show False from w).elim
def SimW (W : WX) : Prop := ∀ x m s s2 H, Sim s s2 → W x m s2 H → W x m s H
theorem ds_for {tg iter : Expr} {g : Tg} {k : ItK} {its : List E} {sb : List Stmt} {db : List S} (hp : PassesOwn (model X.prog X.w) X.A X.env X.xe) (hc : X.calm = true) (hW : SimW W) (hi : PI X tg iter (Iw X.K W (walkM F k its))) (hg : PG X tg (gT X.K g)) (hb : DSs X F W sb db)
    (hs : ∀ x, foldedSetIterable iter X.env x = pure x := by intro _; rfl) : DSt X F W (.For tg iter sb [] pos) (.forS g k its db) :=
  ps_w (ps_for hp hc hi hg hb hs) fun D σ H ⟨m, s, r, w⟩ => by
    simp only [evS] at w
    refine ⟨m, s, r, ?_⟩
    unfold walkM
    refine wp_bnd.mpr (wp_mono (wp_bnd.mp w) (fun vs s1 w => wp_bnd.mpr (wp_mono (wp_bnd.mp w) (fun xs s1 w => wp_bnd.mpr (wp_mono (wp_bnd.mp w) (fun ls s2 w => ?_) fun _ _ z => z)) fun _ _ z => z)) fun _ _ z => z)
    intro m1 s1 H1 J r1 x1 lk wk
    have lk : Locks ls s1 s2 := lk
    have wk : Walk X.K J xs m1 s2 σ H1 := wk
    have body : wp (forF g (evSs F db) xs) s2 (fun f s' => OkS X.K m s σ H D f (unl ls s')) (fun x s' => ExW X.K W m s σ H x (unl ls s')) := by
      unfold wp withLk at w
      unfold wp
      cases q : forF g (evSs F db) xs s2 with
      | no => rw [q] at w; exact w
      | ok f s' => rw [q] at w; exact w
      | ex x s' => rw [q] at w; exact w
    refine ⟨fun i n σ' H' => n = xs.length - i ∧ i ≤ xs.length ∧ ∃ m' s', Rel X.K m' s' σ' H' ∧ Ext NoT m1 s2 σ H1 m' s' σ' H' ∧ wp (forF g (evSs F db) (xs.drop i)) s' (fun f s' => OkS X.K m s σ H D f (unl ls s')) (fun x s' => ExW X.K W m s σ H x (unl ls s')),
      ⟨xs.length, by simp, Nat.zero_le _, m1, s2, lk.sim.rel r1, Ext.refl, body⟩, ?_⟩
    rintro i n σ' H' ⟨rfl, hi, m', s', r', x', w'⟩
    have back : ∀ {m3 s3 σ3 H3}, Rel X.K m3 s3 σ3 H3 → Ext NoT m1 s2 σ H1 m3 s3 σ3 H3 → Sim s3 (unl ls s3) ∧ Rel X.K m3 (unl ls s3) σ3 H3 ∧ Ext NoT m s σ H m3 (unl ls s3) σ3 H3 := fun {m3 s3 σ3 H3} r3 x3 => by
      obtain ⟨q1, q2⟩ := lk.off X.K m1 m3 s3 σ σ3 H1 H3 x3
      exact ⟨q1, q1.rel r3, x1.trans q2⟩
    by_cases hlt : i < xs.length
    · have hd : xs.drop i = xs[i] :: xs.drop (i + 1) := (List.drop_eq_getElem_cons hlt)
      rw [hd] at w'
      simp only [forF] at w'
      obtain ⟨hgo, hy⟩ := wk.go m' s' σ' H' i xs[i] r' x' (List.getElem?_eq_getElem hlt)
      refine .inr ⟨hgo, fun σ3 H3 => ∃ m3 s3, Rel X.K m3 s3 σ3 H3 ∧ Ext NoT m1 s2 σ H1 m3 s3 σ3 H3 ∧ wp (forF g (evSs F db) (xs.drop (i + 1))) s3 (fun f s' => OkS X.K m s σ H D f (unl ls s')) (fun x s' => ExW X.K W m s σ H x (unl ls s')),
        fun σ3 H3 ⟨m3, s3, r3, x3, w3⟩ => ⟨xs.length - (i + 1), by omega, rfl, hlt, m3, s3, r3, x3, w3⟩, fun y H2 hyl => ?_⟩
      obtain ⟨gr, hv⟩ := hy y H2 hyl
      have r2 := r'.grow gr
      have x2 : Ext NoT m1 s2 σ H1 m' s' σ' H2 := x'.trans (Ext.grow gr)
      refine assignG_ok r2 hv (wp_bnd.mp w') fun σ3 s3 r3 x3 _ w3 => ?_
      refine ⟨m', s3, r3, wp_mono (wp_bnd.mp w3) (fun f s4 w4 m4 σ4 H4 r4 x4 => ?_) fun x s4 z m4 σ4 H4 r4 x4 => ?_⟩
      · have x04 := (x2.trans x3).trans x4
        obtain ⟨b1, b2, b3⟩ := back r4 x04
        cases f with
        | nx => exact ⟨m4, s4, r4, x04, w4⟩
        | ct => exact ⟨m4, s4, r4, x04, w4⟩
        | bk =>
          have w4 : OkS X.K m s σ H D .nx (unl ls s4) := w4
          exact w4 m4 σ4 H4 b2 b3
        | rt e =>
          have w4 : OkS X.K m s σ H D (.rt e) (unl ls s4) := w4
          exact fun v ev f1 => w4 m4 σ4 H4 b2 b3 v (b1.ev ev) fun c a e1 e2 => x1.dom a ((x2.trans x3).dom a (f1 c a e1 e2))
      · have x04 := (x2.trans x3).trans x4
        obtain ⟨b1, b2, b3⟩ := back r4 x04
        exact hW _ _ _ _ _ b1 (z m4 σ4 H4 b2 b3)
    · have e : i = xs.length := by omega
      subst e
      rw [List.drop_length] at w'
      refine .inl ⟨wk.stop m' s' σ' H' r' x', ?_⟩
      obtain ⟨b1, b2, b3⟩ := back r' x'
      have w' : OkS X.K m s σ H D .nx (unl ls s') := w'
      exact w' m' σ' H' b2 b3
end
end DV
namespace DV
open PySem PySem.Spec PyProof.Rows L2
theorem wipeE_get {env : List (Option SV)} {j : Nat} : ∀ {is : List Nat}, (wipeE env is)[j]? = if j ∈ is then env[j]?.map (fun _ => none) else env[j]?
  | [] => rfl
  | i :: is => by
    have hl : ∀ is : List Nat, (wipeE env is).length = env.length := fun is => by
      induction is with
      | nil => rfl
      | cons k is ih => simp only [wipeE, List.length_set, ih]
    simp only [wipeE]
    by_cases hi : i = j
    · subst hi
      rw [if_pos List.mem_cons_self]
      by_cases hlt : i < env.length
      · rw [List.getElem?_set_self (by rw [hl]; exact hlt), List.getElem?_eq_getElem hlt]; rfl
      · rw [List.getElem?_eq_none (by rw [List.length_set, hl]; omega), List.getElem?_eq_none (by omega)]; rfl
    · rw [List.getElem?_set_ne hi, wipeE_get]
      by_cases hm : j ∈ is
      · rw [if_pos hm, if_pos (List.mem_cons_of_mem _ hm)]
      · rw [if_neg hm, if_neg fun z => (List.mem_cons.mp z).elim (fun e => hi e.symm) hm]
theorem wipe_get {σ : SSt} {j : Nat} : ∀ {is : List Nat}, (wipe σ is)[j]? = if j ∈ is then σ[j]?.map (fun _ => none) else σ[j]?
  | [] => rfl
  | i :: is => by
    simp only [wipe]
    by_cases hi : i = j
    · subst hi
      rw [if_pos List.mem_cons_self]
      by_cases hlt : i < σ.length
      · rw [List.getElem?_set_self (by rw [wipe_length]; exact hlt), List.getElem?_eq_getElem hlt]; rfl
      · rw [List.getElem?_eq_none (by rw [List.length_set, wipe_length]; omega), List.getElem?_eq_none (by omega)]; rfl
    · rw [List.getElem?_set_ne hi, wipe_get]
      by_cases hm : j ∈ is
      · rw [if_pos hm, if_pos (List.mem_cons_of_mem _ hm)]
      · rw [if_neg hm, if_neg fun z => (List.mem_cons.mp z).elim (fun e => hi e.symm) hm]
theorem restE_get {env old : List (Option SV)} {j : Nat} : ∀ {is : List Nat}, (restE env old is)[j]? = if j ∈ is then env[j]?.map (fun _ => old.getD j none) else env[j]?
  | [] => rfl
  | i :: is => by
    have hl : ∀ is : List Nat, (restE env old is).length = env.length := fun is => by
      induction is with
      | nil => rfl
      | cons k is ih => simp only [restE, List.length_set, ih]
    simp only [restE]
    by_cases hi : i = j
    · subst hi
      rw [if_pos List.mem_cons_self]
      by_cases hlt : i < env.length
      · rw [List.getElem?_set_self (by rw [hl]; exact hlt), List.getElem?_eq_getElem hlt]; rfl
      · rw [List.getElem?_eq_none (by rw [List.length_set, hl]; omega), List.getElem?_eq_none (by omega)]; rfl
    · rw [List.getElem?_set_ne hi, restE_get]
      by_cases hm : j ∈ is
      · rw [if_pos hm, if_pos (List.mem_cons_of_mem _ hm)]
      · rw [if_neg hm, if_neg fun z => (List.mem_cons.mp z).elim (fun e => hi e.symm) hm]
theorem wipeE_len {env : List (Option SV)} : ∀ {is : List Nat}, (wipeE env is).length = env.length
  | [] => rfl
  | k :: is => by simp only [wipeE, List.length_set, wipeE_len]
theorem restE_len {env old : List (Option SV)} : ∀ {is : List Nat}, (restE env old is).length = env.length
  | [] => rfl
  | k :: is => by simp only [restE, List.length_set, restE_len]
theorem wipe_set {σ : SSt} {i : Nat} {x : Option V} {own : List Nat} (h : i ∈ own) : wipe (σ.set i x) own = wipe σ own := by
  apply List.ext_getElem?
  intro j
  rw [wipe_get, wipe_get]
  by_cases hi : i = j
  · subst hi
    rw [if_pos h, if_pos h]
    by_cases hlt : i < σ.length
    · rw [List.getElem?_set_self hlt, List.getElem?_eq_getElem hlt]; rfl
    · rw [List.getElem?_eq_none (by rw [List.length_set]; omega), List.getElem?_eq_none (by omega)]
  · rw [List.getElem?_set_ne hi]
theorem wipe_setAll {own : List Nat} : ∀ {is : List Nat} {vs : List V} {σ : SSt}, (∀ i ∈ is, i ∈ own) → wipe (setAll σ is vs) own = wipe σ own
  | [], vs, σ, _ => by cases vs <;> rfl
  | i :: is, [], σ, _ => rfl
  | i :: is, v :: vs, σ, h => by
    simp only [setAll]
    rw [wipe_setAll fun j hj => h j (List.mem_cons_of_mem _ hj), wipe_set (h i List.mem_cons_self)]
theorem wipe_wipe {own : List Nat} {σ : SSt} : wipe (wipe σ own) own = wipe σ own := by
  apply List.ext_getElem?
  intro j
  rw [wipe_get, wipe_get]
  by_cases h : j ∈ own
  · rw [if_pos h, if_pos h]; cases σ[j]? <;> rfl
  · rw [if_neg h, if_neg h]
def Tg.slots : Tg → List Nat
  | .one i => [i]
  | .many is => is
section
variable {K : Fg} {m m' : Nat → Addr} {s s' s2 : DS} {σ σ' : SSt} {H H' : Hp} {T : Addr → Prop}
def wip (s : DS) (own : List Nat) : DS := { s with env := wipeE s.env own }
theorem wip_get {own : List Nat} {i : Nat} {x : SV} (e : (wip s own).env[i]? = some (some x)) : i ∉ own ∧ s.env[i]? = some (some x) := by
  have e : (wipeE s.env own)[i]? = some (some x) := e
  rw [wipeE_get] at e
  by_cases h : i ∈ own
  · rw [if_pos h] at e
    cases q : s.env[i]? with
    | none => rw [q] at e; cases e
    | some y => rw [q] at e; cases e
  · rw [if_neg h] at e; exact ⟨h, e⟩
theorem wip_own {own : List Nat} {i : Nat} (o : OwnS (wip s own) i) : i ∉ own ∧ OwnS s i := by
  obtain ⟨c, e | e⟩ := o
  · exact ⟨(wip_get e).1, c, .inl (wip_get e).2⟩
  · exact ⟨(wip_get e).1, c, .inr (wip_get e).2⟩
theorem wipe_at {own : List Nat} {i : Nat} (h : i ∉ own) : (wipe σ own)[i]? = σ[i]? := by rw [wipe_get, if_neg h]
theorem Own.unwip {own : List Nat} {a : Addr} (o : Own m (wip s own) (wipe σ own) a) : Own m s σ a := by
  rcases o with ⟨n, o, e, f, rfl⟩ | ⟨i, oi, e⟩
  · exact .inl ⟨n, o, e, f, rfl⟩
  · obtain ⟨h1, h2⟩ := wip_own oi
    rw [wipe_at h1] at e
    exact .inr ⟨i, h2, e⟩
theorem Rel.wip (own : List Nat) (r : Rel K m s σ H) : Rel K m (wip s own) (wipe σ own) H where
  hp := r.hp
  sl := fun i x e => by
    obtain ⟨h1, h2⟩ := wip_get e
    rw [wipe_at h1]
    exact r.sl i x h2
  len := by
    show (wipeE s.env own).length = _
    rw [wipeE_len, wipe_length]; exact r.len
  inj := r.inj
  inj2 := fun n o i a e f oi ei => by
    obtain ⟨h1, h2⟩ := wip_own oi
    rw [wipe_at h1] at ei
    exact r.inj2 n o i a e f h2 ei
  inj3 := fun i j a oi oj ei ej => by
    obtain ⟨h1, h2⟩ := wip_own oi
    obtain ⟨h3, h4⟩ := wip_own oj
    rw [wipe_at h1] at ei
    rw [wipe_at h3] at ej
    exact r.inj3 i j a h2 h4 ei ej
theorem notLk_out {own : List Nat} (h : own.all (notLk s.env) = true) {i : Nat} {c : CO} (e : s.env[i]? = some (some (.lk c))) : i ∉ own := fun z => by
  have q := List.all_eq_true.mp h i z
  unfold notLk at q
  rw [e] at q
  cases q
theorem Ext.wip {own : List Nat} (h : own.all (notLk s.env) = true) : Ext NoT m s σ H m (wip s own) (wipe σ own) H where
  len := Nat.le_refl _
  mm := fun _ _ => rfl
  fr := fun _ _ e _ _ => e
  ow := fun a z => .inl z.unwip
  dom := fun _ e => e
  lks := fun i c e => by
    have hn := notLk_out h e
    refine ⟨?_, wipe_at hn⟩
    show (wipeE s.env own)[i]? = _
    rw [wipeE_get, if_neg hn]; exact e
  lkh := fun _ _ e => e
  fzh := fun _ _ e => e
  nfz := fun _ o h f => ⟨o, h, f⟩
theorem updD_ok {D : Addr} {l l' : List V} (r : Rel K m s σ H) (hD : H D = some (.lst l)) (no : ¬ Own m s σ D) : Rel K m s σ (upd H D (.lst l')) ∧ Ext (fun a => a = D) m s σ H m s σ (upd H D (.lst l')) := by
  have hk : ∀ a o, H a = some o → a ≠ D → upd H D (.lst l') a = some o := fun a o e hn => by
    rw [upd_ne hn]; exact e
  have ht : ∀ a vs, SqT K H a vs → SqT K (upd H D (.lst l')) a vs := fun a vs h => sqT_keep (fun o e nk => hk a o e (fun q => by
    subst q; rw [hD] at e; cases e; exact nk trivial)) h
  refine ⟨⟨fun n o e => ?_, fun i x e => ?_, r.len, r.inj, r.inj2, r.inj3⟩, ⟨Nat.le_refl _, fun _ _ => rfl, fun a o e _ hn => hk a o e hn, fun _ z => .inl z, fun a e => ?_, fun _ _ e => ⟨e, rfl⟩, fun _ _ e => e, fun _ _ e => e, fun _ o h f => ⟨o, h, f⟩⟩⟩
  · have q := r.hp n o e
    cases o with
    | rw c =>
      have hn : m n ≠ D := fun z => no (.inl ⟨n, _, e, rfl, z.symm⟩)
      exact CORel.mono (fun _ _ => rfl) (Nat.le_refl _) ht (fun o e => hk _ o e hn) q
    | lk c =>
      have hn : m n ≠ D := fun z => no (.inl ⟨n, _, e, rfl, z.symm⟩)
      exact LKRel.mono (fun _ _ => rfl) (Nat.le_refl _) ht (fun o e => hk _ o e hn) q
    | fz xs =>
      exact FZRel.mono (fun _ _ => rfl) (Nat.le_refl _) ht (fun o vs e => hk _ _ e fun z => by rw [z, hD] at e; cases e) q
  · obtain ⟨v, h1, h2⟩ := r.sl i x e
    refine ⟨v, h1, ?_⟩
    cases x with
    | pv p => exact VRel.mono (fun _ _ => rfl) (Nat.le_refl _) ht h2
    | own c =>
      obtain ⟨a, rfl, q⟩ := h2
      have hn : a ≠ D := fun z => no (.inr ⟨i, ⟨c, .inl e⟩, by rw [h1, z]⟩)
      exact ⟨a, rfl, CORel.mono (fun _ _ => rfl) (Nat.le_refl _) ht (fun o e => hk _ o e hn) q⟩
    | lk c =>
      obtain ⟨a, rfl, q⟩ := h2
      have hn : a ≠ D := fun z => no (.inr ⟨i, ⟨c, .inr e⟩, by rw [h1, z]⟩)
      exact ⟨a, rfl, LKRel.mono (fun _ _ => rfl) (Nat.le_refl _) ht (fun o e => hk _ o e hn) q⟩
  · by_cases hn : a = D
    · subst hn; rw [upd_same] at e; cases e
    · rw [upd_ne hn] at e; exact e
def rst (s s2 : DS) (own : List Nat) : DS := { s with env := restE s.env s2.env own }
theorem rst_ok {own : List Nat} (r2 : Rel K m s2 σ H) (hn : own.all (notLk s2.env) = true) (r : Rel K m' s' (wipe σ own) H') (x : Ext NoT m (wip s2 own) (wipe σ own) H m' s' (wipe σ own) H') :
    Rel K m' (rst s' s2 own) σ H' ∧ Ext NoT m s2 σ H m' (rst s' s2 own) σ H' ∧ ∀ a, Own m' (rst s' s2 own) σ a → Own m' s' (wipe σ own) a ∨ Own m s2 σ a := by
  have r2w := r2.wip own
  have x2 := (Ext.wip (m := m) (σ := σ) (H := H) hn).trans x
  have hl : s'.env.length = s2.env.length := by rw [r.len, wipe_length, r2.len]
  have slot : ∀ (i : Nat) (z : SV), (rst s' s2 own).env[i]? = some (some z) → (i ∈ own ∧ s2.env[i]? = some (some z)) ∨ (i ∉ own ∧ s'.env[i]? = some (some z)) := fun i z e => by
    have e : (restE s'.env s2.env own)[i]? = some (some z) := e
    rw [restE_get] at e
    by_cases h : i ∈ own
    · rw [if_pos h] at e
      refine .inl ⟨h, ?_⟩
      cases q : s'.env[i]? with
      | none => rw [q] at e; cases e
      | some y =>
        rw [q] at e
        have hi : i < s2.env.length := by rw [← hl]; exact (List.getElem?_eq_some_iff.mp q).1
        rw [List.getElem?_eq_getElem hi]
        simp only [Option.map_some, Option.some.injEq, List.getD_eq_getElem?_getD, List.getElem?_eq_getElem hi, Option.getD_some] at e
        rw [e]
    · rw [if_neg h] at e; exact .inr ⟨h, e⟩
  have slotO : ∀ (i : Nat), OwnS (rst s' s2 own) i → (i ∈ own ∧ ∃ c, s2.env[i]? = some (some (.own c))) ∨ (i ∉ own ∧ OwnS s' i) := fun i ⟨c, e⟩ => by
    rcases e with e | e
    · rcases slot i _ e with ⟨h1, h2⟩ | ⟨h1, h2⟩
      · exact .inl ⟨h1, c, h2⟩
      · exact .inr ⟨h1, c, .inl h2⟩
    · rcases slot i _ e with ⟨h1, h2⟩ | ⟨h1, h2⟩
      · exact (notLk_out hn h2 h1).elim
      · exact .inr ⟨h1, c, .inr h2⟩
  have hid : ∀ (i : Nat) (c : CO) (a : Addr), i ∈ own → s2.env[i]? = some (some (.own c)) → σ[i]? = some (some (.ref a)) → ¬ Own m (wip s2 own) (wipe σ own) a ∧ ∃ o, H a = some o := fun i c a hi e es => by
    refine ⟨fun z => ?_, ?_⟩
    · rcases z with ⟨n, o, e', f, rfl⟩ | ⟨j, oj, ej⟩
      · exact r2.inj2 n o i _ e' f ⟨c, .inl e⟩ es rfl
      · obtain ⟨h1, h2⟩ := wip_own oj
        rw [wipe_at h1] at ej
        exact h1 (r2.inj3 i j a ⟨c, .inl e⟩ h2 es ej ▸ hi)
    · obtain ⟨o, ho, _⟩ := r2.okind (.inr ⟨i, ⟨c, .inl e⟩, es⟩)
      exact ⟨o, ho⟩
  have hidN : ∀ (i : Nat) (c : CO) (a : Addr), i ∈ own → s2.env[i]? = some (some (.own c)) → σ[i]? = some (some (.ref a)) → ¬ Own m' s' (wipe σ own) a := fun i c a hi e es z => by
    obtain ⟨h1, o, h2⟩ := hid i c a hi e es
    rcases x.ow a z with q | q | q
    · exact h1 q
    · exact q
    · rw [h2] at q; cases q
  refine ⟨⟨r.hp, fun i z e => ?_, ?_, r.inj, fun n o i a e f oi ei => ?_, fun i j a oi oj ei ej => ?_⟩, ⟨x.len, x.mm, fun a o e no nt => x2.fr a o e no nt, fun a z => ?_, x.dom, fun i c e => ?_, x.lkh, x.fzh, x.nfz⟩, fun a z => ?_⟩
  · rcases slot i z e with ⟨hi, e⟩ | ⟨hi, e⟩
    · obtain ⟨v, h1, h2⟩ := r2.sl i z e
      refine ⟨v, h1, ?_⟩
      have ht := x.sqT r2w fun _ z => z.elim
      cases z with
      | pv p => exact VRel.mono x.mm x.len ht h2
      | own c =>
        obtain ⟨a, rfl, q⟩ := h2
        obtain ⟨h3, _⟩ := hid i c a hi e h1
        exact ⟨a, rfl, CORel.mono x.mm x.len ht (fun o e => x.fr a o e h3 fun z => z) q⟩
      | lk c => exact (notLk_out hn e hi).elim
    · obtain ⟨v, h1, h2⟩ := r.sl i z e
      rw [wipe_at hi] at h1
      exact ⟨v, h1, h2⟩
  · show (restE s'.env s2.env own).length = _
    rw [restE_len, hl]; exact r2.len
  · rcases slotO i oi with ⟨hi, c, e2⟩ | ⟨hi, o2⟩
    · exact fun q => hidN i c a hi e2 ei (.inl ⟨n, o, e, f, q⟩)
    · exact r.inj2 n o i a e f o2 (by rw [wipe_at hi]; exact ei)
  · rcases slotO i oi with ⟨hi, c, e2⟩ | ⟨hi, o2⟩ <;> rcases slotO j oj with ⟨hj, c', e3⟩ | ⟨hj, o3⟩
    · exact r2.inj3 i j a ⟨c, .inl e2⟩ ⟨c', .inl e3⟩ ei ej
    · exact (hidN i c a hi e2 ei (.inr ⟨j, o3, by rw [wipe_at hj]; exact ej⟩)).elim
    · exact (hidN j c' a hj e3 ej (.inr ⟨i, o2, by rw [wipe_at hi]; exact ei⟩)).elim
    · exact r.inj3 i j a o2 o3 (by rw [wipe_at hi]; exact ei) (by rw [wipe_at hj]; exact ej)
  · rcases z with ⟨n, o, e, f, rfl⟩ | ⟨i, oi, ei⟩
    · exact x2.ow _ (.inl ⟨n, o, e, f, rfl⟩)
    · rcases slotO i oi with ⟨hi, c, e2⟩ | ⟨hi, o2⟩
      · exact .inl (.inr ⟨i, ⟨c, .inl e2⟩, ei⟩)
      · exact x2.ow _ (.inr ⟨i, o2, by rw [wipe_at hi]; exact ei⟩)
  · obtain ⟨h1, h2⟩ := x2.lks i c e
    have hi := notLk_out hn e
    refine ⟨?_, rfl⟩
    show (restE s'.env s2.env own)[i]? = _
    rw [restE_get, if_neg hi]; exact h1
  · rcases z with ⟨n, o, e, f, rfl⟩ | ⟨i, oi, ei⟩
    · exact .inl (.inl ⟨n, o, e, f, rfl⟩)
    · rcases slotO i oi with ⟨hi, c, e2⟩ | ⟨hi, o2⟩
      · exact .inr (.inr ⟨i, ⟨c, .inl e2⟩, ei⟩)
      · exact .inl (.inr ⟨i, o2, by rw [wipe_at hi]; exact ei⟩)
theorem wp_noEx {α : Type} {c : M α} {R : α → DS → Prop} {Y : EX → DS → Prop} (w : wp (noEx c) s R Y) : wp c s R fun _ _ => False := by
  unfold wp noEx at w
  unfold wp
  cases q : c s with
  | ok a s' => rw [q] at w; exact w
  | ex x s' => rw [q] at w; exact w
  | no => rw [q] at w; exact w
theorem wp_wipeM {own : List Nat} {R : Unit → DS → Prop} {Y : EX → DS → Prop} (w : wp (wipeM own) s R Y) : own.all (notLk s.env) = true ∧ R () (wip s own) := by
  unfold wp wipeM at w
  by_cases h : own.all (notLk s.env) = true
  · rw [if_pos h] at w; exact ⟨h, w⟩
  · rw [if_neg h] at w; exact w.elim
theorem wp_withOwn {α : Type} {own : List Nat} {c : M α} {R : α → DS → Prop} {Y : EX → DS → Prop} (w : wp (withOwn own c) s R Y) : own.all (notLk s.env) = true ∧ wp c (wip s own) (fun a s' => R a (rst s' s own)) fun _ _ => False := by
  unfold wp withOwn M.bnd wipeM at w
  by_cases h : own.all (notLk s.env) = true
  · simp only [if_pos h] at w
    refine ⟨h, ?_⟩
    unfold wp
    show match c { s with env := wipeE s.env own } with | .ok a s' => _ | .ex x s' => _ | .no => _
    cases q : c { s with env := wipeE s.env own } with
    | ok a s' => rw [q] at w; exact w
    | ex x s' => rw [q] at w; exact w
    | no => rw [q] at w; exact w
  · simp only [if_neg h] at w
theorem wp_withLk {α : Type} {ls : List Lk} {c : M α} {R : α → DS → Prop} {Y : EX → DS → Prop} (w : wp (withLk ls c) s R Y) : wp c s (fun a s' => R a (unl ls s')) (fun x s' => Y x (unl ls s')) := by
  unfold wp withLk at w
  unfold wp
  cases q : c s with
  | no => rw [q] at w; exact w
  | ok f s' => rw [q] at w; exact w
  | ex x s' => rw [q] at w; exact w
theorem assignG_own {g : Tg} {p : PV} {x : V} {own : List Nat} (hg : ∀ i ∈ g.slots, i ∈ own) {RR : Unit → DS → Prop} {Y : EX → DS → Prop} {Q : SSt → Hp → Prop} (r : Rel K m s σ H) (h : VRel K m s.h.length H p x) (w : wp (assignG g p) s RR Y)
    (k : ∀ σ2 s1, wipe σ2 own = wipe σ own → Rel K m s1 σ2 H → Ext NoT m s σ H m s1 σ2 H → RR () s1 → Q σ2 H) : gT K g x σ H Q := by
  cases g with
  | one i =>
    have w2 : wp (putSlots [i] [p]) s RR Y := by
      simp only [putSlots]
      exact wp_bnd.mpr (wp_mono w (fun _ _ z => z) fun _ _ z => z)
    obtain ⟨s1, r1, x1, _, hh, w3⟩ := putSlots_ok r (show VsRel K m s.h.length H [p] [x] by simp only [VsRel]; exact ⟨x, [], rfl, h, rfl⟩) w2
    exact k _ s1 (wipe_set (hg i (List.mem_cons_self : i ∈ [i]))) r1 x1 w3
  | many is =>
    cases p with
    | tup xs =>
      obtain ⟨hl, w2⟩ := wp_chk.mp (wp_bnd.mp w)
      obtain ⟨a, vs, rfl, h1, h2⟩ := vr_tup h
      obtain ⟨s1, r1, x1, hl2, hh, w3⟩ := putSlots_ok r h2 w2
      exact ⟨a, vs, rfl, h1, hl2.symm, gNames_run hl2 (k _ s1 (wipe_setAll hg) r1 x1 w3)⟩
    | _ => exact (show False from w).elim
end
abbrev W0 : WX := fun _ _ _ _ => False
section
variable {X : Cx} {F : FE} {W : WX} {a b c : Expr} {ea eb ec : E} {es : List Expr} {cs : List E} {pos : Pos}
def ttO (K : Fg) (F : FE) (c : Option E) : TT := Dt K W0 (evc F c)
theorem dts_nil : PTs X [] (ttO X.K F none) := ⟨fun pins s σ H Q I ⟨m, s1, r, w⟩ => (pts_nil (X := X)).run pins s σ H Q I (w m H r Ext.refl)⟩
theorem dts_one {c : Expr} {ec : E} (h : DT X F W0 c ec) : PTs X [c] (ttO X.K F (some ec)) := pts_one h
theorem comp_core {g : Tg} {k : ItK} {its : List E} {own : List Nat} {co : Option E} {ee : E} (hg : ∀ i ∈ g.slots, i ∈ own) {σ : SSt} {H : Hp} {Q : VK}
    (h : De X.K W (evE F (.comp g k its co ee own)) σ H Q) : tLc (Iw X.K W (walkM F k its)) (gT X.K g) (ttO X.K F co) (De X.K W0 (evE F ee)) own σ H Q := by
  obtain ⟨m, s, r, w⟩ := h
  refine ⟨m, s, r, ?_⟩
  have w : wp (M.bnd (evs F its) fun vs => M.bnd (itemsK k vs) fun xs => M.bnd (M.chk (decide (xs.length ≤ sizeLine))) fun _ => M.bnd (lockL vs []) fun ls =>
      M.bnd (withLk ls (withOwn own (compF own g (evc F co) (evE F ee) xs))) fun r => M.ret (.tmp (.lst r))) s (OkE X.K m s σ H Q) (ExW X.K W m s σ H) := by
    have e : evE F (.comp g k its co ee own) = (M.bnd (evs F its) fun vs => M.bnd (itemsK k vs) fun xs => M.bnd (M.chk (decide (xs.length ≤ sizeLine))) fun _ => M.bnd (lockL vs []) fun ls =>
      M.bnd (withLk ls (withOwn own (compF own g (evc F co) (evE F ee) xs))) fun r => M.ret (.tmp (.lst r))) := by simp only [evE, ev2]
    rw [← e]; exact w
  unfold walkM
  refine wp_bnd.mpr (wp_mono (wp_bnd.mp w) (fun vs s1 w => wp_bnd.mpr (wp_mono (wp_bnd.mp w) (fun xs s1 w => ?_) fun _ _ z => z)) fun _ _ z => z)
  obtain ⟨hz, w⟩ := wp_chk.mp (wp_bnd.mp w)
  have hz : xs.length ≤ sizeLine := of_decide_eq_true hz
  refine wp_bnd.mpr (wp_mono (wp_bnd.mp w) (fun ls s2 w => ?_) fun _ _ z => z)
  obtain ⟨hn, w⟩ := wp_withOwn (wp_withLk (wp_bnd.mp w))
  intro m1 s1 H1 J r1 x1 lk wk D hD
  have lk : Locks ls s1 s2 := lk
  have wk : Walk X.K J xs m1 s2 σ H1 := wk
  have r2 : Rel X.K m1 s2 σ H1 := lk.sim.rel r1
  have g0 : ∀ a o, H1 a = some o → upd H1 D (.lst []) a = some o := fun a o e => by
    rw [upd_ne (fun z => by rw [z, hD] at e; cases e)]; exact e
  have noD : ¬ Own m1 s2 σ D := fun z => by
    obtain ⟨o, ho, _⟩ := r2.okind z
    rw [hD] at ho; cases ho
  have xw : Ext NoT m1 s2 σ H1 m1 (wip s2 own) (wipe σ own) H1 := Ext.wip hn
  refine ⟨fun i n H' => n = xs.length - i ∧ i ≤ xs.length ∧ ∃ m' s' acc accV, Rel X.K m' s' (wipe σ own) H' ∧ Ext NoT m1 (wip s2 own) (wipe σ own) H1 m' s' (wipe σ own) H' ∧ ¬ Own m' s' (wipe σ own) D ∧ H' D = some (.lst accV) ∧ VsRel X.K m' s'.h.length H' acc accV ∧ accV.length ≤ i ∧
      wp (compF own g (evc F co) (evE F ee) (xs.drop i)) s' (fun rr s'' => OkE X.K m s σ H Q (.tmp (.lst (acc ++ rr))) (unl ls (rst s'' s2 own))) (fun _ _ => False),
    ⟨xs.length, by simp, Nat.zero_le _, m1, wip s2 own, [], [], (r2.wip own).grow g0, Ext.grow g0, fun z => noD z.unwip, upd_same, by simp only [VsRel], Nat.le_refl _, ?_⟩, ?_⟩
  · rw [List.drop_zero]
    exact wp_mono w (fun rr s' z => z) fun _ _ z => z
  rintro i n H' ⟨rfl, hi, m', s', acc, accV, r', x', nD', hD', va, hl, w'⟩
  by_cases hlt : i < xs.length
  · have hd : xs.drop i = xs[i] :: xs.drop (i + 1) := (List.drop_eq_getElem_cons hlt)
    rw [hd] at w'
    simp only [compF] at w'
    obtain ⟨hgo, hy⟩ := wk.go m' s' (wipe σ own) H' i xs[i] r' (xw.trans x') (List.getElem?_eq_getElem hlt)
    refine .inr ⟨hgo, fun H3 => ∃ m' s' acc accV, Rel X.K m' s' (wipe σ own) H3 ∧ Ext NoT m1 (wip s2 own) (wipe σ own) H1 m' s' (wipe σ own) H3 ∧ ¬ Own m' s' (wipe σ own) D ∧ H3 D = some (.lst accV) ∧ VsRel X.K m' s'.h.length H3 acc accV ∧ accV.length ≤ i + 1 ∧
      wp (compF own g (evc F co) (evE F ee) (xs.drop (i + 1))) s' (fun rr s'' => OkE X.K m s σ H Q (.tmp (.lst (acc ++ rr))) (unl ls (rst s'' s2 own))) (fun _ _ => False),
      fun H3 h => ⟨xs.length - (i + 1), by omega, rfl, hlt, h⟩, fun y H2 hyl => ?_⟩
    obtain ⟨gr, hv⟩ := hy y H2 hyl
    have r2' := r'.grow gr
    have x2 : Ext NoT m1 (wip s2 own) (wipe σ own) H1 m' s' (wipe σ own) H2 := x'.trans (Ext.grow gr)
    refine assignG_own hg r2' hv (wp_bnd.mp w') fun σ3 s3 hw r3 x3 w3 => ?_
    rw [wipe_wipe] at hw
    refine ⟨hw, m', s3, r3, wp_mono (wp_noEx (wp_bnd.mp w3)) (fun bb s4 w4 m4 H4 r4 x4 => ?_) fun _ _ z => z.elim⟩
    have x13 := (x2.trans x3).trans x4
    have x34 := x3.trans x4
    have nD4 : ¬ Own m4 s4 σ3 D := fun z => by
      rcases x34.ow D z with z | z | z
      · exact nD' z
      · exact z
      · rw [gr _ _ hD'] at z; cases z
    have hD4 : H4 D = some (.lst accV) := x34.fr D _ (gr _ _ hD') nD' fun z => z
    have va4 : VsRel X.K m4 s4.h.length H4 acc accV := (va.mono (fun _ _ => rfl) (Nat.le_refl _) (fun a vs h => sqT_keep (fun o e _ => gr a o e) h)).mono x34.mm x34.len (x34.sqT r2' fun _ z => z.elim)
    have w4 : wp (if bb = true then M.bnd (noEx (evE F ee)) fun v => M.bnd (box v) fun p => M.bnd (wipeM own) fun _ => M.bnd (compF own g (evc F co) (evE F ee) (xs.drop (i + 1))) fun r => M.ret (p :: r) else M.bnd (wipeM own) fun _ => compF own g (evc F co) (evE F ee) (xs.drop (i + 1))) s4 (fun rr s'' => OkE X.K m s σ H Q (.tmp (.lst (acc ++ rr))) (unl ls (rst s'' s2 own))) (fun _ _ => False) := w4
    cases bb with
    | false =>
      simp only [Bool.false_eq_true, if_false] at w4 ⊢
      obtain ⟨hn4, w5⟩ := wp_wipeM (wp_bnd.mp w4)
      have r5 := r4.wip own
      have x5 := x13.trans (Ext.wip hn4)
      rw [hw] at r5 x5
      exact ⟨m4, wip s4 own, acc, accV, r5, x5, fun z => nD4 (by rw [← hw] at z; exact z.unwip), hD4, va4, by omega, w5⟩
    | true =>
      simp only [if_true] at w4 ⊢
      refine ⟨m4, s4, r4, wp_mono (wp_noEx (wp_bnd.mp w4)) (fun ev s5 w5 m5 H5 v r5 x5 e5 f5 => ?_) fun _ _ z => z.elim⟩
      obtain ⟨p, s6, q6, w6⟩ := wp_box (wp_bnd.mp w5)
      obtain ⟨m6, r6, x6, v6⟩ := box_ok r5 e5 q6
      obtain ⟨hn6, w7⟩ := wp_wipeM (wp_bnd.mp w6)
      have hD5 : H5 D = some (.lst accV) := x5.fr D _ hD4 nD4 fun z => z
      have tf : ∀ a, TmpAt [ev] [v] a → H4 a = none := fun a z => by
        rcases z with ⟨⟨c, e1⟩, e2⟩ | z
        · exact f5 c a e1 e2
        · exact z.elim
      have nD6 : ¬ Own m6 s6 σ3 D := fun z => by
        rcases x6.ow D z with z | z | z
        · rcases x5.ow D z with z | z | z
          · exact nD4 z
          · exact z
          · rw [hD4] at z; cases z
        · rw [tf D z] at hD4; cases hD4
        · rw [hD5] at z; cases z
      have r7 := r6.wip own
      have x7 := ((x13.trans x5).transT x6 fun a z => x13.dom a (tf a z)).trans (Ext.wip (own := own) hn6)
      rw [hw] at r7 x7
      have nD7 : ¬ Own m6 (wip s6 own) (wipe σ own) D := fun z => nD6 (by rw [← hw] at z; exact z.unwip)
      obtain ⟨r8, x8⟩ := updD_ok (l' := accV ++ [v]) r7 hD5 nD7
      have va5 : VsRel X.K m5 s5.h.length H5 acc accV := va4.mono x5.mm x5.len (x5.sqT r4 fun _ z => z.elim)
      have va6 : VsRel X.K m6 s6.h.length H5 (acc ++ [p]) (accV ++ [v]) := (va5.mono x6.mm x6.len fun _ _ z => z).append (by simp only [VsRel]; exact ⟨v, [], rfl, v6, rfl⟩)
      have va8 : VsRel X.K m6 s6.h.length (upd H5 D (.lst (accV ++ [v]))) (acc ++ [p]) (accV ++ [v]) := va6.mono (fun _ _ => rfl) (Nat.le_refl _) (x8.sqT r7 fun a z => ⟨.lst accV, by rw [z]; exact hD5, trivial⟩)
      refine ⟨accV, hD5, by omega, m6, wip s6 own, acc ++ [p], accV ++ [v], r8, x7.transT x8 (fun a z => by rw [z]; exact hD), nD7, upd_same, va8, by simp; omega, ?_⟩
      refine wp_mono (wp_bnd.mp w7) (fun rr s8 w8 => ?_) fun _ _ z => z
      have w8 : OkE X.K m s σ H Q (.tmp (.lst (acc ++ (p :: rr)))) (unl ls (rst s8 s2 own)) := w8
      rw [List.append_assoc]
      exact w8
  · have e : i = xs.length := by omega
    subst e
    rw [List.drop_length] at w'
    have w' : OkE X.K m s σ H Q (.tmp (.lst (acc ++ []))) (unl ls (rst s' s2 own)) := w'
    rw [List.append_nil] at w'
    refine .inl ⟨wk.stop m' s' (wipe σ own) H' r' (xw.trans x'), ?_⟩
    obtain ⟨r9, x9, o9⟩ := rst_ok r2 hn r' x'
    obtain ⟨sm, x10⟩ := lk.off X.K m1 m' (rst s' s2 own) σ σ H1 H' x9
    refine w' m' H' (.ref D) (sm.rel r9) (x1.trans x10) (sm.ev ?_) fun c b e1 e2 => ?_
    · exact ⟨D, rfl, ⟨accV, hD', va⟩, fun z => (o9 D z).elim nD' noD⟩
    · cases e2; exact x1.dom D hD
theorem de_comp {elt tg iter : Expr} {ifs : List Expr} {scope : Scope} {own : List (Str × Nat)} {g : Tg} {k : ItK} {its : List E} {co : Option E} {ee : E} (hc : X.calm = true) (hN : X.N.Nodup) (hi : PI X tg iter (Iw X.K W (walkM F k its)))
    (hgt : ∀ (s : Shared) (H : Hp) (C : Addr) (cl : List (Str × Addr)) (fp : List Addr), PG (X.blk s H scope (compEnvC scope cl C X.env) fp) tg (gT X.K g)) (ht : ∀ (s : Shared) (H : Hp) (C : Addr) (cl : List (Str × Addr)) (fp : List Addr), PTs (X.blk s H scope (compEnvC scope cl C X.env) fp) ifs (ttO X.K F co))
    (he : ∀ (s : Shared) (H : Hp) (C : Addr) (cl : List (Str × Addr)) (fp : List Addr), DE (X.blk s H scope (compEnvC scope cl C X.env) fp) F W0 elt ee) (ok : blkC X.N X.env.scope scope own = true := by rfl) (hg : ∀ i ∈ g.slots, i ∈ own.map (·.2) := by decide) (hs : ∀ x, foldedSetIterable iter X.env x = pure x := by intro _; rfl) :
    DE X F W (.ListComp elt [⟨tg, iter, ifs, 0⟩] scope pos) (.comp g k its co ee (own.map (·.2))) :=
  pe_w (pe_lc hc hN hi (blkOk_by ok) hgt ht he hs) fun σ H Q h => comp_core hg h
theorem ds_asgC {i : Nat} {y : Str} {py spos : Pos} {elt tg iter : Expr} {ifs : List Expr} {scope : Scope} {own : List (Str × Nat)} {g : Tg} {k : ItK} {its : List E} {co : Option E} {ee : E} (hc : X.calm = true) (hN : X.N.Nodup) (hi : PI X tg iter (Iw X.K W (walkM F k its)))
    (hgt : ∀ (s : Shared) (H : Hp) (C : Addr) (cl : List (Str × Addr)) (fp : List Addr), PG (X.blk s H scope (compEnvC scope cl C X.env) fp) tg (gT X.K g)) (ht : ∀ (s : Shared) (H : Hp) (C : Addr) (cl : List (Str × Addr)) (fp : List Addr), PTs (X.blk s H scope (compEnvC scope cl C X.env) fp) ifs (ttO X.K F co))
    (he : ∀ (s : Shared) (H : Hp) (C : Addr) (cl : List (Str × Addr)) (fp : List Addr), DE (X.blk s H scope (compEnvC scope cl C X.env) fp) F W0 elt ee)
    (hsw : swapsWith (.ListComp elt [⟨tg, iter, ifs, 0⟩] scope pos) (some (.Name y py)) spos.line X.env = pure true) (hy : X.N[i]? = some y := by rfl) (hyl : X.env.scope.names.lookup y = some .local := by rfl)
    (ok : blkC X.N X.env.scope scope own = true := by rfl) (hg : ∀ i ∈ g.slots, i ∈ own.map (·.2) := by decide) (hs : ∀ x, foldedSetIterable iter X.env x = pure x := by intro _; rfl) :
    DSt X F W (.Assign [.Name y py] (.ListComp elt [⟨tg, iter, ifs, 0⟩] scope pos) spos) (.asg i (.comp g k its co ee (own.map (·.2)))) :=
  ps_w (ps_setLc hc hN hy hyl hsw hi (blkOk_by ok) hgt ht he hs) fun D σ H h => comp_core hg (asg_core h)
end
end DV
namespace DV
open PySem PySem.Spec PyProof.Rows L2
structure PostC (K : Fg) (m : Nat → Addr) (s : DS) (σ : SSt) (H : Hp) (m' : Nat → Addr) (h' : List DO) (H' : Hp) (e : EV) (v : V) : Prop where
  rel : Rel K m' ⟨[], h'⟩ [] H'
  ext : Ext NoT m s σ H m' ⟨[], h'⟩ [] H'
  ev : EVRel K m' ⟨[], h'⟩ [] H' e v
  nw : ∀ c a, e = .tmp c → v = .ref a → Own m s σ a ∨ H a = none
def OkC (K : Fg) (m : Nat → Addr) (s : DS) (σ : SSt) (H : Hp) (Q : VK) : RC → Prop
  | .ok e h' => ∀ m' H' v, PostC K m s σ H m' h' H' e v → Q v H'
  | .ex _ h' => ∀ m' H', Rel K m' ⟨[], h'⟩ [] H' → Ext NoT m s σ H m' ⟨[], h'⟩ [] H' → False
  | .no => False
structure FnG (P : Program) (w : World) (K : Fg) (mg : Str → Option Value) (base : Heap) (k : Nat) (f : Addr) (fd : FuncData) (ps : List Str) (FF : List SV → List DO → RC) : Prop where
  len : ∀ sv h, FF sv h ≠ .no → sv.length = ps.length
  run : ∀ (A : Around) (outer : List Env) (s : Shared) (H : Hp) (args : Args) (us : List Value) (vs : List V) (m : Nat → Addr) (sv : List SV) (h : List DO) (Q : VK), Room k A → A.guards = some [] → Env0 P w K mg base A outer s H →
    BindsTo s fd args (ps.zip us) → Vals vs us → Rel K m ⟨sv.map some, h⟩ (vs.map some) H → (∀ x ∈ sv, noLk x) → OkC K m ⟨sv.map some, h⟩ (vs.map some) H Q (FF sv h) → codeAny (model P w) A (.call (.ref f) args) (CR CX0 outer P w H s Q E0) s
section
variable {K : Fg} {m m' : Nat → Addr} {s s' : DS} {σ σ' : SSt} {H H' : Hp} {T : Addr → Prop}
theorem CORel.lower {n k : Nat} {c : CO} {a : Addr} (h : CORel K m n H c a) (u : c.und k = true) : CORel K m k H c a := by
  cases c with
  | lst xs => obtain ⟨vs, e, q⟩ := h; exact ⟨vs, e, q.lower u⟩
  | dct kvs => obtain ⟨vs, e, q1, q⟩ := h; exact ⟨vs, e, q1, q.lower u⟩
theorem pad_get {α : Type} {l : List (Option α)} {n i : Nat} {x : α} (e : (l ++ List.replicate n none)[i]? = some (some x)) : l[i]? = some (some x) := by
  by_cases h : i < l.length
  · rw [List.getElem?_append_left h] at e; exact e
  · rw [List.getElem?_append_right (by omega), List.getElem?_replicate] at e
    split at e <;> cases e
theorem get_pad {α : Type} {l : List (Option α)} {n i : Nat} {x : α} (e : l[i]? = some (some x)) : (l ++ List.replicate n none)[i]? = some (some x) := by
  rw [List.getElem?_append_left (List.getElem?_eq_some_iff.mp e).1]; exact e
def padS (s : DS) (n : Nat) : DS := { s with env := s.env ++ List.replicate n none }
theorem pad_own {n i : Nat} (o : OwnS (padS s n) i) : OwnS s i := by
  obtain ⟨c, e | e⟩ := o
  · exact ⟨c, .inl (pad_get e)⟩
  · exact ⟨c, .inr (pad_get e)⟩
theorem Rel.pad (n : Nat) (r : Rel K m s σ H) : Rel K m (padS s n) (σ ++ List.replicate n none) H where
  hp := r.hp
  sl := fun i x e => by
    obtain ⟨v, h1, h2⟩ := r.sl i x (pad_get e)
    exact ⟨v, get_pad h1, h2⟩
  len := by
    show (s.env ++ _).length = _
    rw [List.length_append, List.length_append, r.len, List.length_replicate, List.length_replicate]
  inj := r.inj
  inj2 := fun k o i a e f oi ei => r.inj2 k o i a e f (pad_own oi) (pad_get ei)
  inj3 := fun i j a oi oj ei ej => r.inj3 i j a (pad_own oi) (pad_own oj) (pad_get ei) (pad_get ej)
theorem Own.unpad {n : Nat} {a : Addr} (o : Own m (padS s n) (σ ++ List.replicate n none) a) : Own m s σ a := by
  rcases o with ⟨k, o, e, f, rfl⟩ | ⟨i, oi, e⟩
  · exact .inl ⟨k, o, e, f, rfl⟩
  · exact .inr ⟨i, pad_own oi, pad_get e⟩
theorem Own.pad {n : Nat} {a : Addr} (o : Own m s σ a) : Own m (padS s n) (σ ++ List.replicate n none) a := by
  rcases o with ⟨k, o, e, f, rfl⟩ | ⟨i, ⟨c, oi⟩, e⟩
  · exact .inl ⟨k, o, e, f, rfl⟩
  · exact .inr ⟨i, ⟨c, oi.elim (fun z => .inl (get_pad z)) fun z => .inr (get_pad z)⟩, get_pad e⟩
theorem post_rel {n : Nat} {h2 : List DO} (hl : ∀ (i : Nat) (c : CO), s.env[i]? ≠ some (some (SV.lk c))) (r : Rel K m' s' σ' H') (x : Ext NoT m (padS s n) (σ ++ List.replicate n none) H m' s' σ' H') (hh : h2 = s'.h ∨ h2 = s'.h.take s.h.length) :
    Rel K m' ⟨[], h2⟩ [] H' ∧ Ext NoT m s σ H m' ⟨[], h2⟩ [] H' := by
  have hlen : s.h.length ≤ h2.length := by
    have q : s.h.length ≤ s'.h.length := x.len
    rcases hh with rfl | rfl
    · exact q
    · rw [List.length_take]; omega
  have back : ∀ {k : Nat} {o : DO}, h2[k]? = some o → s'.h[k]? = some o := fun {k o} e => by
    rcases hh with rfl | rfl
    · exact e
    · have hk := (List.getElem?_eq_some_iff.mp e).1
      rw [List.length_take] at hk
      rw [List.getElem?_take_of_lt (by omega)] at e; exact e
  have fore : ∀ {k : Nat} {o : DO}, k < s.h.length → s'.h[k]? = some o → h2[k]? = some o := fun {k o} hk e => by
    rcases hh with rfl | rfl
    · exact e
    · rw [List.getElem?_take_of_lt hk]; exact e
  have nos : ∀ {i : Nat}, ¬ OwnS ⟨[], h2⟩ i := fun {i} ⟨c, z⟩ => by
    rcases z with z | z <;> simp at z
  have ownb : ∀ a, Own m' ⟨[], h2⟩ [] a → Own m' s' σ' a := fun a z => by
    rcases z with ⟨k, o, e, f, rfl⟩ | ⟨i, oi, _⟩
    · exact .inl ⟨k, o, back e, f, rfl⟩
    · exact (nos oi).elim
  refine ⟨⟨fun k o e => r.hp k o (back e), fun i x e => ?_, rfl, fun k k' o o' e e' f f' z => r.inj k k' o o' (back e) (back e') f f' z, fun k o i a e f oi _ => (nos oi).elim, fun i j a oi _ _ _ => (nos oi).elim⟩,
    ⟨hlen, x.mm, fun a o e no nt => x.fr a o e (fun z => no z.unpad) nt, fun a z => ?_, x.dom, fun i c e => (hl i c e).elim, fun k c e => fore (List.getElem?_eq_some_iff.mp e).1 (x.lkh k c e), fun k c e => fore (List.getElem?_eq_some_iff.mp e).1 (x.fzh k c e), fun k o e f => ?_⟩⟩
  · have e : ([] : List (Option SV))[i]? = some (some x) := e
    simp at e
  · rcases x.ow a (ownb a z) with z | z | z
    · exact .inl z.unpad
    · exact z.elim
    · exact .inr (.inr z)
  · obtain ⟨o1, e1, f1⟩ := x.nfz k o e f
    exact ⟨o1, fore (List.getElem?_eq_some_iff.mp e).1 e1, f1⟩
theorem post_of {n : Nat} {h2 : List DO} {e e2 : EV} {v : V} (hl : ∀ (i : Nat) (c : CO), s.env[i]? ≠ some (some (SV.lk c))) (r : Rel K m' s' σ' H') (x : Ext NoT m (padS s n) (σ ++ List.replicate n none) H m' s' σ' H')
    (hh : h2 = s'.h ∨ h2 = s'.h.take s.h.length ∧ e2.und s.h.length = true) (he : outV s' e = some e2) (hv : EVRel K m' s' σ' H' e v) (hf : Fresh H e v) : PostC K m s σ H m' h2 H' e2 v := by
  have hlen : s.h.length ≤ h2.length := by
    have q : s.h.length ≤ s'.h.length := x.len
    rcases hh with rfl | ⟨rfl, _⟩
    · exact q
    · rw [List.length_take]; omega
  have back : ∀ {k : Nat} {o : DO}, h2[k]? = some o → s'.h[k]? = some o := fun {k o} e => by
    rcases hh with rfl | ⟨rfl, _⟩
    · exact e
    · have hk := (List.getElem?_eq_some_iff.mp e).1
      rw [List.length_take] at hk
      rw [List.getElem?_take_of_lt (by omega)] at e; exact e
  have nos : ∀ {i : Nat}, ¬ OwnS ⟨[], h2⟩ i := fun {i} ⟨c, z⟩ => by
    rcases z with z | z <;> simp at z
  have ownb : ∀ a, Own m' ⟨[], h2⟩ [] a → Own m' s' σ' a := fun a z => by
    rcases z with ⟨k, o, e, f, rfl⟩ | ⟨i, oi, _⟩
    · exact .inl ⟨k, o, back e, f, rfl⟩
    · exact (nos oi).elim
  have low : ∀ (c : CO) (a : Addr), CORel K m' s'.h.length H' c a → e2 = .tmp c → CORel K m' h2.length H' c a := fun c a q e3 => by
    rcases hh with rfl | ⟨_, hu⟩
    · exact q
    · rw [e3] at hu
      exact CORel.mono (fun _ _ => rfl) hlen (fun _ _ z => z) (fun _ z => z) (q.lower hu)
  obtain ⟨q1, q2⟩ := post_rel hl r x (hh.imp id And.left)
  refine ⟨q1, q2, ?_, ?_⟩
  · cases e with
    | pv p =>
      simp only [outV, Option.some.injEq] at he
      subst he
      have hv : VRel K m' s'.h.length H' p v := hv
      show VRel K m' h2.length H' p v
      rcases hh with rfl | ⟨q, hu⟩
      · exact hv
      · exact VRel.mono (fun _ _ => rfl) hlen (fun _ _ z => z) (hv.lower hu)
    | tmp c =>
      simp only [outV, Option.some.injEq] at he
      subst he
      obtain ⟨a, e1, q, no⟩ := hv
      exact ⟨a, e1, low c a q rfl, fun z => no (ownb a z)⟩
    | bw i =>
      simp only [outV] at he
      have hv : σ'[i]? = some (some v) := hv
      split at he
      · rename_i p ei
        cases he
        obtain ⟨u, h1, h3⟩ := r.sl i _ ei
        rw [hv] at h1; cases h1
        have h3 : VRel K m' s'.h.length H' p v := h3
        show VRel K m' h2.length H' p v
        rcases hh with rfl | ⟨q, hu⟩
        · exact h3
        · exact VRel.mono (fun _ _ => rfl) hlen (fun _ _ z => z) (h3.lower hu)
      · rename_i c ei
        cases he
        obtain ⟨u, h1, a, h4, h3⟩ := r.sl i _ ei
        rw [hv] at h1; cases h1
        refine ⟨a, h4, low c a h3 rfl, fun z => ?_⟩
        rcases z with ⟨k, o, e, f, e2⟩ | ⟨i, oi, _⟩
        · exact r.inj2 k o i a (back e) f ⟨c, .inl ei⟩ (by rw [hv, h4]) e2
        · exact (nos oi).elim
      · cases he
  · intro c a e1 e2
    cases e with
    | pv p => simp only [outV, Option.some.injEq] at he; rw [← he] at e1; cases e1
    | tmp d =>
      exact .inr (hf d a rfl e2)
    | bw i =>
      simp only [outV] at he
      have hv : σ'[i]? = some (some v) := hv
      split at he
      · cases he; cases e1
      · rename_i d ei
        cases he; cases e1
        rcases x.ow a (.inr ⟨i, ⟨_, .inl ei⟩, by rw [hv, e2]⟩) with z | z | z
        · exact .inl z.unpad
        · exact z.elim
        · exact .inr z
      · cases he
theorem fin_of {n : Nat} {c : M Fl} {s0 : DS} {Q : VK} (hl : ∀ (i : Nat) (c : CO), s.env[i]? ≠ some (some (SV.lk c))) (w : OkC K m s σ H Q (finC s.h (c s0))) :
    wp c s0 (OkS K m (padS s n) (σ ++ List.replicate n none) H { nx := fun _ H' => Q .non H', rt := Q }) (ExW K W0 m (padS s n) (σ ++ List.replicate n none) H) := by
  unfold wp
  generalize c s0 = R at w
  cases R with
  | no => exact w
  | ex y s' =>
    intro m' σ' H' r x
    obtain ⟨q1, q2⟩ := post_rel hl r x (.inl rfl)
    exact w m' H' q1 q2
  | ok f s' =>
    intro m' σ' H' r x
    cases f with
    | bk => exact w
    | ct => exact w
    | nx =>
      have w : ∀ m' H' v, PostC K m s σ H m' (s'.h.take s.h.length) H' (.pv .non) v → Q v H' := w
      exact w m' H' .non (post_of (e := .pv .non) hl r x (.inr ⟨rfl, rfl⟩) rfl (by simp only [EVRel, VRel]) fun _ _ z => nomatch z)
    | rt e =>
      intro v hv hf
      have w : OkC K m s σ H Q (match outV s' e with | some v => .ok v (trunc s.h v s'.h) | none => .no) := w
      cases q : outV s' e with
      | none => rw [q] at w; exact w.elim
      | some e2 =>
        rw [q] at w
        have w : ∀ m' H' v, PostC K m s σ H m' (trunc s.h e2 s'.h) H' e2 v → Q v H' := w
        refine w m' H' v (post_of hl r x ?_ q hv hf)
        unfold trunc
        by_cases hu : e2.und s.h.length = true
        · rw [if_pos hu]; exact .inr ⟨rfl, hu⟩
        · rw [if_neg hu]; exact .inl rfl
theorem EVsRel.len : ∀ {es : List EV} {vs : List V}, EVsRel K m s σ H es vs → vs.length = es.length
  | [], _, h => by cases h; rfl
  | e :: es, _, ⟨v, r, e1, _, _, h⟩ => by subst e1; simp [EVsRel.len h]
theorem start_pad {N : List Str} {vs : List V} : start N vs = vs.map some ++ List.replicate (N.length - vs.length) none := rfl
theorem args_rel {xs : List SV} {vs : List V} (r : Rel K m s σ H) (e : EVsRel K m s σ H (xs.map evOf) vs) (nl : ∀ x ∈ xs, noLk x) : Rel K m ⟨xs.map some, s.h⟩ (vs.map some) H ∧
    (∀ i, OwnS ⟨xs.map some, s.h⟩ i → ∀ a, (vs.map some)[i]? = some (some (.ref a)) → TmpAt (xs.map evOf) vs a) := by
  have get : ∀ {xs : List SV} {vs : List V}, EVsRel K m s σ H (xs.map evOf) vs → (∀ x ∈ xs, noLk x) → ∀ (i : Nat) (x : SV), xs[i]? = some x → ∃ v, vs[i]? = some v ∧ EVRel K m s σ H (evOf x) v ∧ (∀ c a, x = .own c → v = .ref a → TmpAt (xs.map evOf) vs a) := by
    intro xs
    induction xs with
    | nil => intro vs _ _ i x h; simp at h
    | cons y ys ih =>
      intro vs e nl i x h
      obtain ⟨v, t, rfl, h1, h2, h3⟩ := e
      cases i with
      | zero =>
        simp at h; subst h
        exact ⟨v, rfl, h1, fun c a e1 e2 => .inl ⟨⟨c, by rw [e1]; rfl⟩, e2⟩⟩
      | succ j =>
        obtain ⟨u, q1, q2, q3⟩ := ih h3 (fun z hz => nl z (List.mem_cons_of_mem _ hz)) j x (by simpa using h)
        exact ⟨u, by simpa using q1, q2, fun c a e1 e2 => .inr (q3 c a e1 e2)⟩
  have two : ∀ {xs : List SV} {vs : List V}, EVsRel K m s σ H (xs.map evOf) vs → ∀ (i j : Nat) (c d : CO) (a : Addr), xs[i]? = some (.own c) → xs[j]? = some (.own d) → vs[i]? = some (.ref a) → vs[j]? = some (.ref a) → i = j := by
    have tm : ∀ {ys : List SV} {us : List V} (j : Nat) (d : CO) (a : Addr), ys[j]? = some (.own d) → us[j]? = some (.ref a) → TmpAt (ys.map evOf) us a := by
      intro ys
      induction ys with
      | nil => intro us j d a h; simp at h
      | cons y ys ih =>
        intro us j d a h1 h2
        cases us with
        | nil => simp at h2
        | cons u us =>
          cases j with
          | zero => simp at h1 h2; subst h1 h2; exact .inl ⟨⟨d, rfl⟩, rfl⟩
          | succ j => exact .inr (ih j d a (by simpa using h1) (by simpa using h2))
    intro xs
    induction xs with
    | nil => intro vs _ i j c d a h; simp at h
    | cons y ys ih =>
      intro vs e i j c d a h1 h2 h3 h4
      obtain ⟨v, t, rfl, q1, q2, q3⟩ := e
      cases i with
      | zero =>
        cases j with
        | zero => rfl
        | succ j =>
          simp at h1 h3; subst h1 h3
          exact (q2 c a rfl rfl (tm j d a (by simpa using h2) (by simpa using h4))).elim
      | succ i =>
        cases j with
        | zero =>
          simp at h2 h4; subst h2 h4
          exact (q2 d a rfl rfl (tm i c a (by simpa using h1) (by simpa using h3))).elim
        | succ j => rw [ih q3 i j c d a (by simpa using h1) (by simpa using h2) (by simpa using h3) (by simpa using h4)]
  have at1 : ∀ (i : Nat) (x : SV), (xs.map some)[i]? = some (some x) → xs[i]? = some x := fun i x h => by
    rw [List.getElem?_map] at h
    cases q : xs[i]? with
    | none => rw [q] at h; cases h
    | some y => rw [q] at h; cases h; rfl
  have at2 : ∀ (i : Nat) (v : V), (vs.map some)[i]? = some (some v) → vs[i]? = some v := fun i x h => by
    rw [List.getElem?_map] at h
    cases q : vs[i]? with
    | none => rw [q] at h; cases h
    | some y => rw [q] at h; cases h; rfl
  have own1 : ∀ i, OwnS ⟨xs.map some, s.h⟩ i → ∃ c, xs[i]? = some (.own c) := fun i ⟨c, z⟩ => by
    rcases z with z | z
    · exact ⟨c, at1 i _ z⟩
    · exact (nl _ (List.mem_of_getElem? (at1 i _ z))).elim
  have own2 : ∀ i, OwnS ⟨xs.map some, s.h⟩ i → ∀ a, (vs.map some)[i]? = some (some (.ref a)) → TmpAt (xs.map evOf) vs a := fun i oi a ea => by
    obtain ⟨c, hc⟩ := own1 i oi
    obtain ⟨v, h1, h2, h3⟩ := get e nl i _ hc
    rw [at2 i _ ea] at h1; cases h1
    exact h3 c a rfl rfl
  refine ⟨⟨r.hp, fun i x h => ?_, ?_, r.inj, fun k o i a ek f oi ea => ?_, fun i j a oi oj ei ej => ?_⟩, own2⟩
  · obtain ⟨v, h1, h2, _⟩ := get e nl i x (at1 i x h)
    exact ⟨v, by rw [List.getElem?_map, h1]; rfl, show SRel K m s.h.length H x v from srel_of h2 (nl _ (List.mem_of_getElem? (at1 i x h)))⟩
  · show (xs.map some).length = _
    have := e.len
    rw [List.length_map] at this
    rw [List.length_map, List.length_map, this]
  · intro z
    exact tmpAt_no e (own2 i oi a ea) (.inl ⟨k, o, ek, f, z⟩)
  · obtain ⟨c, hc⟩ := own1 i oi
    obtain ⟨d, hd⟩ := own1 j oj
    exact two e i j c d a hc hd (at2 i _ ei) (at2 j _ ej)
theorem back_of {xs : List SV} {vs : List V} {h' : List DO} (r : Rel K m s σ H) (e : EVsRel K m s σ H (xs.map evOf) vs) (nl : ∀ x ∈ xs, noLk x) (p : Rel K m' ⟨[], h'⟩ [] H' ∧ Ext NoT m ⟨xs.map some, s.h⟩ (vs.map some) H m' ⟨[], h'⟩ [] H') :
    Rel K m' { s with h := h' } σ H' ∧ Ext (TmpAt (xs.map evOf) vs) m s σ H m' { s with h := h' } σ H' ∧ (∀ (ev : EV) (v : V), PostC K m ⟨xs.map some, s.h⟩ (vs.map some) H m' h' H' ev v → EVRel K m' { s with h := h' } σ H' ev v ∧ (∀ c a, ev = .tmp c → v = .ref a → TmpAt (xs.map evOf) vs a ∨ H a = none)) := by
  obtain ⟨r0, t0⟩ := args_rel r e nl
  have own0 : ∀ a, Own m ⟨xs.map some, s.h⟩ (vs.map some) a → (∃ (k : Nat) (o : DO), s.h[k]? = some o ∧ o.isFz = false ∧ a = m k) ∨ TmpAt (xs.map evOf) vs a := fun a z => by
    rcases z with z | ⟨i, oi, ei⟩
    · exact .inl z
    · exact .inr (t0 i oi a ei)
  have slotN : ∀ (i : Nat) (a : Addr), OwnS s i → σ[i]? = some (some (.ref a)) → ¬ Own m ⟨xs.map some, s.h⟩ (vs.map some) a := fun i a oi ei z => by
    rcases own0 a z with ⟨k, o, ek, f, z⟩ | z
    · exact r.inj2 k o i a ek f oi ei z
    · exact tmpAt_no e z (.inr ⟨i, oi, ei⟩)
  have slotK : ∀ (i : Nat) (a : Addr), OwnS s i → σ[i]? = some (some (.ref a)) → ∃ o, H a = some o := fun i a oi ei => by
    obtain ⟨o, ho, _⟩ := r.okind (.inr ⟨i, oi, ei⟩)
    exact ⟨o, ho⟩
  have ht := p.2.sqT r0 fun _ z => z.elim
  have ownH : ∀ a, Own m' ⟨[], h'⟩ [] a ↔ ∃ (k : Nat) (o : DO), h'[k]? = some o ∧ o.isFz = false ∧ a = m' k := fun a => ⟨fun z => by
    rcases z with z | ⟨i, ⟨c, z | z⟩, _⟩
    · exact z
    · simp at z
    · simp at z, fun z => .inl z⟩
  have slotO : ∀ (i : Nat) (a : Addr), OwnS s i → σ[i]? = some (some (.ref a)) → ¬ Own m' ⟨[], h'⟩ [] a := fun i a oi ei z => by
    rcases p.2.ow a z with z | z | z
    · exact slotN i a oi ei z
    · exact z
    · obtain ⟨o, ho⟩ := slotK i a oi ei
      rw [ho] at z; cases z
  refine ⟨⟨p.1.hp, fun i x ei => ?_, r.len, p.1.inj, fun k o i a ek f oi ei => fun z => slotO i a oi ei (.inl ⟨k, o, ek, f, z⟩), r.inj3⟩,
    ⟨p.2.len, p.2.mm, fun a o ea no nt => p.2.fr a o ea (fun z => ?_) fun z => z, fun a z => ?_, p.2.dom, fun i c ei => ⟨ei, rfl⟩, p.2.lkh, p.2.fzh, p.2.nfz⟩, fun ev v p => ⟨?_, fun c a e1 e2 => ?_⟩⟩
  · obtain ⟨u, h1, h2⟩ := r.sl i x ei
    refine ⟨u, h1, ?_⟩
    cases x with
    | pv q => exact VRel.mono p.2.mm p.2.len ht h2
    | own c =>
      obtain ⟨a, rfl, q⟩ := h2
      exact ⟨a, rfl, CORel.mono p.2.mm p.2.len ht (fun o eo => p.2.fr a o eo (slotN i a ⟨c, .inl ei⟩ h1) fun z => z) q⟩
    | lk c =>
      obtain ⟨a, rfl, q⟩ := h2
      exact ⟨a, rfl, LKRel.mono p.2.mm p.2.len ht (fun o eo => p.2.fr a o eo (slotN i a ⟨c, .inr ei⟩ h1) fun z => z) q⟩
  · rcases own0 a z with z | z
    · exact no (.inl z)
    · exact nt z
  · rcases z with z | ⟨i, oi, ei⟩
    · rcases p.2.ow a ((ownH a).mpr z) with z | z | z
      · rcases own0 a z with z | z
        · exact .inl (.inl z)
        · exact .inr (.inl z)
      · exact z.elim
      · exact .inr (.inr z)
    · exact .inl (.inr ⟨i, oi, ei⟩)
  · have q := p.ev
    cases ev with
    | pv x => exact q
    | tmp c =>
      obtain ⟨a, e1, q1, q2⟩ := q
      refine ⟨a, e1, q1, fun z => ?_⟩
      rcases z with z | ⟨i, oi, ei⟩
      · exact q2 (.inl z)
      · rcases p.nw c a rfl e1 with z | z
        · exact slotN i a oi ei z
        · obtain ⟨o, ho⟩ := slotK i a oi ei
          rw [ho] at z; cases z
    | bw i =>
      have q : ([] : SSt)[i]? = some (some v) := q
      simp at q
  · rcases p.nw c a e1 e2 with z | z
    · rcases own0 a z with ⟨k, o, ek, f, z⟩ | z
      · have q := p.ev
        rw [e1] at q
        obtain ⟨b, e3, q1, q2⟩ := q
        rw [e2] at e3; cases e3
        obtain ⟨o1, h1, f1⟩ := p.ext.nfz k o ek f
        exact (q2 (.inl ⟨k, o1, h1, f1, by rw [z, p.ext.mm k (List.getElem?_eq_some_iff.mp ek).1]⟩)).elim
      · exact .inl z
    · exact .inr z
end
section
variable {P : Program} {w : World} {K : Fg} {mg : Str → Option Value} {base : Heap} {Pf : List FD} {i k : Nat} {d : FD} {x qual : Str} {params : Arguments} {stb : List Stmt} {scope : Scope} {dvs : List V} {kws : List (Str × V)} {f : Addr} {fd : FuncData} {N ps : List Str}
theorem fng_of (Fu : FunD K x qual params stb scope dvs kws f fd) (S : FnScope N ps scope) (hP : Pf[i]? = some d) (hnp : d.np = ps.length) (hns : d.ns = N.length)
    (hb : ∀ (cdv : Value) (A : Around) (outer : List Env) (s : Shared) (H : Hp), Room k (A.deeper (envOfC qual scope s.heap.objs.size f cdv)) → A.guards = some [] →
      DSs (cxOf CX0 P w K mg base N qual scope f cdv A outer s H E0).nox (callF Pf k) W0 stb d.body) : FnG P w K mg base (k + 1) f fd ps (callF Pf (k + 1) i) := by
  have un : ∀ sv h, callF Pf (k + 1) i sv h = if sv.length = d.np then finC h (evSs (callF Pf k) d.body ⟨startE d sv, h⟩) else .no := fun sv h => by
    simp only [callF, hP]
  refine ⟨fun sv h hn => ?_, fun A outer s₀ H args us vs m sv h Q room hg entry bind rv rel nl ok => ?_⟩
  · rw [un] at hn
    by_cases hl : sv.length = d.np
    · rw [hl, hnp]
    · rw [if_neg hl] at hn; exact (hn rfl).elim
  rw [un] at ok
  by_cases hl : sv.length = d.np
  case neg => rw [if_neg hl] at ok; exact ok.elim
  rw [if_pos hl] at ok
  have lv : vs.length = sv.length := by
    have q := rel.len
    simp only [List.length_map] at q
    exact q.symm
  obtain ⟨oc, od, dV, kV, doc, pm, an, cdv, ct, osl, rfl, look, code, _, _⟩ := Fu.ex
  have inK : K.In s₀.heap := entry.mod.kin.keeps fun a o ea => (entry.bs a o ea).1
  have lims : s₀.heap.NoLimit := entry.mod.nolimit.keeps fun a o ea => (entry.bs a o ea).1
  refine codeAny_call_function room.depth (inK _ _ look) rfl S.co S.gen rfl (PySem.W.codeRec_of inK code) (bind _ _ _ _ ?_)
  refine wpAny_newFunctionEnv_cells S.kind (fun ⟨nm, u⟩ hm => ?_) fun env he s₁ ic => ?_
  · rcases S.par nm (List.of_mem_zip hm).1 with q | q
    · exact .inl q
    · exact .inr ⟨q, PySem.W.cellsFrom_some _ _ _ (.inl q)⟩
  subst he
  refine ⟨lims.keeps ic.toInCall.keep, codeAny_func ?_⟩
  have I := inv_start (CX := CX0) (E := E0) S room.hd entry (by rw [lv, hl, hnp]) rv ic
  have body := (hb cdv A outer s₀ H (room.deeper _) hg).nox
  have t : Ds K W0 (evSs (callF Pf k) d.body) { nx := fun _ H' => Q .non H', rt := Q } (start N vs) H := by
    refine ⟨m, padS ⟨sv.map some, h⟩ (d.ns - d.np), ?_, ?_⟩
    · have e1 : start N vs = vs.map some ++ List.replicate (d.ns - d.np) none := by rw [start_pad, hns, lv, hl]
      rw [e1]
      exact rel.pad _
    · have e1 : start N vs = vs.map some ++ List.replicate (d.ns - d.np) none := by rw [start_pad, hns, lv, hl]
      have nlk : ∀ (j : Nat) (c : CO), (DS.mk (sv.map some) h).env[j]? ≠ some (some (SV.lk c)) := fun j c z => by
        have z : (sv.map some)[j]? = some (some (SV.lk c)) := z
        rw [List.getElem?_map] at z
        cases q : sv[j]? with
        | none => rw [q] at z; cases z
        | some y => rw [q] at z; cases z; exact nl _ (List.mem_of_getElem? q)
      have q := fin_of (n := d.ns - d.np) (s := ⟨sv.map some, h⟩) nlk ok
      rw [e1]
      exact q
  refine wpAny_mono (body.run [] s₁ (start N vs) H _ I t) (fun fl s' hs => ?_) fun e s' hs => hs
  have fin : ∀ {σ' : SSt} {H' : Hp} {v : V} {u : Value}, Inv (cxOf CX0 P w K mg base N qual scope f cdv A outer s₀ H E0) [] σ' H' s' → RelV v u → Q v H' → CE outer P w H s₀ Q u s' :=
    fun {σ' H' v u} J ru q => ⟨v, H', J.os, J.bare, J.base, J.hok, ru, q⟩
  cases fl with
  | ret u =>
    obtain ⟨v, σ', H', J, ru, q⟩ := hs
    exact fin J ru q
  | next =>
    obtain ⟨σ', H', J, q⟩ := hs
    exact fin (v := V.non) (u := Value.none) J rfl q
  | brk =>
    obtain ⟨_, _, _, q⟩ := hs
    exact q.elim
  | cont =>
    obtain ⟨_, _, _, q⟩ := hs
    exact q.elim
end
end DV
namespace DV
open PySem PySem.Spec PyProof.Rows L2
section
variable {X : Cx} {F : FE} {k i : Nat} {f : Addr} {fd : FuncData} {ps : List Str} {x : Str} {p pos : Pos} {e : Expr} {es : List Expr} {cs : List E}
theorem run_g {W : WX} {pins : List (Addr × Obj)} {σ : SSt} {H H1 : Hp} {s1 : Shared} {Q : VK} {m m1 : Nat → Addr} {sd s1d : DS} {ev : List EV} {perm : List Nat} (hW : ∀ x m s H, ¬ W x m s H) (G : FnG X.prog X.w X.K X.mg X.base k f fd ps (F i)) (hr : Room k X.A) (hgd : X.A.guards = some [])
    {args : Args} {ws : List Value} {zs : List V} {ev2 : List EV} (hp : permute perm ev = some ev2) (e2 : EVsRel X.K m1 s1d σ H1 ev2 zs) (f2 : ∀ a, TmpAt ev2 zs a → H a = none) (hb : zs.length = ps.length → BindsTo s1 fd args (ps.zip ws)) (I : Inv X pins σ H1 s1) (rv : Vals zs ws)
    (r1 : Rel X.K m1 s1d σ H1) (x1 : Ext NoT m sd σ H m1 s1d σ H1)
    (w : wp (M.bnd (M.opt (permute perm ev)) fun vs => M.bnd (toSVs vs) (callM F i)) s1d (OkE X.K m sd σ H Q) (ExW X.K W m sd σ H)) :
    codeAny (model X.prog X.w) X.A (.call (.ref f) args) (fun r s' => match r with | .ok (.ret u) => EP X pins σ Q u s' | _ => False) s1 := by
  obtain ⟨_, he, w⟩ := wp_opt.mp (wp_bnd.mp w)
  rw [hp] at he; cases he
  obtain ⟨sv, s2, m2, r2, x2, e3, nl, ht, w⟩ := toSVs_ok r1 e2 (wp_bnd.mp w)
  obtain ⟨r0, t0⟩ := args_rel r2 e3 nl
  have ht0 : ∀ a, TmpAt ev2 zs a → H a = none := f2
  have ok : OkC X.K m2 ⟨sv.map some, s2.h⟩ (zs.map some) H1 Q (F i sv s2.h) := by
    unfold wp callM at w
    cases q : F i sv s2.h with
    | no => rw [q] at w; exact w
    | ex y h' =>
      rw [q] at w
      intro m' H' q1 q2
      obtain ⟨b1, b2, _⟩ := back_of r2 e3 nl ⟨q1, q2⟩
      exact hW _ _ _ _ (w m' σ H' b1 (x1.transT (x2.then' b2) fun a z => z.elim (ht0 a) fun z => ht0 a (ht a z)))
    | ok v h' =>
      rw [q] at w
      intro m' H' u pc
      obtain ⟨b1, b2, b3⟩ := back_of r2 e3 nl ⟨pc.rel, pc.ext⟩
      obtain ⟨b4, b5⟩ := b3 v u pc
      refine w m' H' u b1 (x1.transT (x2.then' b2) fun a z => z.elim (ht0 a) fun z => ht0 a (ht a z)) b4 fun c a z1 z2 => ?_
      rcases b5 c a z1 z2 with z | z
      · exact ht0 a (ht a z)
      · exact x1.dom a z
  have hl : zs.length = ps.length := by
    have q := G.len sv s2.h (fun z => by rw [z] at ok; exact ok)
    have q2 := e3.len
    rw [List.length_map] at q2
    omega
  refine codeAny_mono (G.run X.A X.stack s1 H1 args ws zs m2 sv s2.h Q hr hgd I.env0 (hb hl) rv r0 nl ok) fun r s' hq => ?_
  cases r with
  | error er => exact (show False from hq).elim
  | ok fl =>
    cases fl with
    | ret u => exact I.after hq
    | next => exact (show False from hq).elim
    | brk => exact (show False from hq).elim
    | cont => exact (show False from hq).elim
theorem de_call {W : WX} (hW : ∀ x m s H, ¬ W x m s H) (G : FnG X.prog X.w X.K X.mg X.base k f fd ps (F i)) (hr : Room k X.A) (hgd : X.A.guards = some []) (hg : Gl X x) (hm : X.mg x = some (.ref f)) (hk : PySem.W.keepIn X.K (.ref f) = true) (hb : Binds X.K fd ps [])
    (ha : DA X F W (e :: es) cs) (hdb : (x == ("__debug__" : Str)) = false := by decide) (he : starEach (e :: es) X.env = (false, eval e X.env) :: starEach es X.env := by rfl) (hpl : (backTo pos (starEach es X.env)).any (·.1) = false := by rfl) :
    DE X F W (.Call (.Name x p) (e :: es) [] pos) (.call i cs []) := by
  refine ⟨fun pins s σ H Q I ⟨m, sd, r, w⟩ => ?_⟩
  simp only [evE, DV.ev2] at w
  refine wpAny_Call_Name_kw (ld_glob I hg hm (PySem.W.callWith_K (h₀ := X.base) I.ok.mod.kin hk (wpAny_mono (ha.run pos pins s σ H _ I (Da.bind (Q := fun vs H1 => ∃ ev s1d m1, Rel X.K m1 s1d σ H1 ∧ Ext NoT m sd σ H m1 s1d σ H1 ∧ EVsRel X.K m1 s1d σ H1 ev vs ∧ (∀ a, TmpAt ev vs a → H a = none) ∧
    wp (M.bnd (M.opt (permute [] ev)) fun vs => M.bnd (toSVs vs) (callM F i)) s1d (OkE X.K m sd σ H Q) (ExW X.K W m sd σ H)) r w fun ev s1 m1 H1 vs r1 x1 e1 f1 w1 => ⟨ev, s1, m1, r1, x1, e1, f1, w1⟩)) (fun us s1 hq => ?_) fun _ _ z => z) he hpl) hdb)
  obtain ⟨vs, H1, I1, rv, ev, s1d, m1, r1, x1, e1, f1, w1⟩ := hq
  refine ⟨I1.kIn, wpAny_call (codeAny_mono (run_g hW G hr hgd rfl e1 f1 (fun hl => ?_) I1 rv r1 x1 w1) fun r s' hq => ?_)⟩
  · have q := hb s1 us I1.kIn (by rw [List.append_nil, ← rv.length]; exact hl)
    rw [List.append_nil] at q
    exact q
  · cases r with
    | error er => exact (show False from hq).elim
    | ok fl => cases fl <;> first | exact hq | exact (show False from hq).elim
theorem de_call0 {W : WX} (hW : ∀ x m s H, ¬ W x m s H) (G : FnG X.prog X.w X.K X.mg X.base k f fd ps (F i)) (hr : Room k X.A) (hgd : X.A.guards = some []) (hg : Gl X x) (hm : X.mg x = some (.ref f)) (hk : PySem.W.keepIn X.K (.ref f) = true) (hb : Binds X.K fd ps [])
    (hdb : (x == ("__debug__" : Str)) = false := by decide) : DE X F W (.Call (.Name x p) [] [] pos) (.call i [] []) := by
  refine ⟨fun pins s σ H Q I ⟨m, sd, r, w⟩ => ?_⟩
  simp only [evE, DV.ev2, evs] at w
  have w1 : wp (M.bnd (M.opt (permute [] [])) fun vs => M.bnd (toSVs vs) (callM F i)) sd (OkE X.K m sd σ H Q) (ExW X.K W m sd σ H) := w
  refine wpAny_Call_Name_kw (ld_glob I hg hm (PySem.W.callWith_K0 I.kIn hk (wpAny_call (codeAny_mono (run_g (zs := []) (ws := []) hW G hr hgd rfl (show EVsRel X.K m sd σ H [] [] from rfl) (fun a z => z.elim) (fun hl => ?_) I .nil r Ext.refl w1) fun r s' hq => ?_))) hdb)
  · have q := hb s [] I.kIn (by rw [List.append_nil]; exact hl)
    rw [List.append_nil] at q
    exact q
  · cases r with
    | error er => exact (show False from hq).elim
    | ok fl => cases fl <;> first | exact hq | exact (show False from hq).elim
end
def scriptH (ns : List Int) : List DO := [.fz (ns.map PV.int)]
theorem script_rel {K : Fg} {H : Hp} {a : Addr} {ns : List Int} (h : (∃ o, H a = some (.frz o (.lst (ns.map V.int)))) ∨ KLst K a (ns.map V.int)) : Rel K (fun _ => a) ⟨[some (.pv (.ref 0))], scriptH ns⟩ [some (.ref a)] H where
  hp := fun n o e => by
    cases n with
    | zero => cases e; exact ⟨ns.map V.int, VsRel.ofInts ns, h⟩
    | succ n => simp [scriptH] at e
  sl := fun i x e => by
    cases i with
    | zero => cases e; exact ⟨_, rfl, by simp only [SRel, VRel]; exact ⟨Nat.zero_lt_one, trivial⟩⟩
    | succ n => simp at e
  len := rfl
  inj := fun n n' o o' e e' f f' _ => by
    cases n with
    | zero => cases e; cases f
    | succ n => simp [scriptH] at e
  inj2 := fun n o i a e f _ _ => by
    cases n with
    | zero => cases e; cases f
    | succ n => simp [scriptH] at e
  inj3 := fun i j a ⟨c, z⟩ _ _ _ => by
    cases i with
    | zero => rcases z with z | z <;> cases z
    | succ n => rcases z with z | z <;> simp at z
theorem lawG {P : Program} {w : World} {K : Fg} {mg mb : Str → Option Value} {k : Nat} {fa a : Addr} {fd : FuncData} {x : Str} {FF : List SV → List DO → RC} {t₁ : Shared} {vs : List Value} {ns : List Int} {hf : List DO}
    (inK : K.In t₁.heap) (ns1 : t₁.heap.Ns mainGlobals mg) (ns2 : t₁.heap.Ns builtinsNs mb) (ns3 : ∀ y : Str, y ≠ "__name__" → mb y = bootBuiltins y) (nolim : t₁.heap.NoLimit) (nogen : t₁.gens = #[])
    (at_ : t₁.heap.get? a = some { cls := .type "list", data := .seq vs.toArray }) (hi : IntsAre vs ns) (small : ns.length ≤ sizeLine) (room : Room k callerA)
    (G : ∀ base : Heap, K.In base → base.Ns mainGlobals mg → FnG P w K mg base k fa fd [x] FF) (bind : ∀ (s : Shared) (u : Value), BindsTo s fd ⟨[u], []⟩ [(x, u)])
    (says : FF [.pv (.ref 0)] (scriptH ns) = .ok (.pv (.bl true)) hf) :
    codeAny (model P w) callerA (.call (.ref fa) ⟨[.ref a], []⟩) (fun r s' => r = .ok (.ret (.bool true)) ∧ OldK t₁.heap s'.heap ∧ s'.os = t₁.os ∧ AllBare s'.gens) t₁ := by
  have rv := vals_ints hi
  have key : ∀ H : Hp, Only H → ((∃ o, H a = some (.frz o (.lst (ns.map V.int)))) ∨ KLst K a (ns.map V.int)) → HOk P w H t₁.heap → (∀ b, H b ≠ none → b = a) → (H a ≠ none → K.lookup a = none) →
      codeAny (model P w) callerA (.call (.ref fa) ⟨[.ref a], []⟩) (fun r s' => r = .ok (.ret (.bool true)) ∧ OldK t₁.heap s'.heap ∧ s'.os = t₁.os ∧ AllBare s'.gens) t₁ := by
    intro H only sc hok single apart
    have nsB : ∀ {b : Addr} {m : Str → Option Value}, t₁.heap.Ns b m → (hidT t₁.heap H).Ns b m := fun {b m} ⟨o, es, ep, e, d, r⟩ => ⟨o, es, ep, hidT_get e (by
      cases q : H b with
      | none => rfl
      | some u =>
        obtain rfl : b = a := single b (by rw [q]; simp)
        rw [at_] at e; cases e
        exact nomatch (show Data.seq vs.toArray _ = Data.dict es ep from d)), d, r⟩
    have inB : K.In (hidT t₁.heap H) := fun b o e => hidT_get (inK b o e) (by
      cases q : H b with
      | none => rfl
      | some u =>
        obtain rfl : b = a := single b (by rw [q]; simp)
        rw [apart (by rw [q]; simp)] at e; cases e)
    have md : Mod K mg (hidT t₁.heap H) := ⟨inB, nsB ns1, ⟨mb, nsB ns2, ns3⟩, let ⟨mc, z1, z2⟩ := nolim; ⟨mc, nsB z1, z2⟩⟩
    have entry : Env0 P w K mg (hidT t₁.heap H) callerA [] t₁ H := ⟨rfl, md, fun b o e => of_hidT e, Nat.le_of_eq (hidT_size _ _), trivial, fun b z => (nomatch (show b ∈ ([] : List Addr) from z)), hok, .of_eq nogen⟩
    have ok : OkC K (fun _ => a) ⟨[SV.pv (.ref 0)].map some, scriptH ns⟩ ([V.ref a].map some) H (fun v _ => v = .bl true) (FF [.pv (.ref 0)] (scriptH ns)) := by
      rw [says]
      intro m' H' v pc
      exact pc.ev
    refine codeAny_mono ((G _ inB (nsB ns1)).run callerA [] t₁ H ⟨[.ref a], []⟩ [.ref a] [.ref a] _ [.pv (.ref 0)] (scriptH ns) _ room rfl entry (bind t₁ (.ref a)) (.cons rfl .nil) (script_rel sc) (fun y hy => by
      obtain rfl : y = .pv (.ref 0) := by simpa using hy
      trivial) ok) fun r s' h => ?_
    cases r with
    | error er => exact (show False from h).elim
    | ok fl =>
      cases fl with
      | next => exact (show False from h).elim
      | brk => exact (show False from h).elim
      | cont => exact (show False from h).elim
      | ret u =>
        obtain ⟨v, H', os, bare, un, hok', ru, q⟩ := h
        obtain rfl : v = .bl true := q
        obtain rfl : u = Value.bool true := ru
        refine ⟨rfl, OldK.of_keep fun b o e => ?_, os, bare⟩
        cases q : H b with
        | none => exact un.keep b o e q (fun z => nomatch (show b ∈ ([] : List Addr) from z)) (by simp)
        | some u =>
          rcases only b with z | ⟨ob, xs, z⟩
          · rw [q] at z; cases z
          · obtain ⟨e1, _⟩ := hok b _ z
            obtain ⟨e2, _⟩ := hok' b _ (un.frzs b ob _ z)
            rw [e] at e1; cases e1
            exact e2
  cases hk : K.lookup a with
  | some o =>
    have e := inK a o hk
    rw [at_] at e
    cases e
    exact key (fun _ => none) (fun _ => .inl rfl) (.inr ⟨_, vs.toArray, _, hk, rfl, rfl, rfl, by rw [List.size_toArray, hi.length]; exact small, by simpa using rv⟩) (fun b u z => (nomatch (show (none : Option HO) = some u from z))) (fun b z => (z rfl).elim) fun z => (z rfl).elim
  | none =>
    refine key (fun b => if b = a then some (.frz { cls := .type "list", data := .seq vs.toArray } (.lst (ns.map V.int))) else none) (fun b => ?_) (.inl ⟨{ cls := .type "list", data := .seq vs.toArray }, if_pos rfl⟩) (fun b u z => ?_) (fun b z => ?_) fun _ => hk
    · by_cases hb : b = a
      · exact .inr ⟨_, _, if_pos hb⟩
      · exact .inl (if_neg hb)
    · by_cases hb : b = a
      · have z2 := (if_pos hb).symm.trans z
        cases z2
        subst hb
        exact ⟨at_, by rw [List.length_map]; exact small, vs, _, rv, at_⟩
      · have z2 := (if_neg hb).symm.trans z
        cases z2
    · by_cases hb : b = a
      · exact hb
      · exact (z (if_neg hb)).elim
theorem walkG {l : PySem.W.OpenLaw} {n k : Nat} {q : Program} {loose : List Str} {XP : (Str → Option Value) → Heap → Prop} {YP : World → Heap → Prop} {d : DefRec} {x : Str}
    (hn : l.most = some n) (hn2 : n ≤ sizeLine) (hdf : d.params.defaults = []) (room : Room k callerA)
    (G : ∀ (w : World) (mg : Str → Option Value) (fa : Addr) (h : Heap), YP w h → h.Ns mainGlobals mg → mg d.name = some (.ref fa) →
      ∃ (K : Fg) (fd : FuncData) (FF : List SV → List DO → RC), K.In h ∧ (∀ (s : Shared) (u : Value), BindsTo s fd ⟨[u], []⟩ [(x, u)]) ∧
        (∀ (ns : List Int), ns.length ≤ n → ∃ hf, FF [.pv (.ref 0)] (scriptH ns) = .ok (.pv (.bl true)) hf) ∧
        ∀ base : Heap, K.In base → base.Ns mainGlobals mg → FnG l.prog w K mg base k fa fd [x] FF) :
    PySem.W.WalkO q loose XP YP l.row.toRowW d [] (fun f vs => PySem.call f vs) := by
  refine Att.attach_call hn hdf fun w t₀ t₁ mg mb fa o pm cd doc a vs ns Gr Y ho hd hcd hmg hobj hints hlen hg => ?_
  obtain ⟨K, fd, FF, inK, bind, says, hG⟩ := G w mg fa _ Y Gr.T.g hmg
  obtain ⟨hf, e⟩ := says ns hlen
  exact lawG inK Gr.T.g Gr.T.b Gr.T.builtins Gr.T.nolimit hg hobj hints (Nat.le_trans hlen hn2) room hG bind e
end DV
namespace DV
open PySem PySem.Spec PyProof.Rows L2
def permL {α : Type} (perm : List Nat) (l : List α) : List α := perm.filterMap fun i => l[i]?
section
variable {K : Fg} {m m' : Nat → Addr} {s s' : DS} {σ σ' : SSt} {H H' : Hp}
theorem EVsRel.get : ∀ {es : List EV} {vs : List V} {i : Nat} {e : EV}, EVsRel K m s σ H es vs → es[i]? = some e → ∃ v, vs[i]? = some v ∧ EVRel K m s σ H e v
  | [], _, _, _, _, e => by simp at e
  | x :: xs, _, 0, e, ⟨v, r, e1, h, _, _⟩, q => by subst e1; simp at q; subst q; exact ⟨v, rfl, h⟩
  | x :: xs, _, i + 1, e, ⟨v, r, e1, _, _, h⟩, q => by
    subst e1
    obtain ⟨u, a, b⟩ := EVsRel.get h (show xs[i]? = some e by simpa using q)
    exact ⟨u, by simpa using a, b⟩
theorem tmpAt_iff : ∀ {es : List EV} {vs : List V} {a : Addr}, TmpAt es vs a ↔ ∃ (i : Nat) (c : CO), es[i]? = some (.tmp c) ∧ vs[i]? = some (.ref a)
  | [], vs, a => ⟨fun z => z.elim, fun ⟨i, c, z, _⟩ => by simp at z⟩
  | e :: es, [], a => ⟨fun z => z.elim, fun ⟨i, c, _, z⟩ => by simp at z⟩
  | e :: es, v :: vs, a => ⟨fun z => by
      rcases z with ⟨⟨c, rfl⟩, rfl⟩ | z
      · exact ⟨0, c, rfl, rfl⟩
      · obtain ⟨i, c, z1, z2⟩ := tmpAt_iff.mp z
        exact ⟨i + 1, c, by simpa using z1, by simpa using z2⟩, fun ⟨i, c, z1, z2⟩ => by
      cases i with
      | zero => simp at z1 z2; exact .inl ⟨⟨c, z1⟩, z2⟩
      | succ i => exact .inr (tmpAt_iff.mpr ⟨i, c, by simpa using z1, by simpa using z2⟩)⟩
theorem evs_apart : ∀ {es : List EV} {vs : List V}, EVsRel K m s σ H es vs → ∀ (i j : Nat) (c d : CO) (a : Addr), es[i]? = some (.tmp c) → es[j]? = some (.tmp d) → vs[i]? = some (.ref a) → vs[j]? = some (.ref a) → i = j
  | [], _, _, i, j, c, d, a, h, _, _, _ => by simp at h
  | e :: es, _, ⟨v, r, e1, _, h2, h3⟩, i, j, c, d, a, q1, q2, q3, q4 => by
    subst e1
    cases i with
    | zero =>
      cases j with
      | zero => rfl
      | succ j => simp at q1 q3; exact (h2 c a q1 q3 (tmpAt_iff.mpr ⟨j, d, by simpa using q2, by simpa using q4⟩)).elim
    | succ i =>
      cases j with
      | zero => simp at q2 q4; exact (h2 d a q2 q4 (tmpAt_iff.mpr ⟨i, c, by simpa using q1, by simpa using q3⟩)).elim
      | succ j => rw [evs_apart h3 i j c d a (by simpa using q1) (by simpa using q2) (by simpa using q3) (by simpa using q4)]
theorem perm_ok {ev : List EV} {zs : List V} (e : EVsRel K m s σ H ev zs) : ∀ {perm : List Nat} {ev2 : List EV}, perm.Nodup → perm.mapM (fun i => ev[i]?) = some ev2 → EVsRel K m s σ H ev2 (permL perm zs) ∧ (∀ a, TmpAt ev2 (permL perm zs) a → ∃ i ∈ perm, ∃ c, ev[i]? = some (.tmp c) ∧ zs[i]? = some (.ref a)) ∧ (permL perm zs).length = perm.length
  | [], ev2, _, h => by
    simp at h; subst h
    exact ⟨rfl, fun a z => z.elim, rfl⟩
  | i :: is, ev2, nd, h => by
    rw [List.mapM_cons] at h
    cases q : ev[i]? with
    | none => rw [q] at h; cases h
    | some x =>
      cases q2 : is.mapM (fun i => ev[i]?) with
      | none => rw [q, q2] at h; cases h
      | some xs =>
        rw [q, q2] at h; cases h
        obtain ⟨nd1, nd2⟩ := List.nodup_cons.mp nd
        obtain ⟨v, h1, h2⟩ := e.get q
        obtain ⟨g1, g2, g3⟩ := perm_ok e nd2 q2
        have un : permL (i :: is) zs = v :: permL is zs := by unfold permL; rw [List.filterMap_cons, h1]
        rw [un]
        refine ⟨⟨v, _, rfl, h2, fun c a z1 z2 z3 => ?_, g1⟩, fun a z => ?_, by simp [g3]⟩
        · subst z1 z2
          obtain ⟨j, hj, d, w1, w2⟩ := g2 a z3
          have := evs_apart e i j c d a q w1 h1 w2
          subst this
          exact nd1 hj
        · rcases z with ⟨⟨c, rfl⟩, rfl⟩ | z
          · exact ⟨i, List.mem_cons_self, c, q, h1⟩
          · obtain ⟨j, hj, d, w1, w2⟩ := g2 a z
            exact ⟨j, List.mem_cons_of_mem _ hj, d, w1, w2⟩
end
section
variable {X : Cx} {F : FE} {W : WX} {k i : Nat} {f : Addr} {fd : FuncData} {ps ks : List Str} {x : Str} {p pos kpos : Pos} {e : Expr} {ec : E} {cs : List E} {kws : List Keyword} {nm : Option Str}
abbrev DK (X : Cx) (F : FE) (W : WX) (es : List Keyword) (cs : List E) : Prop := PK X es (Da X.K W (evs F cs))
theorem dk_nil : DK X F W [] [] := pk_w pk_nil fun σ H Q h => da_nil h
theorem dk_cons (ha : DE X F W e ec) (hr : DK X F W kws cs) : DK X F W (⟨nm, e, kpos⟩ :: kws) (ec :: cs) := pk_w (pk_cons ha hr) fun σ H Q h => da_cons h
structure BindK (fd : FuncData) (ps ks : List Str) (perm : List Nat) : Prop where
  nd : perm.Nodup
  ne : perm ≠ []
  to : ∀ (s : Shared) (ws : List Value), ws.length = ks.length → BindsTo s fd ⟨[], ks.zip ws⟩ (ps.zip (permL perm ws))
  lt : ∀ i ∈ perm, i < ks.length
  top : ks.length - 1 ∈ perm
theorem permL_vals {perm : List Nat} {zs : List V} {ws : List Value} (h : Vals zs ws) : Vals (permL perm zs) (permL perm ws) := by
  unfold permL
  induction perm with
  | nil => exact .nil
  | cons i is ih =>
    rw [List.filterMap_cons, List.filterMap_cons]
    cases q : zs[i]? with
    | none =>
      have q2 : ws[i]? = none := by
        rw [List.getElem?_eq_none_iff] at q ⊢
        rw [← h.length]; exact q
      rw [q2]; exact ih
    | some v =>
      obtain ⟨u, q2, r⟩ := h.get q
      rw [q2]; exact .cons r ih
theorem de_callK (hW : ∀ x m s H, ¬ W x m s H) {perm : List Nat} (G : FnG X.prog X.w X.K X.mg X.base k f fd ps (F i)) (hr : Room k X.A) (hgd : X.A.guards = some []) (hg : Gl X x) (hm : X.mg x = some (.ref f)) (hk : PySem.W.keepIn X.K (.ref f) = true) (hb : BindK fd ps ks perm)
    (ha : DK X F W kws cs) (hcs : cs.length = ks.length := by rfl) (hdb : (x == ("__debug__" : Str)) = false := by decide) (hall : (backToKw pos (keywordEach kws X.env)).all (·.1.isSome) = true := by rfl) (hks : (backToKw pos (keywordEach kws X.env)).filterMap (·.1) = ks := by rfl)
    (hpl : ((backTo pos (starEach [] X.env)).any (·.1) || (backToKw pos (keywordEach kws X.env)).any (·.1.isNone)) = false := by rfl) : DE X F W (.Call (.Name x p) [] kws pos) (.call i cs perm) := by
  refine ⟨fun pins s σ H Q I ⟨m, sd, r, w⟩ => ?_⟩
  simp only [evE, DV.ev2] at w
  refine wpAny_Call_Name_kw (ld_glob I hg hm (PySem.W.callWith_KW0 (h₀ := X.base) I.ok.mod.kin hk hall (wpAny_mono (ha.run pos pins s σ H _ I (Da.bind (Q := fun vs H1 => ∃ ev s1d m1, Rel X.K m1 s1d σ H1 ∧ Ext NoT m sd σ H m1 s1d σ H1 ∧ EVsRel X.K m1 s1d σ H1 ev vs ∧ (∀ a, TmpAt ev vs a → H a = none) ∧
    wp (M.bnd (M.opt (permute perm ev)) fun vs => M.bnd (toSVs vs) (callM F i)) s1d (OkE X.K m sd σ H Q) (ExW X.K W m sd σ H)) r w fun ev s1 m1 H1 vs r1 x1 e1 f1 w1 => ⟨ev, s1, m1, r1, x1, e1, f1, w1⟩)) (fun ws s1 hq => ?_) fun _ _ z => z) hpl) hdb)
  obtain ⟨zs, H1, I1, rv, ev, s1d, m1, r1, x1, e1, f1, w1⟩ := hq
  rw [hks]
  obtain ⟨ev2, hp, _⟩ := wp_opt.mp (wp_bnd.mp w1)
  have hp2 : perm.mapM (fun i => ev[i]?) = some ev2 := by
    cases perm with
    | nil => exact (hb.ne rfl).elim
    | cons a as => exact hp
  obtain ⟨g1, g2, g3⟩ := perm_ok e1 hb.nd hp2
  refine ⟨I1.kIn, wpAny_call (codeAny_mono (run_g (zs := permL perm zs) (ws := permL perm ws) hW G hr hgd hp g1 (fun a z => ?_) (fun hl => ?_) I1 (permL_vals rv) r1 x1 w1) fun r s' hq => ?_)⟩
  · obtain ⟨j, _, c, z1, z2⟩ := g2 a z
    exact f1 a (tmpAt_iff.mpr ⟨j, c, z1, z2⟩)
  · have all : ∀ {is : List Nat} {l : List EV}, is.mapM (fun i => ev[i]?) = some l → ∀ i ∈ is, i < ev.length := by
      intro is
      induction is with
      | nil => intro l _ i h; simp at h
      | cons j js ih =>
        intro l h i hi
        rw [List.mapM_cons] at h
        cases q : ev[j]? with
        | none => rw [q] at h; cases h
        | some y =>
          cases q2 : js.mapM (fun i => ev[i]?) with
          | none => rw [q, q2] at h; cases h
          | some ys =>
            rcases List.mem_cons.mp hi with rfl | hi
            · exact (List.getElem?_eq_some_iff.mp q).1
            · exact ih q2 i hi
    have h1 := all hp2 _ hb.top
    have h2 : ws.length = ev.length := by rw [← rv.length]; exact e1.len
    have h3 : ks.length ≤ ws.length := by omega
    have h4 : ks.zip ws = ks.zip (ws.take ks.length) := by
      have q : ∀ (ks : List Str) (ws : List Value), ks.zip ws = ks.zip (ws.take ks.length) := by
        intro ks
        induction ks with
        | nil => intro ws; rfl
        | cons a as ih =>
          intro ws
          cases ws with
          | nil => rfl
          | cons b bs => rw [List.length_cons, List.take_succ_cons, List.zip_cons_cons, List.zip_cons_cons, ← ih bs]
      exact q ks ws
    have h5 : permL perm ws = permL perm (ws.take ks.length) := by
      unfold permL
      have q : ∀ is : List Nat, (∀ i ∈ is, i < ks.length) → is.filterMap (fun i => ws[i]?) = is.filterMap (fun i => (ws.take ks.length)[i]?) := by
        intro is
        induction is with
        | nil => intro _; rfl
        | cons j js ih =>
          intro h
          rw [List.filterMap_cons, List.filterMap_cons, ih fun i hi => h i (List.mem_cons_of_mem _ hi), List.getElem?_take_of_lt (h j List.mem_cons_self)]
      exact q perm hb.lt
    rw [h4, h5]
    exact hb.to s1 _ (by rw [List.length_take]; omega)
  · cases r with
    | error er => exact (show False from hq).elim
    | ok fl => cases fl <;> first | exact hq | exact (show False from hq).elim
end
end DV
namespace DV
open PySem PySem.Spec PyProof.Rows L2
def isCmp : Prim → Bool
  | .eq | .ne | .lt | .le | .gt | .ge | .inn | .notin | .innD | .notinD | .isN | .notN => true
  | _ => false
theorem chk_bl {b : Bool} {f : Bool} {s s' : DS} {e : EV} (q : M.bnd (M.chk b) (fun _ => vbl f) s = .ok e s') : ∃ c, e = .pv (.bl c) := by
  unfold M.bnd M.chk at q
  cases b with
  | false => cases q
  | true => cases q; exact ⟨_, rfl⟩
theorem cmp2_bl {f : Int → Int → Bool} {a b : EV} {s s' : DS} {e : EV} (q : cmp2 f a b s = .ok e s') : ∃ c, e = .pv (.bl c) := by
  unfold cmp2 at q
  unfold int2 at q
  split at q
  · cases q; exact ⟨_, rfl⟩
  · cases q
theorem prim_bl {p : Prim} {vs : List EV} {s s' : DS} {e : EV} (hp : isCmp p = true) (q : primF p vs s = .ok e s') : ∃ b, e = .pv (.bl b) := by
  cases p <;> first | (cases hp; done) | skip
  all_goals
    match vs with
    | [] => cases q
    | [a] =>
      first
      | (cases q; done)
      | (have q : isNF a s = .ok e s' := q
         unfold isNF at q
         split at q
         · cases q; exact ⟨_, rfl⟩
         · cases q)
      | (have q : notNF a s = .ok e s' := q
         unfold notNF at q
         split at q
         · cases q; exact ⟨_, rfl⟩
         · cases q)
    | [a, b] =>
      first
      | (cases q; done)
      | exact cmp2_bl q
      | (have q : eqF a b s = .ok e s' := q
         unfold eqF at q
         split at q
         · exact chk_bl q
         · cases q)
      | (have q : neF a b s = .ok e s' := q
         unfold neF at q
         split at q
         · exact chk_bl q
         · cases q)
      | (have q : innF a b s = .ok e s' := q
         unfold innF at q
         split at q
         · exact chk_bl q
         · cases q)
      | (have q : notinF a b s = .ok e s' := q
         unfold notinF at q
         split at q
         · exact chk_bl q
         · cases q)
      | (have q : innDF a b s = .ok e s' := q
         unfold innDF at q
         split at q
         · cases q; exact ⟨_, rfl⟩
         · cases q)
      | (have q : notinDF a b s = .ok e s' := q
         unfold notinDF at q
         split at q
         · cases q; exact ⟨_, rfl⟩
         · cases q)
    | _ :: _ :: _ :: _ => cases q
section
variable {X : Cx} {F : FE} {W : WX} {a b c : Expr} {ea eb ec : E} {es : List E} {pos : Pos}
theorem dt_prim {p : Prim} (hp : isCmp p = true) {σ : SSt} {H : Hp} {Q : Bool → Hp → Prop} (h : Dt X.K W (evT F (.prim p es)) σ H Q) : De X.K W (evE F (.prim p es)) σ H fun x H1 => ∃ k, x = .bl k ∧ Q k H1 := by
  obtain ⟨m, s, r, w⟩ := h
  refine ⟨m, s, r, ?_⟩
  simp only [evT, evE, DV.ev2] at w ⊢
  have w := wp_bnd.mp w
  unfold wp at w ⊢
  cases q : (M.bnd (evs F es) (primF p)) s with
  | no => rw [q] at w; exact w
  | ex x s' => rw [q] at w; exact w
  | ok e s' =>
    rw [q] at w
    obtain ⟨b, rfl⟩ : ∃ b, e = .pv (.bl b) := by
      unfold M.bnd at q
      cases q2 : evs F es s with
      | no => rw [q2] at q; cases q
      | ex x s2 => rw [q2] at q; cases q
      | ok vs s2 => rw [q2] at q; exact prim_bl hp q
    intro m' H' v r' x' e' f'
    have w : OkT X.K m s σ H Q b s' := w
    exact ⟨b, vr_bl (show VRel X.K m' s'.h.length H' (.bl b) v from e'), w m' H' r' x'⟩
theorem dt_cmpR {op : CmpOp} {p : Prim} {r : R2} (ho : OpR X (compareOp op) r) (hp : PrS X.K p (b2 r)) (hc : isCmp p = true) (ha : DE X F W a ea) (hb : DE X F W b eb) (hm : behindInMarks op b = false) : DT X F W (.Compare a [op] [b] pos) (.prim p [ea, eb]) :=
  pt_w (pt_cmpR ho ha hb hm) fun σ H Q h => De.mono (da_2 (de_prim hp (dt_prim hc h))) fun x H1 q => De.mono q fun y H2 ⟨x', y', e, q⟩ => by cases e; exact q
theorem dt_lt (ha : DE X F W a ea) (hb : DE X F W b eb) : DT X F W (.Compare a [.Lt] [b] pos) (.prim .lt [ea, eb]) := dt_cmpR op_lt prs_lt rfl ha hb (nomark _)
theorem dt_le (ha : DE X F W a ea) (hb : DE X F W b eb) : DT X F W (.Compare a [.LtE] [b] pos) (.prim .le [ea, eb]) := dt_cmpR op_le prs_le rfl ha hb (nomark _)
theorem dt_gt (ha : DE X F W a ea) (hb : DE X F W b eb) : DT X F W (.Compare a [.Gt] [b] pos) (.prim .gt [ea, eb]) := dt_cmpR op_gt prs_gt rfl ha hb (nomark _)
theorem dt_ge (ha : DE X F W a ea) (hb : DE X F W b eb) : DT X F W (.Compare a [.GtE] [b] pos) (.prim .ge [ea, eb]) := dt_cmpR op_ge prs_ge rfl ha hb (nomark _)
theorem dt_eq (hu : X.A.units + 66 < cLine) (ha : DE X F W a ea) (hb : DE X F W b eb) : DT X F W (.Compare a [.Eq] [b] pos) (.prim .eq [ea, eb]) := dt_cmpR (op_eqD (by omega)) prs_eq rfl ha hb (nomark _)
theorem dt_ne (hu : X.A.units + 66 < cLine) (ha : DE X F W a ea) (hb : DE X F W b eb) : DT X F W (.Compare a [.NotEq] [b] pos) (.prim .ne [ea, eb]) := dt_cmpR (op_neD (by omega)) prs_ne rfl ha hb (nomark _)
theorem dt_inn (ha : DE X F W a ea) (hb : DE X F W b eb) (hm : behindInMarks .In b = false := by rfl) : DT X F W (.Compare a [.In] [b] pos) (.prim .inn [ea, eb]) := dt_cmpR op_in_seq prs_inn rfl ha hb hm
theorem dt_notin (ha : DE X F W a ea) (hb : DE X F W b eb) (hm : behindInMarks .NotIn b = false := by rfl) : DT X F W (.Compare a [.NotIn] [b] pos) (.prim .notin [ea, eb]) := dt_cmpR op_notIn_seq prs_notin rfl ha hb hm
theorem dt_innD (hu : X.A.units + 66 < cLine) (ha : DE X F W a ea) (hb : DE X F W b eb) (hm : behindInMarks .In b = false := by rfl) : DT X F W (.Compare a [.In] [b] pos) (.prim .innD [ea, eb]) :=
  pt_w (pt_cmp (pc_din (by omega) ha hb) hm) fun σ H Q h => De.mono (da_2 (de_prim prs_innD (dt_prim rfl h))) fun x H1 q => De.mono q fun y H2 ⟨x', y', e, q⟩ => by cases e; exact q
theorem dt_notinD (hu : X.A.units + 66 < cLine) (ha : DE X F W a ea) (hb : DE X F W b eb) (hm : behindInMarks .NotIn b = false := by rfl) : DT X F W (.Compare a [.NotIn] [b] pos) (.prim .notinD [ea, eb]) :=
  pt_w (pt_cmp (pc_dnotin (by omega) ha hb) hm) fun σ H Q h => De.mono (da_2 (de_prim prs_notinD (dt_prim rfl h))) fun x H1 q => De.mono q fun y H2 ⟨x', y', e, q⟩ => by cases e; exact q
theorem dt_isN {k : Nat} {p' : Pos} (ha : DE X F W a ea) : DT X F W (.Compare a [.Is] [.Constant .none k p'] pos) (.prim .isN [ea]) :=
  pt_w (pt_cmp (pc_isN ha) (nomark _)) fun σ H Q h => De.mono (da_1 (de_prim prs_isN (dt_prim rfl h))) fun x H1 ⟨x', e, q⟩ => by cases e; exact q
theorem dt_notN {k : Nat} {p' : Pos} (ha : DE X F W a ea) : DT X F W (.Compare a [.IsNot] [.Constant .none k p'] pos) (.prim .notN [ea]) :=
  pt_w (pt_cmp (pc_notN ha) (nomark _)) fun σ H Q h => De.mono (da_1 (de_prim prs_notN (dt_prim rfl h))) fun x H1 ⟨x', e, q⟩ => by cases e; exact q
end
end DV
namespace DV
open PySem PySem.Spec PyProof.Rows L2
def Ev {α : Type} (c : M α) (s : DS) (Q : α → DS → Prop) : Prop := ∃ a s', c s = .ok a s' ∧ Q a s'
section
variable {α β : Type} {F : FE} {s s' : DS} {e e1 e2 e3 : E} {es : List E} {sts : List S}
theorem Ev.eq {c : M α} {a : α} {Q : α → DS → Prop} (h : c s = .ok a s') (q : Q a s') : Ev c s Q := ⟨a, s', h, q⟩
theorem Ev.bnd {m : M α} {f : α → M β} {Q : β → DS → Prop} (h : Ev m s fun a s' => Ev (f a) s' Q) : Ev (M.bnd m f) s Q := by
  obtain ⟨a, s1, e1, b, s2, e2, q⟩ := h
  exact ⟨b, s2, by unfold M.bnd; rw [e1]; exact e2, q⟩
theorem Ev.ret {a : α} {Q : α → DS → Prop} (h : Q a s) : Ev (M.ret a) s Q := ⟨a, s, rfl, h⟩
theorem Ev.chk {b : Bool} {Q : Unit → DS → Prop} (hb : b = true) (h : Q () s) : Ev (M.chk b) s Q := ⟨(), s, by unfold M.chk; rw [if_pos hb], h⟩
theorem Ev.opt {o : Option α} {a : α} {Q : α → DS → Prop} (hb : o = some a) (h : Q a s) : Ev (M.opt o) s Q := ⟨a, s, by unfold M.opt; rw [hb], h⟩
theorem Ev.mono {c : M α} {Q Q' : α → DS → Prop} (h : Ev c s Q) (k : ∀ a s', Q a s' → Q' a s') : Ev c s Q' := by
  obtain ⟨a, s1, e1, q⟩ := h
  exact ⟨a, s1, e1, k _ _ q⟩
theorem Ev.conv {c d : M α} {Q : α → DS → Prop} (h : c s = d s) (k : Ev d s Q) : Ev c s Q := by
  obtain ⟨a, s1, e1, q⟩ := k
  exact ⟨a, s1, h.trans e1, q⟩
theorem u_prim {p : Prim} : evE F (.prim p es) = M.bnd (evs F es) (primF p) := by simp only [evE, ev2]
theorem u_meth {p : Prim} : evE F (.meth p e es) = M.bnd (evE F e) fun v => M.bnd (kindM p v) fun _ => M.bnd (evs F es) fun vs => primF p (v :: vs) := by simp only [evE, ev2]
theorem u_call {f : Nat} {pm : List Nat} : evE F (.call f es pm) = M.bnd (evs F es) fun vs => M.bnd (M.opt (permute pm vs)) fun vs => M.bnd (toSVs vs) (callM F f) := by simp only [evE, ev2]
theorem u_iff : evE F (.iff e1 e2 e3) = M.bnd (evT F e1) fun c => if c = true then evE F e2 else evE F e3 := by simp only [evE, evT, ev2]
theorem u_andE : evE F (.andE e1 e2) = M.bnd (evE F e1) fun v => M.bnd (boolF v) fun c => if c = true then evE F e2 else vbl false := by simp only [evE, ev2]
theorem u_orE : evE F (.orE e1 e2) = M.bnd (evE F e1) fun v => M.bnd (boolF v) fun c => if c = true then vbl true else evE F e2 := by simp only [evE, ev2]
theorem u_notE : evE F (.notE e1) = M.bnd (evE F e1) fun v => M.bnd (boolF v) fun c => vbl (!c) := by simp only [evE, ev2]
theorem u_chkI : evE F (.chkI e1) = M.bnd (evE F e1) intM := by simp only [evE, ev2]
theorem u_comp {g : Tg} {k : ItK} {own : List Nat} {co : Option E} : evE F (.comp g k es co e own) = M.bnd (evs F es) fun vs => M.bnd (itemsK k vs) fun xs => M.bnd (M.chk (decide (xs.length ≤ sizeLine))) fun _ => M.bnd (lockL vs []) fun ls =>
      M.bnd (withLk ls (withOwn own (compF own g (evc F co) (evE F e) xs))) fun r => M.ret (.tmp (.lst r)) := by simp only [evE, ev2]
theorem u_cons : evs F (e :: es) = M.bnd (evE F e) fun v => M.bnd (evs F es) fun vs => M.ret (v :: vs) := by simp only [evE, evs]
theorem ut_prim {p : Prim} : evT F (.prim p es) = M.bnd (evE F (.prim p es)) truthF := by simp only [evE, evT, ev2]
theorem ut_call {f : Nat} {pm : List Nat} : evT F (.call f es pm) = M.bnd (evE F (.call f es pm)) truthF := by simp only [evE, evT, ev2]
theorem ut_meth {p : Prim} : evT F (.meth p e es) = M.bnd (evE F (.meth p e es)) truthF := by simp only [evE, evT, ev2]
theorem ut_con {v : PV} : evT F (.con v) = truthF (.pv v) := by simp only [evT, ev2]
theorem ut_not : evT F (.notE e1) = M.bnd (evT F e1) fun c => M.ret (!c) := by simp only [evT, ev2]
theorem ut_and : evT F (.andE e1 e2) = M.bnd (evT F e1) fun c => if c = true then evT F e2 else M.ret false := by simp only [evT, ev2]
theorem ut_or : evT F (.orE e1 e2) = M.bnd (evT F e1) fun c => if c = true then M.ret true else evT F e2 := by simp only [evT, ev2]
theorem us_asg {i : Nat} : evS F (.asg i e) = M.bnd (evE F e) fun v => M.bnd (toSV v) fun x => M.bnd (putSlot i x) fun _ => M.ret .nx := by simp only [evS]
theorem us_par {is : List Nat} : evS F (.par is es) = M.bnd (evs F es) fun vs => M.bnd (toSVs vs) fun xs => M.bnd (putSVs is xs) fun _ => M.ret .nx := by simp only [evS]
theorem us_unp {is : List Nat} : evS F (.unp is e) = M.bnd (evE F e) fun v => fun s => match pvOf s v with
    | some (.tup xs) => M.bnd (M.chk (decide (xs.length = is.length))) (fun _ => M.bnd (putSlots is xs) fun _ => M.ret .nx) s
    | some _ => match itemsOf s v with
      | some (true, xs) => M.bnd (M.chk (decide (xs.length = is.length))) (fun _ => M.bnd (putSlots is xs) fun _ => M.ret .nx) s
      | _ => .no
    | none => match itemsOf s v with
      | some (true, xs) => M.bnd (M.chk (decide (xs.length = is.length))) (fun _ => M.bnd (putSlots is xs) fun _ => M.ret .nx) s
      | _ => .no := by
  first
    | (simp only [evS]; done)
    | (simp only [evS]; rfl)
theorem us_setKey {o i : E} : evS F (.setKey o i e) = M.bnd (evE F e) fun v => M.bnd (evE F o) fun ov => M.bnd (evE F i) fun iv => M.bnd (setKeyF ov iv v) fun _ => M.ret .nx := by simp only [evS]
theorem us_parK {i : Nat} {o k : E} : evS F (.parK i o k es) = M.bnd (evs F es) fun vs => parKF i (evE F o) (evE F k) vs := by simp only [evS]
theorem us_setIx {o i : E} : evS F (.setIx o i e) = M.bnd (evE F e) fun v => M.bnd (evE F o) fun ov => M.bnd (evE F i) fun iv => M.bnd (setIxF ov iv v) fun _ => M.ret .nx := by simp only [evS]
theorem us_expr : evS F (.expr e) = M.bnd (evE F e) fun _ => M.ret .nx := by simp only [evS]
theorem us_ret : evS F (.ret e) = M.bnd (evE F e) fun v => M.ret (.rt v) := by simp only [evS]
theorem us_retN : evS F .retN = M.ret (.rt (.pv .non)) := by simp only [evS]
theorem us_pass : evS F .pass = M.ret .nx := by simp only [evS]
theorem us_ite {t : E} {a b : List S} : evS F (.ite t a b) = M.bnd (evT F t) fun c => if c = true then evSs F a else evSs F b := by simp only [evS]
theorem us_for {g : Tg} {k : ItK} {b : List S} : evS F (.forS g k es b) = M.bnd (evs F es) fun vs => M.bnd (itemsK k vs) fun xs => M.bnd (lockL vs []) fun ls => withLk ls (forF g (evSs F b) xs) := by simp only [evS]
theorem us_wh {t : E} {b : List S} : evS F (.wh t b) = whF (evT F t) (evSs F b) wFuel := by simp only [evS]
theorem u_ss {st : S} : evSs F (st :: sts) = M.bnd (evS F st) fun f => match f with | .nx => evSs F sts | f => M.ret f := by first | (simp only [evSs]; rfl) | simp only [evSs]
section
variable {Q : EV → DS → Prop}
theorem e_var {i : Nat} {v : PV} (h : s.env[i]? = some (some (.pv v))) (q : Q (.pv v) s) : Ev (evE F (.var i)) s Q := .eq (by simp only [evE, ev2, h]) q
theorem e_varO {i : Nat} {c : CO} (h : s.env[i]? = some (some (.own c))) (q : Q (.bw i) s) : Ev (evE F (.var i)) s Q := .eq (by simp only [evE, ev2, h]) q
theorem e_varK {i : Nat} {c : CO} (h : s.env[i]? = some (some (.lk c))) (q : Q (.bw i) s) : Ev (evE F (.var i)) s Q := .eq (by simp only [evE, ev2, h]) q
theorem e_con {v : PV} (q : Q (.pv v) s) : Ev (evE F (.con v)) s Q := .eq (by simp only [evE, ev2]) q
theorem e_prim {p : Prim} (h : Ev (evs F es) s fun vs s' => Ev (primF p vs) s' Q) : Ev (evE F (.prim p es)) s Q := (by rw [u_prim]; exact ((.bnd h)))
theorem e_meth {p : Prim} (h : Ev (evE F e) s fun v s1 => Ev (kindM p v) s1 fun _ s2 => Ev (evs F es) s2 fun vs s3 => Ev (primF p (v :: vs)) s3 Q) : Ev (evE F (.meth p e es)) s Q :=
  (by rw [u_meth]; exact ((.bnd (h.mono fun v s1 h => .bnd (h.mono fun _ s2 h => .bnd h)))))
theorem e_call {f : Nat} (h : Ev (evs F es) s fun vs s1 => Ev (toSVs vs) s1 fun a s2 => Ev (callM F f a) s2 Q) : Ev (evE F (.call f es [])) s Q :=
  (by rw [u_call]; exact ((.bnd (h.mono fun v s1 h => .bnd (.opt rfl (.bnd h))))))
theorem e_callK {f j : Nat} {js : List Nat} (h : Ev (evs F es) s fun vs s1 => ∃ vs', (j :: js).mapM (fun i => vs[i]?) = some vs' ∧ Ev (toSVs vs') s1 fun a s2 => Ev (callM F f a) s2 Q) : Ev (evE F (.call f es (j :: js))) s Q :=
  (by rw [u_call]; exact ((.bnd (h.mono fun v s1 ⟨vs', e, h⟩ => .bnd (.opt e (.bnd h))))))
theorem e_iff (h : Ev (evT F e1) s fun c s1 => (c = true → Ev (evE F e2) s1 Q) ∧ (c = false → Ev (evE F e3) s1 Q)) : Ev (evE F (.iff e1 e2 e3)) s Q :=
  (by rw [u_iff]; exact ((.bnd (h.mono fun c s1 h => by
    cases c with
    | true => exact h.1 rfl
    | false => exact h.2 rfl))))
theorem e_andE (h : Ev (evE F e1) s fun v s1 => ∃ c, v = .pv (.bl c) ∧ (c = true → Ev (evE F e2) s1 Q) ∧ (c = false → Q (.pv (.bl false)) s1)) : Ev (evE F (.andE e1 e2)) s Q :=
  (by rw [u_andE]; exact ((.bnd (h.mono fun v s1 ⟨c, e, h⟩ => by
    subst e
    refine .bnd (.eq (a := c) (s' := s1) rfl ?_)
    cases c with
    | true => exact h.1 rfl
    | false => exact .eq rfl (h.2 rfl)))))
theorem e_orE (h : Ev (evE F e1) s fun v s1 => ∃ c, v = .pv (.bl c) ∧ (c = false → Ev (evE F e2) s1 Q) ∧ (c = true → Q (.pv (.bl true)) s1)) : Ev (evE F (.orE e1 e2)) s Q :=
  (by rw [u_orE]; exact ((.bnd (h.mono fun v s1 ⟨c, e, h⟩ => by
    subst e
    refine .bnd (.eq (a := c) (s' := s1) rfl ?_)
    cases c with
    | false => exact h.1 rfl
    | true => exact .eq rfl (h.2 rfl)))))
theorem e_notE (h : Ev (evE F e1) s fun v s1 => ∃ c, v = .pv (.bl c) ∧ Q (.pv (.bl (!c))) s1) : Ev (evE F (.notE e1)) s Q :=
  (by rw [u_notE]; exact ((.bnd (h.mono fun v s1 ⟨c, e, h⟩ => by
    subst e
    exact .bnd (.eq (a := c) (s' := s1) rfl (.eq rfl h))))))
theorem e_chkI (h : Ev (evE F e1) s fun v s1 => ∃ i, optI s1 v = some i ∧ Q (.pv (.int i)) s1) : Ev (evE F (.chkI e1)) s Q :=
  (by rw [u_chkI]; exact ((.bnd (h.mono fun v s1 ⟨c, e, h⟩ => .eq (by unfold intM; rw [e]) h))))
theorem e_comp {g : Tg} {k : ItK} {own : List Nat} {co : Option E} (h : Ev (evs F es) s fun vs s1 => Ev (itemsK k vs) s1 fun xs s2 => xs.length ≤ sizeLine ∧ Ev (lockL vs []) s2 fun ls s3 =>
    Ev (withOwn own (compF own g (evc F co) (evE F e) xs)) s3 fun r s4 => Q (.tmp (.lst r)) (unl ls s4)) : Ev (evE F (.comp g k es co e own)) s Q :=
  (by rw [u_comp]; exact ((.bnd (h.mono fun vs s1 h => .bnd (h.mono fun xs s2 ⟨hz, h⟩ => .bnd (.chk (decide_eq_true hz) (.bnd (h.mono fun ls s3 h => .bnd (by
    obtain ⟨r, s4, e, q⟩ := h
    exact .eq (a := r) (s' := unl ls s4) (by unfold withLk; rw [e]; rfl) (.ret q))))))))))
end
section
variable {Q : List EV → DS → Prop}
theorem e_nil (q : Q [] s) : Ev (evs F []) s Q := .eq (by simp only [evs]) q
theorem e_cons (h : Ev (evE F e) s fun v s1 => Ev (evs F es) s1 fun vs s2 => Q (v :: vs) s2) : Ev (evs F (e :: es)) s Q :=
  (by rw [u_cons]; exact ((.bnd (h.mono fun v s1 h => .bnd (h.mono fun vs s2 h => .ret h)))))
end
section
variable {Q : Bool → DS → Prop}
theorem t_prim {p : Prim} (h : Ev (evE F (.prim p es)) s fun v s1 => Ev (truthF v) s1 Q) : Ev (evT F (.prim p es)) s Q := (by rw [ut_prim]; exact ((.bnd h)))
theorem t_call {f : Nat} {pm : List Nat} (h : Ev (evE F (.call f es pm)) s fun v s1 => Ev (truthF v) s1 Q) : Ev (evT F (.call f es pm)) s Q := (by rw [ut_call]; exact ((.bnd h)))
theorem t_var {i : Nat} (h : Ev (evE F (.var i)) s fun v s1 => Ev (truthF v) s1 Q) : Ev (evT F (.var i)) s Q := .conv (d := M.bnd (evE F (.var i)) truthF) (by
  simp only [evT, evE, ev2, M.bnd]
  cases s.env[i]? with
  | none => rfl
  | some o => cases o with
    | none => rfl
    | some sv => cases sv <;> rfl) (.bnd h)
theorem t_con {v : PV} (h : Ev (truthF (.pv v)) s Q) : Ev (evT F (.con v)) s Q := (by rw [ut_con]; exact (h))
theorem t_not (h : Ev (evT F e1) s fun c s1 => Q (!c) s1) : Ev (evT F (.notE e1)) s Q := (by rw [ut_not]; exact ((.bnd (h.mono fun c s1 h => .ret h))))
theorem t_and (h : Ev (evT F e1) s fun c s1 => (c = true → Ev (evT F e2) s1 Q) ∧ (c = false → Q false s1)) : Ev (evT F (.andE e1 e2)) s Q := (by rw [ut_and]; exact ((.bnd (h.mono fun c s1 h => by
  cases c with
  | true => exact h.1 rfl
  | false => exact .ret (h.2 rfl)))))
theorem t_or (h : Ev (evT F e1) s fun c s1 => (c = true → Q true s1) ∧ (c = false → Ev (evT F e2) s1 Q)) : Ev (evT F (.orE e1 e2)) s Q := (by rw [ut_or]; exact ((.bnd (h.mono fun c s1 h => by
  cases c with
  | true => exact .ret (h.1 rfl)
  | false => exact h.2 rfl))))
theorem tr_bl {b : Bool} (q : Q b s) : Ev (truthF (.pv (.bl b))) s Q := .eq rfl q
theorem tr_int {i : Int} (q : Q (i != 0) s) : Ev (truthF (.pv (.int i))) s Q := .eq rfl q
theorem c_none (q : Q true s) : Ev (evc F none) s Q := .eq (by simp only [evc]) q
theorem c_some (q : Ev (evT F e) s Q) : Ev (evc F (some e)) s Q := by simp only [evc]; exact q
end
section
variable {Q : EV → DS → Prop} {i j : Int} {a b : EV}
theorem p_add (q : Q (.pv (.int (i + j))) s) : Ev (primF .add [.pv (.int i), .pv (.int j)]) s Q := .eq rfl q
theorem p_sub (q : Q (.pv (.int (i - j))) s) : Ev (primF .sub [.pv (.int i), .pv (.int j)]) s Q := .eq rfl q
theorem p_mul (h : mulOk i j = true) (q : Q (.pv (.int (i * j))) s) : Ev (primF .mul [.pv (.int i), .pv (.int j)]) s Q := .conv (d := M.bnd (M.chk (mulOk i j)) fun _ => vint (i * j)) rfl (.bnd (.chk h (.ret q)))
theorem p_fdiv (h : divOk j = true) (q : Q (.pv (.int (i / j))) s) : Ev (primF .fdiv [.pv (.int i), .pv (.int j)]) s Q := .conv (d := M.bnd (M.chk (divOk j)) fun _ => vint (i / j)) rfl (.bnd (.chk h (.ret q)))
theorem p_mod (h : 0 < j) (q : Q (.pv (.int (i % j))) s) : Ev (primF .mod [.pv (.int i), .pv (.int j)]) s Q := .conv (d := M.bnd (M.chk (decide (0 < j))) fun _ => vint (i % j)) rfl (.bnd (.chk (decide_eq_true h) (.ret q)))
theorem p_pow (h : powOk i j = true) (q : Q (.pv (.int (i ^ j.toNat))) s) : Ev (primF .pow [.pv (.int i), .pv (.int j)]) s Q := .conv (d := M.bnd (M.chk (powOk i j)) fun _ => vint (i ^ j.toNat)) rfl (.bnd (.chk h (.ret q)))
theorem p_shlW (h : shlOk i j = true) (q : Q (.pv (.int (i * 2 ^ j.toNat))) s) : Ev (primF .shl [.pv (.int i), .pv (.int j)]) s Q := .conv (d := M.bnd (M.chk (shlOk i j)) fun _ => vint (i * 2 ^ j.toNat)) rfl (.bnd (.chk h (.ret q)))
theorem p_shl (h : powOk i j = true) (q : Q (.pv (.int (i * 2 ^ j.toNat))) s) : Ev (primF .shl [.pv (.int i), .pv (.int j)]) s Q := p_shlW (by unfold shlOk; rw [h, Bool.true_or]) q
theorem p_neg (q : Q (.pv (.int (-i))) s) : Ev (primF .neg [.pv (.int i)]) s Q := .eq rfl q
theorem p_band (q : Q (.pv (.int (Builtin.bitAnd i j))) s) : Ev (primF .band [.pv (.int i), .pv (.int j)]) s Q := .eq rfl q
theorem p_lt (q : Q (.pv (.bl (decide (i < j)))) s) : Ev (primF .lt [.pv (.int i), .pv (.int j)]) s Q := .eq rfl q
theorem p_le (q : Q (.pv (.bl (decide (i ≤ j)))) s) : Ev (primF .le [.pv (.int i), .pv (.int j)]) s Q := .eq rfl q
theorem p_gt (q : Q (.pv (.bl (decide (j < i)))) s) : Ev (primF .gt [.pv (.int i), .pv (.int j)]) s Q := .eq rfl q
theorem p_ge (q : Q (.pv (.bl (decide (j ≤ i)))) s) : Ev (primF .ge [.pv (.int i), .pv (.int j)]) s Q := .eq rfl q
theorem eqv_int : PyData.eqv (.int i) (.int j) = decide (i = j) := by
  unfold PyData.eqv
  first | rfl | (simp [PyData.eqv]; done) | (by_cases h : i = j <;> simp [h])
theorem p_eq (q : Q (.pv (.bl (decide (i = j)))) s) : Ev (primF .eq [.pv (.int i), .pv (.int j)]) s Q := .eq (s' := s) (a := .pv (.bl (PyData.eqv (.int i) (.int j)))) rfl (by rw [eqv_int]; exact q)
theorem p_ne (q : Q (.pv (.bl (!decide (i = j)))) s) : Ev (primF .ne [.pv (.int i), .pv (.int j)]) s Q := .eq (s' := s) (a := .pv (.bl (!PyData.eqv (.int i) (.int j)))) rfl (by rw [eqv_int]; exact q)
theorem p_int (q : Q (.pv (.int i)) s) : Ev (primF .int [.pv (.int i)]) s Q := .eq rfl q
theorem p_intB {c : Bool} (q : Q (.pv (.int (if c = true then 1 else 0))) s) : Ev (primF .int [.pv (.bl c)]) s Q := .eq rfl q
theorem p_abs (q : Q (.pv (.int (if i < 0 then -i else i))) s) : Ev (primF .abs [.pv (.int i)]) s Q := .eq rfl q
theorem p_min2 (q : Q (.pv (.int (if j < i then j else i))) s) : Ev (primF .min2 [.pv (.int i), .pv (.int j)]) s Q := .eq rfl q
theorem p_max2 (q : Q (.pv (.int (if j > i then j else i))) s) : Ev (primF .max2 [.pv (.int i), .pv (.int j)]) s Q := .eq rfl q
theorem p_len {bb : Bool} {xs : List PV} (h : itemsOf s a = some (bb, xs)) (q : Q (.pv (.int xs.length)) s) : Ev (primF .len [a]) s Q := .conv (d := lenF a) rfl (.eq (by unfold lenF; rw [h]) q)
theorem p_idx {bb : Bool} {xs : List PV} {v : PV} (h : itemsOf s a = some (bb, xs)) (h2 : L2.atI xs i = some v) (q : Q (.pv v) s) : Ev (primF .idx [a, .pv (.int i)]) s Q :=
  .conv (d := idxF a (.pv (.int i))) rfl (.conv (d := M.bnd (M.opt (L2.atI xs i)) (fun v => val v)) (by unfold idxF; rw [h]; rfl) (.bnd (.opt h2 (.ret q))))
theorem p_idxD {kvs : List (Key × PV)} {k : Key} {v : PV} (h : coOf s a = some (.dct kvs)) (hk : (pvOf s b).bind keyOf = some k) (h2 : look kvs k = some v) (q : Q (.pv v) s) : Ev (primF .idxD [a, b]) s Q :=
  .conv (d := idxDF a b) rfl (.conv (d := M.bnd (M.opt (look kvs k)) (fun v => val v)) (by unfold idxDF; rw [h, hk]) (.bnd (.opt h2 (.ret q))))
theorem itemsOf_co {s : DS} {a : EV} {xs : List PV} (h : coOf s a = some (.lst xs)) : itemsOf s a = some (true, xs) := by
  unfold itemsOf
  split
  · exact nomatch (show (none : Option CO) = some (.lst xs) from h)
  · rw [h]
theorem p_sumQ {bb : Bool} {xs : List PV} {ns : List Int} (h : itemsOf s a = some (bb, xs)) (h2 : intsOf xs = some ns) (q : Q (.pv (.int ns.sum)) s) : Ev (primF .sum [a]) s Q :=
  .conv (d := sumF a) rfl (.conv (d := M.bnd (M.opt (intsOf xs)) (fun ns => vint ns.sum)) (by unfold sumF; rw [h]) (.bnd (.opt h2 (.ret q))))
theorem p_sum {xs : List PV} {ns : List Int} (h : coOf s a = some (.lst xs)) (h2 : intsOf xs = some ns) (q : Q (.pv (.int ns.sum)) s) : Ev (primF .sum [a]) s Q := p_sumQ (itemsOf_co h) h2 q
theorem p_dictL {xs : List PV} {kvs : List (Key × PV)} (h : coOf s a = some (.lst xs)) (h2 : pairsKV xs = some kvs) (q : Q (.tmp (.dct (dictKV kvs))) s) : Ev (primF .dictL [a]) s Q :=
  .conv (d := dictLF a) rfl (.conv (d := M.bnd (M.opt (pairsKV xs)) (fun kvs => M.ret (.tmp (.dct (dictKV kvs))))) (by unfold dictLF; rw [h]) (.bnd (.opt h2 (.ret q))))
theorem p_lrg1 {j : Int} (h : rgOkB 0 j = true) (q : Q (.tmp (.lst (rangeL 0 (j - 0).toNat))) s) : Ev (primF .lrg1 [.pv (.int j)]) s Q :=
  .conv (d := lrgF 0 j) rfl (.bnd (.chk h (.ret q)))
theorem p_trg1 {j : Int} (h : rgOkB 0 j = true) (q : Q (.pv (.tup (rangeL 0 (j - 0).toNat))) s) : Ev (primF .trg1 [.pv (.int j)]) s Q :=
  .conv (d := trgF 0 j) rfl (.bnd (.chk h (.ret q)))
theorem p_lrg2 {i j : Int} (h : rgOkB i j = true) (q : Q (.tmp (.lst (rangeL i (j - i).toNat))) s) : Ev (primF .lrg2 [.pv (.int i), .pv (.int j)]) s Q :=
  .conv (d := lrgF i j) rfl (.bnd (.chk h (.ret q)))
theorem p_trg2 {i j : Int} (h : rgOkB i j = true) (q : Q (.pv (.tup (rangeL i (j - i).toNat))) s) : Ev (primF .trg2 [.pv (.int i), .pv (.int j)]) s Q :=
  .conv (d := trgF i j) rfl (.bnd (.chk h (.ret q)))
theorem p_pop {xs : List PV} {v : PV} {s' : DS} (h : liOf s a = some xs) (h2 : xs[xs.length - 1]? = some v) (h3 : putCO a (.lst xs.dropLast) s = .ok () s') (q : Q (.pv v) s') : Ev (primF .pop [a]) s Q :=
  .conv (d := popF a) rfl (.conv (d := M.bnd (putCO a (.lst xs.dropLast)) (fun _ => val v)) (by unfold popF; rw [h]; simp only [h2]) (.bnd (.eq h3 (.ret q))))
theorem p_append {xs : List PV} {v : PV} {s1 s' : DS} (h : liOf s a = some xs) (h2 : xs.length < sizeLine) (hb : box b s = .ok v s1) (h3 : putCO a (.lst (xs ++ [v])) s1 = .ok () s') (q : Q (.pv .non) s') : Ev (primF .append [a, b]) s Q :=
  .conv (d := appendF a b) rfl (.conv (d := M.bnd (M.chk (decide (xs.length < sizeLine))) (fun _ => M.bnd (box b) fun v => M.bnd (putCO a (.lst (xs ++ [v]))) fun _ => val .non)) (by unfold appendF; rw [h]) (.bnd (.chk (decide_eq_true h2) (.bnd (.eq hb (.bnd (.eq h3 (.ret q))))))))
theorem p_mkTup {es : List EV} {ps : List PV} {s1 : DS} (h : boxes es s = .ok ps s1) (h2 : ps.length ≤ sizeLine) (q : Q (.pv (.tup ps)) s1) : Ev (primF .mkTup es) s Q :=
  .conv (d := M.bnd (boxes es) fun vs => newT vs) rfl (.bnd (.eq h (.bnd (.chk (decide_eq_true h2) (.ret q)))))
theorem p_mkLst {es : List EV} {ps : List PV} {s1 : DS} (h : boxes es s = .ok ps s1) (h2 : ps.length ≤ sizeLine) (q : Q (.tmp (.lst ps)) s1) : Ev (primF .mkLst es) s Q :=
  .conv (d := M.bnd (boxes es) fun vs => newL vs) rfl (.bnd (.eq h (.bnd (.chk (decide_eq_true h2) (.ret q)))))
end
section
variable {Q : Fl → DS → Prop}
theorem s_nil (q : Q .nx s) : Ev (evSs F []) s Q := .eq (by simp only [evSs]) q
theorem s_cons {st : S} (h : Ev (evS F st) s fun f s1 => match f with | .nx => Ev (evSs F sts) s1 Q | f => Q f s1) : Ev (evSs F (st :: sts)) s Q :=
  by
  rw [u_ss]
  exact (.bnd (h.mono fun f s1 h => by
    cases f with
    | nx => exact h
    | bk => exact .ret h
    | ct => exact .ret h
    | rt v => exact .ret h))
theorem s_asg {i : Nat} (h : Ev (evE F e) s fun v s1 => Ev (toSV v) s1 fun x s2 => Ev (putSlot i x) s2 fun _ s3 => Ev (evSs F sts) s3 Q) : Ev (evSs F (.asg i e :: sts)) s Q :=
  s_cons (by rw [us_asg]; exact (.bnd (h.mono fun v s1 h => .bnd (h.mono fun x s2 h => .bnd (h.mono fun _ s3 h => .ret h)))))
theorem s_par {is : List Nat} (h : Ev (evs F es) s fun vs s1 => Ev (toSVs vs) s1 fun xs s2 => Ev (putSVs is xs) s2 fun _ s3 => Ev (evSs F sts) s3 Q) : Ev (evSs F (.par is es :: sts)) s Q :=
  s_cons (by rw [us_par]; exact (.bnd (h.mono fun v s1 h => .bnd (h.mono fun x s2 h => .bnd (h.mono fun _ s3 h => .ret h)))))
theorem s_unp {is : List Nat} (h : Ev (evE F e) s fun v s1 => ∃ xs, pvOf s1 v = some (.tup xs) ∧ xs.length = is.length ∧ Ev (putSlots is xs) s1 fun _ s3 => Ev (evSs F sts) s3 Q) : Ev (evSs F (.unp is e :: sts)) s Q :=
  s_cons (by rw [us_unp]; exact (.bnd (h.mono fun v s1 ⟨xs, e, hl, h⟩ => .conv (d := M.bnd (M.chk (decide (xs.length = is.length))) (fun _ => M.bnd (putSlots is xs) fun _ => M.ret .nx)) (by simp only [e]) (.bnd (.chk (decide_eq_true hl) (.bnd (h.mono fun _ s3 h => .ret h)))))))
theorem s_unpL {is : List Nat} (h : Ev (evE F e) s fun v s1 => ∃ xs, pvOf s1 v = none ∧ itemsOf s1 v = some (true, xs) ∧ xs.length = is.length ∧ Ev (putSlots is xs) s1 fun _ s3 => Ev (evSs F sts) s3 Q) : Ev (evSs F (.unp is e :: sts)) s Q :=
  s_cons (by rw [us_unp]; exact (.bnd (h.mono fun v s1 ⟨xs, e0, e, hl, h⟩ => .conv (d := M.bnd (M.chk (decide (xs.length = is.length))) (fun _ => M.bnd (putSlots is xs) fun _ => M.ret .nx)) (by simp only [e0, e]) (.bnd (.chk (decide_eq_true hl) (.bnd (h.mono fun _ s3 h => .ret h)))))))
theorem s_setKey {o i : E} (h : Ev (evE F e) s fun v s1 => Ev (evE F o) s1 fun ov s2 => Ev (evE F i) s2 fun iv s3 => Ev (setKeyF ov iv v) s3 fun _ s4 => Ev (evSs F sts) s4 Q) : Ev (evSs F (.setKey o i e :: sts)) s Q :=
  s_cons (by rw [us_setKey]; exact (.bnd (h.mono fun v s1 h => .bnd (h.mono fun x s2 h => .bnd (h.mono fun _ s3 h => .bnd (h.mono fun _ s4 h => .ret h))))))
theorem s_parK {i : Nat} {o k : E} (h : Ev (evs F es) s fun vs s1 => ∃ x y : Int, vs = [.pv (.int x), .pv (.int y)] ∧ Ev (putSlot i (.pv (.int x))) s1 fun _ s2 => Ev (evE F o) s2 fun ov s3 => Ev (evE F k) s3 fun kv s4 => Ev (setKeyF ov kv (.pv (.int y))) s4 fun _ s5 => Ev (evSs F sts) s5 Q) : Ev (evSs F (.parK i o k es :: sts)) s Q :=
  s_cons (by rw [us_parK]; exact (.bnd (h.mono fun vs s1 ⟨x, y, e, h⟩ => by
    subst e
    show Ev (M.bnd _ _) _ _
    exact .bnd (h.mono fun _ s2 h => .bnd (h.mono fun ov s3 h => .bnd (h.mono fun kv s4 h => .bnd (h.mono fun _ s5 h => .ret h)))))))
theorem s_setIx {o i : E} (h : Ev (evE F e) s fun v s1 => Ev (evE F o) s1 fun ov s2 => Ev (evE F i) s2 fun iv s3 => Ev (setIxF ov iv v) s3 fun _ s4 => Ev (evSs F sts) s4 Q) : Ev (evSs F (.setIx o i e :: sts)) s Q :=
  s_cons (by rw [us_setIx]; exact (.bnd (h.mono fun v s1 h => .bnd (h.mono fun x s2 h => .bnd (h.mono fun _ s3 h => .bnd (h.mono fun _ s4 h => .ret h))))))
theorem s_expr (h : Ev (evE F e) s fun _ s1 => Ev (evSs F sts) s1 Q) : Ev (evSs F (.expr e :: sts)) s Q := s_cons (by rw [us_expr]; exact (.bnd (h.mono fun v s1 h => .ret h)))
theorem s_ret (h : Ev (evE F e) s fun v s1 => Q (.rt v) s1) : Ev (evSs F (.ret e :: sts)) s Q := s_cons (by rw [us_ret]; exact (.bnd (h.mono fun v s1 h => .ret h)))
theorem s_retN (h : Q (.rt (.pv .non)) s) : Ev (evSs F (.retN :: sts)) s Q := s_cons (by rw [us_retN]; exact (.ret h))
theorem s_pass (h : Ev (evSs F sts) s Q) : Ev (evSs F (.pass :: sts)) s Q := s_cons (by rw [us_pass]; exact (.ret h))
theorem s_app {a : List S} (h : Ev (evSs F (a ++ sts)) s Q) : Ev (evSs F a) s fun f s1 => match f with | .nx => Ev (evSs F sts) s1 Q | f => Q f s1 := by
  induction a generalizing s with
  | nil => exact s_nil h
  | cons x a ih =>
    obtain ⟨f, s1, e1, q⟩ := h
    have e1 : (M.bnd (evS F x) fun f => match f with | .nx => evSs F (a ++ sts) | f => M.ret f) s = .ok f s1 := by
      have e2 : evSs F (x :: (a ++ sts)) s = .ok f s1 := e1
      simp only [evSs] at e2
      exact e2
    unfold M.bnd at e1
    refine s_cons ?_
    cases q2 : evS F x s with
    | no => rw [q2] at e1; cases e1
    | ex y s2 => rw [q2] at e1; cases e1
    | ok f2 s2 =>
      rw [q2] at e1
      refine .eq q2 ?_
      cases f2 with
      | nx => exact ih ⟨f, s1, e1, q⟩
      | bk => cases e1; exact q
      | ct => cases e1; exact q
      | rt v => cases e1; exact q
theorem s_ite {t : E} {a b : List S} (h : Ev (evT F t) s fun c s1 => (c = true → Ev (evSs F (a ++ sts)) s1 Q) ∧ (c = false → Ev (evSs F (b ++ sts)) s1 Q)) : Ev (evSs F (.ite t a b :: sts)) s Q :=
  s_cons (by rw [us_ite]; exact (.bnd (h.mono fun c s1 h => by
    cases c with
    | true => exact s_app (h.1 rfl)
    | false => exact s_app (h.2 rfl))))
def loopK (F : FE) (sts : List S) (Q : Fl → DS → Prop) (ls : List Lk) : Fl → DS → Prop := fun f s1 => match f with
  | .nx => Ev (evSs F sts) (unl ls s1) Q
  | f => Q f (unl ls s1)
theorem s_for {g : Tg} {k : ItK} {b : List S} (h : Ev (evs F es) s fun vs s1 => Ev (itemsK k vs) s1 fun xs s2 => Ev (lockL vs []) s2 fun ls s3 => Ev (forF g (evSs F b) xs) s3 (loopK F sts Q ls)) : Ev (evSs F (.forS g k es b :: sts)) s Q :=
  s_cons (by rw [us_for]; exact (.bnd (h.mono fun vs s1 h => .bnd (h.mono fun xs s2 h => .bnd (h.mono fun ls s3 h => by
    obtain ⟨f, s4, e, q⟩ := h
    exact .eq (a := f) (s' := unl ls s4) (by unfold withLk; rw [e]; rfl) (by cases f <;> exact q))))))
theorem s_wh {t : E} {b : List S} (h : Ev (whF (evT F t) (evSs F b) wFuel) s (loopK F sts Q [])) : Ev (evSs F (.wh t b :: sts)) s Q :=
  s_cons (by rw [us_wh]; exact (h.mono fun f s1 q => by cases f <;> exact q))
end
theorem for_inv {g : Tg} {b : M Fl} {xs : List PV} {K : Fl → DS → Prop} (I : Nat → DS → Prop) (h0 : I 0 s)
    (step : ∀ (i : Nat) (x : PV) (s : DS), xs[i]? = some x → I i s → Ev (assignG g x) s fun _ s1 => Ev b s1 fun f s2 => match f with | .nx => I (i + 1) s2 | .ct => I (i + 1) s2 | .bk => K .nx s2 | .rt v => K (.rt v) s2)
    (fin : ∀ s, I xs.length s → K .nx s) : Ev (forF g b xs) s K := by
  have key : ∀ (n i : Nat) (s : DS), n + i = xs.length → I i s → Ev (forF g b (xs.drop i)) s K := by
    intro n
    induction n with
    | zero =>
      intro i s hn hi
      have : i = xs.length := by omega
      subst this
      rw [List.drop_length]
      exact .eq rfl (fin _ hi)
    | succ n ih =>
      intro i s hn hi
      have hlt : i < xs.length := by omega
      rw [List.drop_eq_getElem_cons hlt]
      simp only [forF]
      refine .bnd ((step i _ s (List.getElem?_eq_getElem hlt) hi).mono fun _ s1 h => .bnd (h.mono fun f s2 h => ?_))
      cases f with
      | nx => exact ih (i + 1) s2 (by omega) h
      | ct => exact ih (i + 1) s2 (by omega) h
      | bk => exact .ret h
      | rt v => exact .ret h
  have := key xs.length 0 s (by omega) h0
  rwa [List.drop_zero] at this
theorem wh_inv {t : M Bool} {b : M Fl} {K : Fl → DS → Prop} {N : Nat} (I : Nat → DS → Prop) (n : Nat) (hn : n < N) (h0 : I n s)
    (step : ∀ (n : Nat) (s : DS), I n s → Ev t s fun c s1 => (c = false → K .nx s1) ∧ (c = true → Ev b s1 fun f s2 => match f with | .nx => ∃ m, m < n ∧ I m s2 | .ct => ∃ m, m < n ∧ I m s2 | .bk => K .nx s2 | .rt v => K (.rt v) s2)) : Ev (whF t b N) s K := by
  induction N generalizing n s with
  | zero => omega
  | succ N ih =>
    simp only [whF]
    refine .bnd ((step n s h0).mono fun c s1 h => ?_)
    cases c with
    | false => exact .ret (h.1 rfl)
    | true =>
      refine .bnd ((h.2 rfl).mono fun f s2 h => ?_)
      cases f with
      | nx => obtain ⟨m, hm, hi⟩ := h; exact ih m (by omega) hi
      | ct => obtain ⟨m, hm, hi⟩ := h; exact ih m (by omega) hi
      | bk => exact .ret h
      | rt v => exact .ret h
theorem comp_inv {g : Tg} {own : List Nat} {c : M Bool} {e : M EV} {xs : List PV} {K : List PV → DS → Prop} (I : Nat → List PV → DS → Prop) (hn : own.all (notLk s.env) = true) (h0 : I 0 [] (wip s own))
    (step : ∀ (i : Nat) (x : PV) (acc : List PV) (s : DS), xs[i]? = some x → I i acc s → Ev (assignG g x) s fun _ s1 => Ev c s1 fun b s2 => (b = true → Ev e s2 fun v s3 => Ev (box v) s3 fun p s4 => own.all (notLk s4.env) = true ∧ I (i + 1) (acc ++ [p]) (wip s4 own)) ∧ (b = false → own.all (notLk s2.env) = true ∧ I (i + 1) acc (wip s2 own)))
    (fin : ∀ acc s1, I xs.length acc s1 → K acc (rst s1 s own)) : Ev (withOwn own (compF own g c e xs)) s K := by
  have noEx_ev : ∀ {α : Type} {m : M α} {s : DS} {Q : α → DS → Prop}, Ev m s Q → Ev (noEx m) s Q := fun {α m s Q} ⟨a, s1, e, q⟩ => ⟨a, s1, by unfold noEx; rw [e], q⟩
  have wip_ev : ∀ {s : DS} {Q : Unit → DS → Prop}, own.all (notLk s.env) = true → Q () (wip s own) → Ev (wipeM own) s Q := fun {s Q} h q => ⟨(), wip s own, by unfold wipeM; rw [if_pos h]; rfl, q⟩
  have key : ∀ (n i : Nat) (acc : List PV) (s1 : DS), n + i = xs.length → I i acc s1 → Ev (compF own g c e (xs.drop i)) s1 fun r s2 => K (acc ++ r) (rst s2 s own) := by
    intro n
    induction n with
    | zero =>
      intro i acc s1 hn hi
      have : i = xs.length := by omega
      subst this
      rw [List.drop_length]
      exact .eq rfl (by rw [List.append_nil]; exact fin _ _ hi)
    | succ n ih =>
      intro i acc s1 hn hi
      have hlt : i < xs.length := by omega
      rw [List.drop_eq_getElem_cons hlt]
      simp only [compF]
      refine .bnd ((step i _ acc s1 (List.getElem?_eq_getElem hlt) hi).mono fun _ s1 h => .bnd (noEx_ev (h.mono fun b s2 h => ?_)))
      cases b with
      | true =>
        simp only [if_true]
        refine .bnd (noEx_ev ((h.1 rfl).mono fun v s3 h => .bnd (h.mono fun p s4 ⟨hk, h⟩ => .bnd (wip_ev hk (.bnd ((ih (i + 1) (acc ++ [p]) _ (by omega) h).mono fun r s5 h => .ret ?_))))))
        rw [List.append_assoc] at h
        exact h
      | false =>
        simp only [Bool.false_eq_true, if_false]
        exact .bnd (wip_ev (h.2 rfl).1 (ih (i + 1) acc _ (by omega) (h.2 rfl).2))
  obtain ⟨r, s2, e2, q⟩ := key xs.length 0 [] (wip s own) (by omega) h0
  rw [List.drop_zero] at e2
  refine ⟨r, rst s2 s own, ?_, by simpa using q⟩
  unfold withOwn
  have e3 : M.bnd (wipeM own) (fun _ => compF own g c e xs) s = .ok r s2 := by
    unfold M.bnd wipeM
    rw [if_pos hn]
    exact e2
  rw [e3]; rfl
theorem ev_call {f : Nat} {a : List SV} {v : EV} {h' : List DO} {Q : EV → DS → Prop} (h : F f a s.h = .ok v h') (q : Q v { s with h := h' }) : Ev (callM F f a) s Q := .eq (by unfold callM; rw [h]) q
theorem call_of {P : List FD} {k i : Nat} {d : FD} {args : List SV} {h h' : List DO} {v : EV} (hP : P[i]? = some d) (hl : args.length = d.np) (b : Ev (evSs (callF P k) d.body) ⟨startE d args, h⟩ fun f s' => finC h (.ok f s') = .ok v h') : callF P (k + 1) i args h = .ok v h' := by
  obtain ⟨f, s', e, q⟩ := b
  simp only [callF, hP]
  rw [if_pos hl, e]
  exact q
theorem finc_pv {h h' : List DO} {env : List (Option SV)} {p : PV} (hl : h'.length = h.length) : finC h (.ok (.rt (.pv p)) ⟨env, h'⟩) = .ok (.pv p) h' := by
  simp only [finC, outV, trunc]
  split
  · rw [← hl, List.take_length]
  · rfl
end
theorem mulOk_l {i j : Int} (h : i.natAbs < 2 ^ 64) : mulOk i j = true := by
  unfold mulOk; rw [decide_eq_true h]; rfl
theorem mulOk_r {i j : Int} (h : j.natAbs < 2 ^ 64) : mulOk i j = true := by
  unfold mulOk; rw [decide_eq_true h, Bool.or_true]; rfl
theorem divOk_of {j : Int} (h : 0 < j) (h2 : j < 2 ^ 8000) : divOk j = true := by
  unfold divOk
  rw [decide_eq_true h, Bool.true_and]
  refine decide_eq_true ?_
  have h3 : j.natAbs < 2 ^ 8000 := by omega
  have := (Nat.log2_lt (by omega : j.natAbs ≠ 0)).mpr h3
  omega
end DV
namespace DV
open PySem PySem.Spec PyProof.Rows L2
def Txt (n : Nat) (x : Str) : Prop := x.length ≤ n ∧ PyData.strOk x = true
theorem txt_app {n k : Nat} {x y : Str} (h : Txt n x) (g : Txt k y) : Txt (n + k) (x ++ y) := by
  refine ⟨by rw [Str.length_append]; exact Nat.add_le_add h.1 g.1, ?_⟩
  have h2 := h.2
  have g2 := g.2
  unfold PyData.strOk at h2 g2 ⊢
  rw [Str.cps_append, Array.all_append, h2, g2]; rfl
theorem txt_mono {n k : Nat} {x : Str} (h : Txt n x) (l : n ≤ k) : Txt k x := ⟨Nat.le_trans h.1 l, h.2⟩
theorem txt_of (z : String) : Txt z.length (Str.ofString z) := by
  refine ⟨by rw [PySem.ofString_length]; exact Nat.le_refl _, ?_⟩
  unfold PyData.strOk
  rw [Str.ofString_eq_toList]
  rw [Array.all_eq_true_iff_forall_mem]
  intro c hc
  simp only [List.mem_toArray, List.mem_map] at hc
  obtain ⟨d, _, rfl⟩ := hc
  have := d.valid
  rcases this with h | h
  · exact decide_eq_true (Nat.lt_trans h (by decide))
  · exact decide_eq_true h.2
mutual
def small : PyData → Bool
  | .none => true
  | .bool _ => true
  | .int i => decide (i.natAbs.log2 < 1920)
  | .list xs => smallAll xs
  | .tuple xs => smallAll xs
  | _ => false
def smallAll : List PyData → Bool
  | [] => true
  | x :: xs => small x && smallAll xs
end
mutual
def nodes : PyData → Nat
  | .list xs => 2 + nodesAll xs
  | .tuple xs => 2 + nodesAll xs
  | _ => 1
def nodesAll : List PyData → Nat
  | [] => 0
  | x :: xs => nodes x + nodesAll xs
end
def Txts (n : Nat) : List Str → Prop
  | [] => True
  | t :: ts => ∃ a b, a + 2 + b ≤ n ∧ Txt a t ∧ Txts b ts
theorem textFrom_ok : ∀ {ts : List Str} {k n m : Nat} {acc : Str}, Txt n acc → Txts m ts → Txt (n + m) (textFrom k acc ts)
  | [], k, n, m, acc, h, _ => txt_mono h (Nat.le_add_right _ _)
  | t :: ts, k, n, m, acc, h, ⟨a, b, l, h1, h2⟩ => by
    have s2 : Txt 2 (Str.ofString (if k > 0 then ", " else "")) := by
      split
      · exact txt_of ", "
      · exact txt_mono (txt_of "") (by decide)
    have g := textFrom_ok (k := k + 1) (txt_app (txt_app h s2) h1) h2
    exact txt_mono g (by omega)
theorem join_ok : ∀ {ts : List Str} {m : Nat}, Txts m ts → Txt m (Str.join ", " ts)
  | [], m, _ => txt_mono (txt_of "") (Nat.zero_le _)
  | [t], m, ⟨a, b, l, h1, _⟩ => txt_mono h1 (by omega)
  | t :: u :: ts, m, ⟨a, b, l, h1, h2⟩ => by
    have g := join_ok h2
    exact txt_mono (txt_app (txt_app h1 (txt_of ", ")) g) (by show a + 2 + b ≤ m; exact l)
theorem int_txt {i : Int} (h : i.natAbs.log2 < 1920) : Txt 1921 (Str.ofString (toString i)) := by
  refine txt_mono (txt_of _) (int_text_length_le (k := 1920) (by decide) h)
mutual
theorem shown_ok : ∀ d : PyData, small d = true → Txt (2000 * nodes d) d.shown
  | .none, _ => txt_mono (txt_of "None") (by simp only [nodes]; decide)
  | .bool b, _ => by
    simp only [PyData.shown, nodes]
    cases b
    · exact txt_mono (txt_of "False") (by decide)
    · exact txt_mono (txt_of "True") (by decide)
  | .int i, h => by
    simp only [PyData.shown, nodes]
    simp only [small, decide_eq_true_eq] at h
    exact txt_mono (int_txt h) (by omega)
  | .list xs, h => by
    simp only [PyData.shown, nodes, listText]
    simp only [small] at h
    have g := textFrom_ok (k := 0) (txt_of "[") (shownAll_ok xs h)
    exact txt_mono (txt_app g (txt_of "]")) (by show 1 + 2000 * nodesAll xs + 1 ≤ _; omega)
  | .tuple xs, h => by
    simp only [PyData.shown, nodes, tupleText]
    simp only [small] at h
    have g := join_ok (shownAll_ok xs h)
    have e : Txt 2 (Str.ofString (if ((PyData.shownAll xs).length == 1) = true then ",)" else ")")) := by
      split
      · exact txt_of ",)"
      · exact txt_mono (txt_of ")") (by decide)
    exact txt_mono (txt_app (txt_app (txt_of "(") g) e) (by show 1 + 2000 * nodesAll xs + 2 ≤ _; omega)
  | .str _, h => by simp only [small] at h; cases h
  | .dict _, h => by simp only [small] at h; cases h
theorem shownAll_ok : ∀ ds : List PyData, smallAll ds = true → Txts (2000 * nodesAll ds) (PyData.shownAll ds)
  | [], _ => trivial
  | d :: ds, h => by
    simp only [smallAll, Bool.and_eq_true] at h
    simp only [PyData.shownAll, nodesAll]
    have hn : 1 ≤ nodes d := by cases d <;> simp only [nodes] <;> omega
    exact ⟨2000 * nodes d - 2, 2000 * nodesAll ds, by omega, shown_ok' d h.1, shownAll_ok ds h.2⟩
theorem shown_ok' : ∀ d : PyData, small d = true → Txt (2000 * nodes d - 2) d.shown
  | .none, _ => txt_mono (txt_of "None") (by simp only [nodes]; decide)
  | .bool b, _ => by
    simp only [PyData.shown, nodes]
    cases b
    · exact txt_mono (txt_of "False") (by decide)
    · exact txt_mono (txt_of "True") (by decide)
  | .int i, h => by
    simp only [PyData.shown, nodes]
    simp only [small, decide_eq_true_eq] at h
    exact txt_mono (int_txt h) (by omega)
  | .list xs, h => by
    simp only [PyData.shown, nodes, listText]
    simp only [small] at h
    have g := textFrom_ok (k := 0) (txt_of "[") (shownAll_ok xs h)
    exact txt_mono (txt_app g (txt_of "]")) (by show 1 + 2000 * nodesAll xs + 1 ≤ _; omega)
  | .tuple xs, h => by
    simp only [PyData.shown, nodes, tupleText]
    simp only [small] at h
    have g := join_ok (shownAll_ok xs h)
    have e : Txt 2 (Str.ofString (if ((PyData.shownAll xs).length == 1) = true then ",)" else ")")) := by
      split
      · exact txt_of ",)"
      · exact txt_mono (txt_of ")") (by decide)
    exact txt_mono (txt_app (txt_app (txt_of "(") g) e) (by show 1 + 2000 * nodesAll xs + 2 ≤ _; omega)
  | .str _, h => by simp only [small] at h; cases h
  | .dict _, h => by simp only [small] at h; cases h
end
mutual
theorem small_show : ∀ d : PyData, small d = true → d.showable = true ∧ d.hasDict = false
  | .none, _ => ⟨by simp only [PyData.showable], by simp only [PyData.hasDict]⟩
  | .bool _, _ => ⟨by simp only [PyData.showable], by simp only [PyData.hasDict]⟩
  | .int i, h => ⟨by simp only [PyData.showable]; simpa only [small] using h, by simp only [PyData.hasDict]⟩
  | .list xs, h => by simp only [small] at h; simp only [PyData.showable, PyData.hasDict]; exact smallAll_show xs h
  | .tuple xs, h => by simp only [small] at h; simp only [PyData.showable, PyData.hasDict]; exact smallAll_show xs h
  | .str _, h => by simp only [small] at h; cases h
  | .dict _, h => by simp only [small] at h; cases h
theorem smallAll_show : ∀ ds : List PyData, smallAll ds = true → PyData.showableAll ds = true ∧ PyData.hasDictAll ds = false
  | [], _ => ⟨by simp only [PyData.showableAll], by simp only [PyData.hasDictAll]⟩
  | d :: ds, h => by
    simp only [smallAll, Bool.and_eq_true] at h
    obtain ⟨a, b⟩ := small_show d h.1
    obtain ⟨c, e⟩ := smallAll_show ds h.2
    simp only [PyData.showableAll, PyData.hasDictAll, a, b, c, e]
    exact ⟨rfl, rfl⟩
end
section
variable {s : DS} {a b : EV} {Q : EV → DS → Prop}
theorem p_repr {d : PyData} (h : datOf s a = some d) (hs : small d = true) (hn : nodes d ≤ 5000) (hd : d.depth ≤ 64) (q : Q (.pv (.str d.shown)) s) : Ev (primF .repr [a]) s Q := by
  obtain ⟨h1, h2⟩ := small_show d hs
  have h3 := (shown_ok d hs).1
  have h4 : d.shown.length ≤ sizeLine := by have : sizeLine = 16777216 := rfl; omega
  exact .conv (d := reprF a) rfl (.conv (d := M.bnd (M.chk (d.showable && !d.hasDict && decide (d.shown.length ≤ sizeLine) && decide (d.depth ≤ 64))) (fun _ => val (.str d.shown))) (by unfold reprF; rw [h])
    (.bnd (.chk (by rw [h1, h2, decide_eq_true h4, decide_eq_true hd]; rfl) (.ret q))))
theorem shaped_shown {d : PyData} (hs : small d = true) : SeqAt.shaped (.str d.shown) = true := by
  unfold SeqAt.shaped
  have := (shown_ok d hs).2
  simp only [PyData.canLay0, this, PyData.depth]
  rfl
theorem eqv_str {x y : Str} : PyData.eqv (.str x) (.str y) = decide (x = y) := by
  unfold PyData.eqv
  first | rfl | (by_cases h : x = y <;> simp [h])
theorem p_neSame {d e : PyData} (hs : small d = true) (h : e = d) (q : Q (.pv (.bl false)) s) : Ev (primF .ne [.pv (.str d.shown), .pv (.str e.shown)]) s Q := by
  subst h
  refine .conv (d := M.bnd (M.chk (SeqAt.shaped (.str e.shown) && SeqAt.shaped (.str e.shown))) (fun _ => vbl (!PyData.eqv (.str e.shown) (.str e.shown)))) rfl (.bnd (.chk (by rw [shaped_shown hs]; rfl) (.ret ?_)))
  rw [eqv_str, decide_eq_true rfl]; exact q
theorem p_eqSame {d e : PyData} (hs : small d = true) (h : e = d) (q : Q (.pv (.bl true)) s) : Ev (primF .eq [.pv (.str d.shown), .pv (.str e.shown)]) s Q := by
  subst h
  refine .conv (d := M.bnd (M.chk (SeqAt.shaped (.str e.shown) && SeqAt.shaped (.str e.shown))) (fun _ => vbl (PyData.eqv (.str e.shown) (.str e.shown)))) rfl (.bnd (.chk (by rw [shaped_shown hs]; rfl) (.ret ?_)))
  rw [eqv_str, decide_eq_true rfl]; exact q
end
end DV
namespace DV
open PySem PySem.Spec PyProof.Rows L2
section
variable {F : FE} {env : List (Option SV)} {h : List DO} {s : DS}
theorem q_toP {v : PV} {Q : SV → DS → Prop} (q : Q (.pv v) s) : Ev (toSV (.pv v)) s Q := .eq rfl q
theorem q_toT {c : CO} {Q : SV → DS → Prop} (q : Q (.own c) s) : Ev (toSV (.tmp c)) s Q := .eq rfl q
theorem q_toR {i : Nat} {v : PV} {Q : SV → DS → Prop} (e : env[i]? = some (some (.pv v))) (q : Q (.pv v) ⟨env, h⟩) : Ev (toSV (.bw i)) ⟨env, h⟩ Q :=
  .conv (d := M.bnd (box (.bw i)) fun v => M.ret (.pv v)) rfl (.bnd (.eq (a := v) (s' := ⟨env, h⟩) (by simp only [box, e]) (.ret q)))
theorem q_toO {i : Nat} {c : CO} {Q : SV → DS → Prop} (e : env[i]? = some (some (.own c))) (q : Q (.pv (.ref h.length)) ⟨env.set i (some (.pv (.ref h.length))), h ++ [.rw c]⟩) : Ev (toSV (.bw i)) ⟨env, h⟩ Q :=
  .conv (d := M.bnd (box (.bw i)) fun v => M.ret (.pv v)) rfl (.bnd (.eq (a := .ref h.length) (s' := ⟨env.set i (some (.pv (.ref h.length))), h ++ [.rw c]⟩) (by simp only [box, e]) (.ret q)))
theorem q_nil {Q : List SV → DS → Prop} (q : Q [] s) : Ev (toSVs []) s Q := .eq rfl q
theorem q_cons {e : EV} {es : List EV} {Q : List SV → DS → Prop} (q : Ev (toSV e) s fun v s1 => Ev (toSVs es) s1 fun vs s2 => Q (v :: vs) s2) : Ev (toSVs (e :: es)) s Q := .bnd (q.mono fun v s1 q => .bnd (q.mono fun vs s2 q => .ret q))
theorem q_put {i : Nat} {x : SV} {y : Option SV} {Q : Unit → DS → Prop} (e : env[i]? = some y) (ny : ∀ c, y ≠ some (.lk c)) (q : Q () ⟨env.set i (some x), h⟩) : Ev (putSlot i x) ⟨env, h⟩ Q := by
  refine .eq (a := ()) (s' := ⟨env.set i (some x), h⟩) ?_ q
  unfold putSlot
  cases y with
  | none => simp only [e]
  | some z =>
    cases z with
    | lk c => exact (ny c rfl).elim
    | pv v => simp only [e]
    | own c => simp only [e]
theorem q_pnil {Q : Unit → DS → Prop} (q : Q () s) : Ev (putSVs [] []) s Q := .eq rfl q
theorem q_pcons {i : Nat} {is : List Nat} {x : SV} {xs : List SV} {Q : Unit → DS → Prop} (q : Ev (putSlot i x) s fun _ s1 => Ev (putSVs is xs) s1 Q) : Ev (putSVs (i :: is) (x :: xs)) s Q := .bnd q
theorem q_snil {Q : Unit → DS → Prop} (q : Q () s) : Ev (putSlots [] []) s Q := .eq rfl q
theorem q_scons {i : Nat} {is : List Nat} {x : PV} {xs : List PV} {Q : Unit → DS → Prop} (q : Ev (putSlot i (.pv x)) s fun _ s1 => Ev (putSlots is xs) s1 Q) : Ev (putSlots (i :: is) (x :: xs)) s Q := .bnd q
theorem q_one {i : Nat} {x : PV} {Q : Unit → DS → Prop} (q : Ev (putSlot i (.pv x)) s Q) : Ev (assignG (.one i) x) s Q := q
theorem q_many {is : List Nat} {xs : List PV} {Q : Unit → DS → Prop} (hl : xs.length = is.length) (q : Ev (putSlots is xs) s Q) : Ev (assignG (.many is) (.tup xs)) s Q := .bnd (.chk (decide_eq_true hl) q)
theorem q_bnil {Q : List PV → DS → Prop} (q : Q [] s) : Ev (boxes []) s Q := .eq rfl q
theorem q_bcons {e : EV} {es : List EV} {Q : List PV → DS → Prop} (q : Ev (box e) s fun v s1 => Ev (boxes es) s1 fun vs s2 => Q (v :: vs) s2) : Ev (boxes (e :: es)) s Q := .bnd (q.mono fun v s1 q => .bnd (q.mono fun vs s2 q => .ret q))
theorem q_boxP {v : PV} {Q : PV → DS → Prop} (q : Q v s) : Ev (box (.pv v)) s Q := .eq rfl q
theorem q_boxT {c : CO} {Q : PV → DS → Prop} (q : Q (.ref h.length) ⟨env, h ++ [.rw c]⟩) : Ev (box (.tmp c)) ⟨env, h⟩ Q := .eq rfl q
theorem q_boxR {i : Nat} {v : PV} {Q : PV → DS → Prop} (e : env[i]? = some (some (.pv v))) (q : Q v ⟨env, h⟩) : Ev (box (.bw i)) ⟨env, h⟩ Q := .eq (a := v) (s' := ⟨env, h⟩) (by simp only [box, e]) q
theorem q_boxO {i : Nat} {c : CO} {Q : PV → DS → Prop} (e : env[i]? = some (some (.own c))) (q : Q (.ref h.length) ⟨env.set i (some (.pv (.ref h.length))), h ++ [.rw c]⟩) : Ev (box (.bw i)) ⟨env, h⟩ Q := .eq (a := .ref h.length) (s' := ⟨env.set i (some (.pv (.ref h.length))), h ++ [.rw c]⟩) (by simp only [box, e]) q
theorem p_mkTup' {es : List EV} {Q : EV → DS → Prop} (q : Ev (boxes es) s fun ps s1 => ps.length ≤ sizeLine ∧ Q (.pv (.tup ps)) s1) : Ev (primF .mkTup es) s Q :=
  .conv (d := M.bnd (boxes es) fun vs => newT vs) rfl (.bnd (q.mono fun ps s1 ⟨hl, q⟩ => .bnd (.chk (decide_eq_true hl) (.ret q))))
theorem p_mkLst' {es : List EV} {Q : EV → DS → Prop} (q : Ev (boxes es) s fun ps s1 => ps.length ≤ sizeLine ∧ Q (.tmp (.lst ps)) s1) : Ev (primF .mkLst es) s Q :=
  .conv (d := M.bnd (boxes es) fun vs => newL vs) rfl (.bnd (q.mono fun ps s1 ⟨hl, q⟩ => .bnd (.chk (decide_eq_true hl) (.ret q))))
theorem i_rng1 {j : Int} {Q : List PV → DS → Prop} (hj : rngOk j = true) (q : Q (rangeL 0 j.toNat) s) : Ev (itemsK .rng1 [.pv (.int j)]) s Q := .conv (d := M.bnd (M.chk (rngOk j)) (fun _ => M.ret (rangeL 0 j.toNat))) rfl (.bnd (.chk hj (.ret q)))
theorem i_rng2 {i j : Int} {Q : List PV → DS → Prop} (hj : (rngOk i && rngOk j) = true) (q : Q (rangeL i (j - i).toNat) s) : Ev (itemsK .rng2 [.pv (.int i), .pv (.int j)]) s Q := .conv (d := M.bnd (M.chk (rngOk i && rngOk j)) (fun _ => M.ret (rangeL i (j - i).toNat))) rfl (.bnd (.chk hj (.ret q)))
theorem i_seq {v : EV} {b : Bool} {xs : List PV} {Q : List PV → DS → Prop} (e : itemsOf s v = some (b, xs)) (q : Q xs s) : Ev (itemsK .seq [v]) s Q := .conv (d := seqItems v) rfl (.eq (a := xs) (s' := s) (by unfold seqItems; rw [e]) q)
theorem l_nil {acc : List Lk} {Q : List Lk → DS → Prop} (q : Q acc s) : Ev (lockL [] acc) s Q := .eq rfl q
theorem l_int {i : Int} {es : List EV} {acc : List Lk} {Q : List Lk → DS → Prop} (q : Ev (lockL es (.none :: acc)) s Q) : Ev (lockL (.pv (.int i) :: es) acc) s Q := .bnd (.eq rfl q)
theorem l_tmp {c : CO} {es : List EV} {acc : List Lk} {Q : List Lk → DS → Prop} (q : Ev (lockL es (.none :: acc)) s Q) : Ev (lockL (.tmp c :: es) acc) s Q := .bnd (.eq rfl q)
theorem l_tup {xs : List PV} {es : List EV} {acc : List Lk} {Q : List Lk → DS → Prop} (q : Ev (lockL es (.none :: acc)) s Q) : Ev (lockL (.pv (.tup xs) :: es) acc) s Q := .bnd (.eq rfl q)
end
theorem k_nx {F : FE} {sts : List S} {Q : Fl → DS → Prop} {ls : List Lk} {s s' : DS} (hu : unl ls s = s') (h : Ev (evSs F sts) s' Q) : loopK F sts Q ls .nx s := by subst hu; exact h
theorem k_rt {F : FE} {sts : List S} {Q : Fl → DS → Prop} {ls : List Lk} {s s' : DS} {v : EV} (hu : unl ls s = s') (h : Q (.rt v) s') : loopK F sts Q ls (.rt v) s := by subst hu; exact h
theorem rngOk_of {i : Int} (h : -(2 ^ 62) ≤ i) (h2 : i < 2 ^ 62) : rngOk i = true := by
  unfold rngOk; rw [decide_eq_true h, decide_eq_true h2]; rfl
end DV
namespace DV
open PySem PySem.Spec PyProof.Rows L2
theorem look_hd {k : Key} {v : PV} {r : List (Key × PV)} : look ((k, v) :: r) k = some v := by
  unfold look; simp
theorem look_tl {k k' : Key} {v : PV} {r : List (Key × PV)} (h : k' ≠ k) : look ((k', v) :: r) k = look r k := by
  unfold look; simp [h]
section
variable {s : DS} {a b o i : EV}
theorem q_setKey {kvs : List (Key × PV)} {k : Key} {v : PV} {e : EV} {s1 s2 : DS} {Q : Unit → DS → Prop} (h1 : coOf s o = some (.dct kvs)) (h2 : (pvOf s i).bind keyOf = some k) (h3 : kvs.length < sizeLine) (h4 : box e s = .ok v s1) (h5 : putCO o (.dct (put kvs k v)) s1 = .ok () s2) (q : Q () s2) : Ev (setKeyF o i e) s Q :=
  .conv (d := M.bnd (M.chk (decide (kvs.length < sizeLine))) (fun _ => M.bnd (box e) fun v => putCO o (.dct (put kvs k v)))) (by unfold setKeyF; rw [h1, h2]) (.bnd (.chk (decide_eq_true h3) (.bnd (.eq h4 (.eq h5 q)))))
theorem q_setIx {xs : List PV} {k : Int} {j : Nat} {v : PV} {e : EV} {s1 s2 : DS} {Q : Unit → DS → Prop} (h1 : liOf s o = some xs) (h2 : pvOf s i = some (.int k)) (h3 : L2.ixN xs.length k = some j) (h4 : box e s = .ok v s1) (h5 : putCO o (.lst (xs.set j v)) s1 = .ok () s2) (q : Q () s2) : Ev (setIxF o i e) s Q :=
  .conv (d := M.bnd (M.opt (L2.ixN xs.length k)) (fun j => M.bnd (box e) fun p => putCO o (.lst (xs.set j p)))) (by unfold setIxF; rw [h1, h2]) (.bnd (.opt h3 (.bnd (.eq h4 (.eq h5 q)))))
theorem p_mkDct' {ks : List Key} {es : List EV} {Q : EV → DS → Prop} (q : Ev (boxes es) s fun ps s1 => (ks.length = ps.length ∧ ps.length ≤ 15) ∧ Q (.tmp (.dct ((ks.zip ps).foldl (fun acc kv => put acc kv.1 kv.2) []))) s1) : Ev (primF (.mkDct ks) es) s Q :=
  .conv (d := M.bnd (boxes es) fun vs => M.bnd (M.chk (decide (ks.length = vs.length) && decide (vs.length ≤ 15))) fun _ => M.ret (.tmp (.dct ((ks.zip vs).foldl (fun acc kv => put acc kv.1 kv.2) [])))) rfl
    (.bnd (q.mono fun ps s1 ⟨⟨h1, h2⟩, q⟩ => .bnd (.chk (by rw [decide_eq_true h1, decide_eq_true h2]; rfl) (.ret q))))
theorem mapM_int (h : List DO) (n : Nat) : ∀ ns : List Int, (ns.map PV.int).mapM (datF h (n + 1)) = some (ns.map PyData.int)
  | [] => rfl
  | x :: ns => by
    rw [List.map_cons, List.mapM_cons, mapM_int h n ns]; rfl
theorem depth_int : ∀ ns : List Int, PyData.depthAll (ns.map PyData.int) ≤ 1
  | [] => by simp [PyData.depthAll]
  | x :: ns => by
    have := depth_int ns
    simp only [List.map_cons, PyData.depthAll, PyData.depth]
    omega
theorem lay_int : ∀ ns : List Int, PyData.canLayAll0 (ns.map PyData.int) = true
  | [] => by simp [PyData.canLayAll0]
  | x :: ns => by
    have := lay_int ns
    simp only [List.map_cons, PyData.canLayAll0, PyData.canLay0, this]; rfl
theorem shaped_ints (ns : List Int) : SeqAt.shaped (.list (ns.map PyData.int)) = true := by
  unfold SeqAt.shaped
  have := depth_int ns
  simp only [PyData.canLay0, lay_int, PyData.depth, Bool.true_and]
  exact decide_eq_true (by omega)
theorem eqv_nil (ds : List PyData) : PyData.eqv (.list ds) (.list []) = ds.isEmpty := by
  cases ds <;> simp [PyData.eqv, PyData.eqvAll]
theorem p_neNil {gs : List Int} {Q : EV → DS → Prop} (h1 : datOf s a = some (.list (gs.map PyData.int))) (h2 : datOf s b = some (.list [])) (q : Q (.pv (.bl (!gs.isEmpty))) s) : Ev (primF .ne [a, b]) s Q := by
  refine .conv (d := M.bnd (M.chk (SeqAt.shaped (.list (gs.map PyData.int)) && SeqAt.shaped (.list []))) (fun _ => vbl (!PyData.eqv (.list (gs.map PyData.int)) (.list [])))) (by show neF a b s = _; unfold neF; rw [h1, h2]) (.bnd (.chk ?_ (.ret ?_)))
  · show (SeqAt.shaped (.list (gs.map PyData.int)) && SeqAt.shaped (.list (([] : List Int).map PyData.int))) = true
    rw [shaped_ints, shaped_ints]; rfl
  · rw [eqv_nil]
    cases gs <;> exact q
theorem und_ints (n : Nat) : ∀ ns : List Int, PV.undL n (ns.map PV.int) = true
  | [] => by simp only [List.map_nil, PV.undL]
  | x :: ns => by simp only [List.map_cons, PV.undL, PV.und, und_ints n ns]; rfl
theorem put_ref {env : List (Option SV)} {h : List DO} {n : Nat} {c c0 : CO} (e : h[n]? = some (.rw c0)) (u : c.und n = true) : putCO (.pv (.ref n)) c ⟨env, h⟩ = .ok () ⟨env, h.set n (.rw c)⟩ := by
  unfold putCO
  simp only [e]
  rw [if_pos u]
theorem k_ok {p : Prim} {v : EV} {Q : Unit → DS → Prop} (h : kindM p v s = .ok () s) (q : Q () s) : Ev (kindM p v) s Q := .eq h q
end
end DV
namespace DV
open PySem PySem.Spec PyProof.Rows L2
theorem divOk_s {j : Int} (h : 0 < j) (h2 : j < 2 ^ 64) : divOk j = true := by
  refine divOk_of h (Int.lt_of_lt_of_le h2 ?_)
  exact Int.ofNat_le.mpr (Nat.pow_le_pow_right (by decide) (by decide) : 2 ^ 64 ≤ 2 ^ 8000)
theorem ints_map : ∀ ns : List Int, intsOf (ns.map PV.int) = some ns
  | [] => rfl
  | n :: ns => by simp only [List.map_cons, intsOf, ints_map ns]; rfl
theorem rangeL_at {n i : Nat} {lo : Int} {p : PV} (h : (rangeL lo n)[i]? = some p) : i < n ∧ p = .int (lo + i) := rangeL_get n lo i p h
theorem e_chkC {F : FE} {i : Int} {s : DS} {Q : EV → DS → Prop} (q : Q (.pv (.int i)) s) : Ev (evE F (.chkI (.con (.int i)))) s Q := e_chkI (e_con ⟨i, rfl, q⟩)
theorem put3b {a b c : DV.Key} {v w u z : PV} (h1 : a ≠ b) (h3 : b ≠ c) : put [(a, v), (b, w), (c, u)] b z = [(a, v), (b, z), (c, u)] := by
  unfold put
  simp [h1, h3.symm]
theorem put3c {a b c : DV.Key} {v w u z : PV} (h1 : a ≠ c) (h3 : b ≠ c) : put [(a, v), (b, w), (c, u)] c z = [(a, v), (b, w), (c, z)] := by
  unfold put
  simp [h1, h3]
theorem mulOk_mod {y m z : Int} (h : 0 < m) (h2 : m < 2 ^ 64) : mulOk (y % m) z = true := by
  have := Int.emod_nonneg y (by omega : m ≠ 0)
  have := Int.emod_lt_of_pos y h
  exact mulOk_l (by omega)
theorem cut63 {xs : List PV} (h : xs.length ≤ 63) : DV.cut xs none (some 63) = xs := by
  unfold DV.cut
  rw [HT.sIx_none, show HT.sIx xs.length xs.length (some 63) = min 63 xs.length from HT.sIx_nat xs.length xs.length 63]
  rw [List.drop_zero, Nat.sub_zero, Nat.min_eq_right h, List.take_length]
theorem p_cut63 {s : DS} {a b : EV} {xs : List PV} {Q : EV → DS → Prop} (h : itemsOf s a = some (true, xs)) (hb : optI s b = some 63) (hl : xs.length ≤ 63) (q : Q (.tmp (.lst xs)) s) : Ev (primF (.slice false true) [a, b]) s Q :=
  .conv (d := cutF a none (some 63)) (by show sliceFTF a b s = _; unfold sliceFTF; rw [hb]) (.eq (a := .tmp (.lst xs)) (s' := s) (by unfold cutF; rw [h]; simp only [cut63 hl]) q)
theorem mk3 {a b c : DV.Key} {v w u : PV} (h1 : a ≠ b) (h2 : a ≠ c) (h3 : b ≠ c) : (([a, b, c].zip [v, w, u]).foldl (fun acc kv => put acc kv.1 kv.2) []) = [(a, v), (b, w), (c, u)] := by
  simp [put, h1, h2, h3]
theorem atI_some {xs : List PV} {r : Int} (h0 : 0 ≤ r) (h1 : r < xs.length) : ∃ v, L2.atI xs r = some v ∧ v ∈ xs := by
  obtain ⟨n, rfl⟩ := Int.eq_ofNat_of_zero_le h0
  have hn : n < xs.length := by omega
  exact ⟨xs[n], L2.atI_nat (List.getElem?_eq_getElem hn), List.getElem_mem hn⟩
abbrev NL (o : Option SV) : Prop := ∀ c, o ≠ some (.lk c)
theorem p_addL {s : DS} {a b : EV} {xs ys : List PV} {Q : EV → DS → Prop} (h0 : pvOf s a = none) (h1 : liOf s a = some xs) (h2 : liOf s b = some ys) (hl : (xs ++ ys).length ≤ sizeLine) (q : Q (.tmp (.lst (xs ++ ys))) s) : Ev (primF .add [a, b]) s Q :=
  .conv (d := newL (xs ++ ys)) (by show addF a b s = _; simp only [addF, h0, h1, h2]) (.bnd (.chk (decide_eq_true hl) (.ret q)))
theorem p_repL {s : DS} {a : EV} {k : Int} {xs : List PV} {Q : EV → DS → Prop} (h1 : liOf s a = some xs) (hk : (decide (-(2 ^ 63) ≤ k) && decide (k < 2 ^ 63)) = true) (hl : (List.replicate k.toNat xs).flatten.length ≤ sizeLine) (q : Q (.tmp (.lst (List.replicate k.toNat xs).flatten)) s) : Ev (primF .repL [a, .pv (.int k)]) s Q :=
  .conv (d := M.bnd (M.chk (decide (-(2 ^ 63) ≤ k) && decide (k < 2 ^ 63))) (fun _ => newL (List.replicate k.toNat xs).flatten)) (by show repLF a _ s = _; simp only [repLF, h1]; rfl) (.bnd (.chk hk (.bnd (.chk (decide_eq_true hl) (.ret q)))))
theorem int_small {i : Int} (h : -(2 ^ 200) < i) (h2 : i < 2 ^ 200) : small (.int i) = true := by
  simp only [small]
  refine decide_eq_true ?_
  by_cases hz : i.natAbs = 0
  · rw [hz]; decide
  · have h3 : i.natAbs < 2 ^ 200 := by omega
    have := (Nat.log2_lt hz).mpr h3
    omega
theorem dat_ref {h : List DO} {n k : Nat} {ys : List PV} (e : h[n]? = some (.rw (.lst ys))) : datF h (k + 1) (.ref n) = (ys.mapM (datF h k)).map .list := by
  simp only [datF, e]; rfl
theorem eqvAll_refl : ∀ ns : List Int, PyData.eqvAll (ns.map PyData.int) (ns.map PyData.int) = true
  | [] => by simp [PyData.eqvAll]
  | n :: ns => by
    simp only [List.map_cons, PyData.eqvAll]
    rw [eqv_int, eqvAll_refl ns, decide_eq_true rfl]; rfl
theorem p_eqInts {s : DS} {a b : EV} {as bs : List Int} {Q : EV → DS → Prop} (h1 : datOf s a = some (.list (as.map PyData.int))) (h2 : datOf s b = some (.list (bs.map PyData.int))) (h : as = bs) (q : Q (.pv (.bl true)) s) : Ev (primF .eq [a, b]) s Q := by
  subst h
  refine .conv (d := M.bnd (M.chk (SeqAt.shaped (.list (as.map PyData.int)) && SeqAt.shaped (.list (as.map PyData.int)))) (fun _ => vbl (PyData.eqv (.list (as.map PyData.int)) (.list (as.map PyData.int))))) (by show eqF a b s = _; unfold eqF; rw [h1, h2]) (.bnd (.chk (by rw [shaped_ints]; rfl) (.ret ?_)))
  have e : PyData.eqv (.list (as.map PyData.int)) (.list (as.map PyData.int)) = true := by
    have := eqvAll_refl as
    unfold PyData.eqv
    simpa [PyData.eqv] using this
  rw [e]; exact q
end DV
namespace DV
open PySem PySem.Spec PyProof.Rows L2
namespace Deck
abbrev kG : DV.Key := .inr (Str.ofString "great")
abbrev kM : DV.Key := .inr (Str.ofString "mixed")
abbrev kT : DV.Key := .inr (Str.ofString "turns")
def dk (x t : Int) : CO := .dct [(kG, .ref 1), (kM, .int x), (kT, .int t)]
def D (ns gs : List Int) (x t : Int) (rest : List DO) : List DO := .fz (ns.map PV.int) :: .rw (.lst (gs.map PV.int)) :: .rw (dk x t) :: rest
theorem ne1 : kG ≠ kM := by decide +kernel
theorem ne2 : kG ≠ kT := by decide +kernel
theorem ne3 : kM ≠ kT := by decide +kernel
theorem lG {v w u : PV} : look [(kG, v), (kM, w), (kT, u)] kG = some v := look_hd
theorem lM {v w u : PV} : look [(kG, v), (kM, w), (kT, u)] kM = some w := (look_tl ne1).trans look_hd
theorem lT {v w u : PV} : look [(kG, v), (kM, w), (kT, u)] kT = some u := (look_tl ne2).trans ((look_tl ne3).trans look_hd)
theorem pM {v w u z : PV} : put [(kG, v), (kM, w), (kT, u)] kM z = [(kG, v), (kM, z), (kT, u)] := put3b ne1 ne3
theorem pT {v w u z : PV} : put [(kG, v), (kM, w), (kT, u)] kT z = [(kG, v), (kM, w), (kT, z)] := put3c ne2 ne3
def drawFD : FD := ⟨2, 4, [.ite (.prim .lt [.var 1, .con (.int 2)]) [.ret (.con (.int 0))] [], .ite (.prim .ne [.prim .idxD [.var 0, .con (.str (Str.ofString "great"))], .prim .mkLst []]) [.asg 2 (.meth .pop (.prim .idxD [.var 0, .con (.str (Str.ofString "great"))]) []), .ite (.prim .ge [.var 2, .var 1]) [.expr (.meth .append (.prim .idxD [.var 0, .con (.str (Str.ofString "great"))]) [.prim .fdiv [.var 2, .var 1]])] [], .ret (.prim .mod [.prim .int [.var 2], .var 1])] [], .setKey (.var 0) (.con (.str (Str.ofString "turns"))) (.prim .add [.prim .idxD [.var 0, .con (.str (Str.ofString "turns"))], .con (.int 1)]), .asg 3 (.prim .mod [.prim .int [.prim .add [.prim .idxD [.var 0, .con (.str (Str.ofString "mixed"))], .prim .mul [.con (.int 2654435761), .prim .idxD [.var 0, .con (.str (Str.ofString "turns"))]]]], .con (.int 4294967279)]), .asg 3 (.prim .mod [.prim .int [.prim .add [.prim .add [.prim .mul [.var 3, .var 3], .prim .mul [.con (.int 40692), .prim .idxD [.var 0, .con (.str (Str.ofString "turns"))]]], .con (.int 23)]], .con (.int 4294967231)]), .asg 3 (.prim .mod [.prim .int [.prim .add [.prim .mul [.var 3, .var 3], .prim .mul [.prim .idxD [.var 0, .con (.str (Str.ofString "mixed"))], .con (.int 11)]]], .con (.int 4294967197)]), .ret (.prim .mod [.prim .int [.prim .fdiv [.var 3, .con (.int 64)]], .var 1])]⟩
def deckFD (c0 : Int) : FD := ⟨1, 4, [.asg 1 (.prim (.mkDct [.inr (Str.ofString "great"), .inr (Str.ofString "mixed"), .inr (Str.ofString "turns")]) [.prim .mkLst [], .prim .add [.con (.int c0), .prim .len [.prim (.slice false true) [.var 0, .chkI (.con (.int 63))]]], .con (.int 0)]), .forS (.one 2) .seq [.prim (.slice false true) [.var 0, .chkI (.con (.int 63))]] [.asg 3 (.prim .add [.prim .mul [.con (.int 2), .prim .abs [.var 2]], .prim .int [.prim .lt [.var 2, .con (.int 0)]]]), .ite (.prim .ge [.var 3, .prim .pow [.con (.int 10), .con (.int 16)]]) [.expr (.meth .append (.prim .idxD [.var 1, .con (.str (Str.ofString "great"))]) [.var 3])] [], .setKey (.var 1) (.con (.str (Str.ofString "mixed"))) (.prim .mod [.prim .int [.prim .add [.prim .add [.prim .mul [.prim .idxD [.var 1, .con (.str (Str.ofString "mixed"))], .con (.int 69621)], .var 3], .con (.int 29)]], .con (.int 4294967291)])], .ret (.var 1)]⟩
def pickFD (dr : Nat) : FD := ⟨2, 2, [.ret (.prim .idx [.var 1, (.call dr [.var 0, .prim .len [.var 1]] [])])]⟩
section
variable {Pf : List FD} {ix dr : Nat}
local macro_rules | `(tactic| k_steps) => `(tactic| repeat (first
  | (with_reducible refine e_con ?_)
  | ((with_reducible apply e_var); exact rfl)
  | ((with_reducible apply e_varO); exact rfl)
  | (with_reducible refine e_prim ?_)
  | (with_reducible refine e_nil ?_)
  | (with_reducible refine e_cons ?_)
  | (with_reducible refine e_call ?_)
  | (with_reducible refine e_meth ?_)
  | (with_reducible refine e_iff ?_)
  | (with_reducible refine t_prim ?_)
  | (with_reducible refine t_var ?_)
  | (with_reducible refine t_not ?_)
  | (with_reducible refine tr_bl ?_)
  | (with_reducible refine tr_int ?_)
  | (with_reducible refine p_add ?_)
  | (with_reducible refine p_sub ?_)
  | ((with_reducible apply p_mul); (focus (first | exact rfl | assumption | exact mulOk_r (by decide) | exact mulOk_mod (by decide) (by decide))))
  | ((with_reducible apply p_fdiv); (focus (first | exact rfl | assumption | exact mulOk_r (by decide) | exact mulOk_mod (by decide) (by decide))))
  | ((with_reducible apply p_mod); (focus (first | decide | assumption)))
  | ((with_reducible apply p_pow); (focus (first | exact rfl | assumption | exact mulOk_r (by decide) | exact mulOk_mod (by decide) (by decide))))
  | (with_reducible refine p_neg ?_)
  | (with_reducible refine p_lt ?_)
  | (with_reducible refine p_le ?_)
  | (with_reducible refine p_gt ?_)
  | (with_reducible refine p_ge ?_)
  | (with_reducible refine p_eq ?_)
  | (with_reducible refine p_ne ?_)
  | (with_reducible refine p_int ?_)
  | (with_reducible refine p_intB ?_)
  | (with_reducible refine p_abs ?_)
  | (with_reducible refine p_min2 ?_)
  | (with_reducible refine p_max2 ?_)
  | (with_reducible refine p_mkTup' ?_)
  | (with_reducible refine p_mkLst' ?_)
  | (with_reducible refine q_bnil ?_)
  | (with_reducible refine q_bcons ?_)
  | (with_reducible refine q_boxP ?_)
  | (with_reducible refine q_toP ?_)
  | (with_reducible refine q_toT ?_)
  | (with_reducible refine q_nil ?_)
  | (with_reducible refine q_cons ?_)
  | (with_reducible refine q_pnil ?_)
  | (with_reducible refine q_pcons ?_)
  | (with_reducible refine q_snil ?_)
  | (with_reducible refine q_scons ?_)
  | (with_reducible refine q_one ?_)
  | ((with_reducible apply q_put); exact rfl; (focus (first | assumption | exact fun _ z => nomatch z)); dsimp only [List.set])
  | (with_reducible refine s_asg ?_)
  | (with_reducible refine s_par ?_)
  | (with_reducible refine s_expr ?_)
  | (with_reducible refine s_ret ?_)
  | (with_reducible refine s_retN ?_)
  | (with_reducible refine s_pass ?_)
  | (with_reducible refine s_ite ?_)
  | (with_reducible refine s_setKey ?_)
  | (with_reducible refine s_setIx ?_)
  | (with_reducible refine s_wh ?_)
  | (with_reducible refine s_nil ?_)
  | ((with_reducible apply k_ok); exact rfl)
  | ((with_reducible apply p_idxD); exact rfl; exact rfl; (focus (first | exact lG | exact lM | exact lT)))
  | ((with_reducible apply q_setKey); exact rfl; exact rfl; (focus (show 3 < 16777216; omega)); exact rfl; (focus (first | (rw [pM]; exact put_ref rfl rfl) | (rw [pT]; exact put_ref rfl rfl) | (rw [pM]; exact rfl) | (rw [pT]; exact rfl))))
  | (simp only [List.cons_append, List.nil_append])
  | ((with_reducible apply p_idx); exact rfl; exact rfl)
  | (with_reducible refine p_band ?_)
  | (refine And.intro (Nat.le_of_ble_eq_true rfl) ?_)
  | (with_reducible refine q_boxT ?_)
  | (with_reducible refine p_mkDct' ?_)
  | (with_reducible refine e_chkC ?_)
  | dsimp only))
local macro_rules | `(tactic| k_go) => `(tactic| repeat (first
  | (with_reducible refine e_con ?_)
  | ((with_reducible apply e_var); exact rfl)
  | ((with_reducible apply e_varO); exact rfl)
  | (with_reducible refine e_prim ?_)
  | (with_reducible refine e_nil ?_)
  | (with_reducible refine e_cons ?_)
  | (with_reducible refine e_call ?_)
  | (with_reducible refine e_meth ?_)
  | (with_reducible refine e_iff ?_)
  | (with_reducible refine t_prim ?_)
  | (with_reducible refine t_var ?_)
  | (with_reducible refine t_not ?_)
  | (with_reducible refine tr_bl ?_)
  | (with_reducible refine tr_int ?_)
  | (with_reducible refine p_add ?_)
  | (with_reducible refine p_sub ?_)
  | ((with_reducible apply p_mul); (focus (first | exact rfl | assumption | exact mulOk_r (by decide) | exact mulOk_mod (by decide) (by decide))))
  | ((with_reducible apply p_fdiv); (focus (first | exact rfl | assumption | exact mulOk_r (by decide) | exact mulOk_mod (by decide) (by decide))))
  | ((with_reducible apply p_mod); (focus (first | decide | assumption)))
  | ((with_reducible apply p_pow); (focus (first | exact rfl | assumption | exact mulOk_r (by decide) | exact mulOk_mod (by decide) (by decide))))
  | (with_reducible refine p_neg ?_)
  | (with_reducible refine p_lt ?_)
  | (with_reducible refine p_le ?_)
  | (with_reducible refine p_gt ?_)
  | (with_reducible refine p_ge ?_)
  | (with_reducible refine p_eq ?_)
  | (with_reducible refine p_ne ?_)
  | (with_reducible refine p_int ?_)
  | (with_reducible refine p_intB ?_)
  | (with_reducible refine p_abs ?_)
  | (with_reducible refine p_min2 ?_)
  | (with_reducible refine p_max2 ?_)
  | (with_reducible refine p_mkTup' ?_)
  | (with_reducible refine p_mkLst' ?_)
  | (with_reducible refine q_bnil ?_)
  | (with_reducible refine q_bcons ?_)
  | (with_reducible refine q_boxP ?_)
  | (with_reducible refine q_toP ?_)
  | (with_reducible refine q_toT ?_)
  | (with_reducible refine q_nil ?_)
  | (with_reducible refine q_cons ?_)
  | (with_reducible refine q_pnil ?_)
  | (with_reducible refine q_pcons ?_)
  | (with_reducible refine q_snil ?_)
  | (with_reducible refine q_scons ?_)
  | (with_reducible refine q_one ?_)
  | ((with_reducible apply q_put); exact rfl; (focus (first | assumption | exact fun _ z => nomatch z)); dsimp only [List.set])
  | ((with_reducible apply k_ok); exact rfl)
  | ((with_reducible apply p_idxD); exact rfl; exact rfl; (focus (first | exact lG | exact lM | exact lT)))
  | ((with_reducible apply q_setKey); exact rfl; exact rfl; (focus (show 3 < 16777216; omega)); exact rfl; (focus (first | (rw [pM]; exact put_ref rfl rfl) | (rw [pT]; exact put_ref rfl rfl) | (rw [pM]; exact rfl) | (rw [pT]; exact rfl))))
  | (simp only [List.cons_append, List.nil_append])
  | ((with_reducible apply p_idx); exact rfl; exact rfl)
  | (with_reducible refine p_band ?_)
  | (refine And.intro (Nat.le_of_ble_eq_true rfl) ?_)
  | (with_reducible refine q_boxT ?_)
  | (with_reducible refine p_mkDct' ?_)
  | (with_reducible refine e_chkC ?_)
  | dsimp only))
theorem draw_ok (hP : Pf[ix]? = some drawFD) (k : Nat) (ns gs : List Int) (x t : Int) (rest : List DO) (many : Int) (h1 : 1 ≤ many) (h2 : many < 2 ^ 200) (hz : gs.length ≤ 63) :
    ∃ r gs' x' t', 0 ≤ r ∧ r < many ∧ gs'.length ≤ 63 ∧ callF Pf (k + 1) ix [.pv (.ref 2), .pv (.int many)] (D ns gs x t rest) = .ok (.pv (.int r)) (D ns gs' x' t' rest) := by
  suffices hs : Ev (evSs (callF Pf k) drawFD.body) ⟨startE drawFD [.pv (.ref 2), .pv (.int many)], D ns gs x t rest⟩ fun f s' => ∃ r gs' x' t', 0 ≤ r ∧ r < many ∧ gs'.length ≤ 63 ∧ finC (D ns gs x t rest) (.ok f s') = .ok (.pv (.int r)) (D ns gs' x' t' rest) by
    obtain ⟨f, s', e, r, gs', x', t', a, b, c, q⟩ := hs
    exact ⟨r, gs', x', t', a, b, c, call_of (d := drawFD) hP rfl ⟨f, s', e, q⟩⟩
  show Ev (evSs _ drawFD.body) ⟨[some (.pv (.ref 2)), some (.pv (.int many)), none, none], D ns gs x t rest⟩ _
  unfold drawFD
  dsimp only
  k_steps
  refine ⟨fun hc => ?_, fun hc => ?_⟩
  · k_steps
    exact ⟨0, gs, x, t, by omega, by omega, hz, finc_pv rfl⟩
  · have hc : 2 ≤ many := by simpa using hc
    k_steps
    refine p_neNil (gs := gs) ?_ rfl ?_
    · show ((gs.map PV.int).mapM (datF _ 39)).map PyData.list = _
      rw [mapM_int]; rfl
    have h0 : 0 < many := by omega
    have hdv : divOk many = true := by
      unfold divOk
      rw [decide_eq_true h0, Bool.true_and]
      refine decide_eq_true ?_
      have h3 : many.natAbs < 2 ^ 200 := by omega
      have := (Nat.log2_lt (show many.natAbs ≠ 0 by omega)).mpr h3
      omega
    k_steps
    refine ⟨fun hg => ?_, fun hg => ?_⟩
    · obtain ⟨gs0, g, rfl⟩ : ∃ gs0 g, gs = gs0 ++ [g] := by
        rcases List.eq_nil_or_concat gs with rfl | ⟨gs0, g, rfl⟩
        · simp at hg
        · exact ⟨gs0, g, List.concat_eq_append⟩
      have hz0 : gs0.length ≤ 62 := by simp at hz; omega
      have e : (gs0 ++ [g]).map PV.int = gs0.map PV.int ++ [PV.int g] := by simp
      k_steps
      refine p_pop (v := .int g) rfl (by rw [e]; simp) (by rw [e, List.dropLast_concat]; exact put_ref rfl (und_ints 1 gs0)) ?_
      k_steps
      refine ⟨fun hm => ?_, fun hm => ?_⟩
      · k_steps
        refine p_append (v := .int (g / many)) rfl (by rw [List.length_map]; show _ < 16777216; omega) rfl (put_ref rfl (show PV.undL 1 (gs0.map PV.int ++ [PV.int (g / many)]) = true by
          have q := und_ints 1 (gs0 ++ [g / many])
          rw [List.map_append] at q
          exact q)) ?_
        k_steps
        refine ⟨_, gs0 ++ [g / many], x, t, Int.emod_nonneg g (by omega), Int.emod_lt_of_pos g h0, by simp; omega, ?_⟩
        have q : D ns (gs0 ++ [g / many]) x t rest = .fz (ns.map PV.int) :: .rw (.lst (gs0.map PV.int ++ [PV.int (g / many)])) :: .rw (dk x t) :: rest := by unfold D; rw [List.map_append]; rfl
        rw [q]
        exact finc_pv rfl
      · k_steps
        exact ⟨_, gs0, x, t, Int.emod_nonneg g (by omega), Int.emod_lt_of_pos g h0, by omega, finc_pv rfl⟩
    · k_steps
      exact ⟨_, gs, _, _, Int.emod_nonneg _ (by omega), Int.emod_lt_of_pos _ h0, hz, finc_pv rfl⟩
theorem deck_ok {c0 : Int} (hP : Pf[ix]? = some (deckFD c0)) (k : Nat) (ns : List Int) (hn : ns.length ≤ 63) : ∃ (gs : List Int) (x : Int), gs.length ≤ 63 ∧ callF Pf (k + 1) ix [.pv (.ref 0)] (scriptH ns) = .ok (.tmp (dk x 0)) [.fz (ns.map PV.int), .rw (.lst (gs.map PV.int))] := by
  suffices hs : Ev (evSs (callF Pf k) (deckFD c0).body) ⟨startE (deckFD c0) [.pv (.ref 0)], scriptH ns⟩ fun f s' => ∃ (gs : List Int) (x : Int), gs.length ≤ 63 ∧ finC (scriptH ns) (.ok f s') = .ok (.tmp (dk x 0)) [.fz (ns.map PV.int), .rw (.lst (gs.map PV.int))] by
    obtain ⟨f, s', e, gs, x, a, q⟩ := hs
    exact ⟨gs, x, a, call_of (d := deckFD c0) hP rfl ⟨f, s', e, q⟩⟩
  show Ev (evSs _ (deckFD c0).body) ⟨[some (.pv (.ref 0)), none, none, none], [.fz (ns.map PV.int)]⟩ _
  unfold deckFD
  dsimp only
  k_steps
  refine p_cut63 (xs := ns.map PV.int) rfl rfl (by simpa using hn) ?_
  k_steps
  refine p_len rfl ?_
  k_steps
  refine ⟨⟨rfl, by show 3 ≤ 15; omega⟩, ?_⟩
  rw [mk3 ne1 ne2 ne3]
  k_steps
  refine s_for ?_
  k_steps
  refine p_cut63 (xs := ns.map PV.int) rfl rfl (by simpa using hn) ?_
  k_steps
  refine i_seq rfl (l_tmp (l_nil ?_))
  refine for_inv (I := fun i s => ∃ (gs : List Int) (y : Int) (a b : Option SV), s = ⟨[some (.pv (.ref 0)), some (.own (dk y 0)), a, b], [.fz (ns.map PV.int), .rw (.lst (gs.map PV.int))]⟩ ∧ (∀ c, a ≠ some (.lk c)) ∧ (∀ c, b ≠ some (.lk c)) ∧ gs.length ≤ i) ⟨[], _, none, none, rfl, (fun _ z => nomatch z), (fun _ z => nomatch z), Nat.le_refl _⟩ (fun i p s hp hI => ?_) fun s hI => ?_
  · obtain ⟨gs, y, a, b, rfl, ha, hb, hl⟩ := hI
    obtain ⟨n, hn2, rfl⟩ : ∃ n, ns[i]? = some n ∧ p = .int n := by
      rw [List.getElem?_map] at hp
      cases q : ns[i]? with
      | none => rw [q] at hp; cases hp
      | some n => rw [q] at hp; cases hp; exact ⟨n, rfl, rfl⟩
    have hi : i < 63 := Nat.lt_of_lt_of_le (List.getElem?_eq_some_iff.mp hn2).1 hn
    k_steps
    generalize (2 * (if n < 0 then -n else n) + if decide (n < 0) = true then 1 else 0) = o
    refine ⟨fun hm => ?_, fun hm => ?_⟩
    · k_steps
      refine p_append (v := .int o) rfl (by rw [List.length_map]; show _ < 16777216; omega) rfl (put_ref rfl (show PV.undL 1 (gs.map PV.int ++ [PV.int o]) = true by
        have q := und_ints 1 (gs ++ [o])
        rw [List.map_append] at q
        exact q)) ?_
      k_steps
      refine ⟨gs ++ [o], (y * 69621 + o + 29) % 4294967291, some (.pv (.int n)), some (.pv (.int o)), ?_, (fun _ z => nomatch z), (fun _ z => nomatch z), by simp; omega⟩
      rw [List.map_append]; rfl
    · k_steps
      exact ⟨gs, (y * 69621 + o + 29) % 4294967291, some (.pv (.int n)), some (.pv (.int o)), rfl, (fun _ z => nomatch z), (fun _ z => nomatch z), by omega⟩
  · obtain ⟨gs, y, a, b, rfl, ha, hb, hl⟩ := hI
    rw [List.length_map] at hl
    refine k_nx rfl ?_
    k_steps
    exact ⟨gs, y, by omega, rfl⟩
theorem pick_own (hD : Pf[dr]? = some drawFD) (hP : Pf[ix]? = some (pickFD dr)) (k : Nat) (ns gs : List Int) (x t : Int) (rest : List DO) (xs : List PV) (h1 : 1 ≤ xs.length) (h2 : xs.length < 2 ^ 64) (hz : gs.length ≤ 63) :
    ∃ v gs' x' t', v ∈ xs ∧ gs'.length ≤ 63 ∧ callF Pf (k + 2) ix [.pv (.ref 2), .own (.lst xs)] (D ns gs x t rest) = .ok (.pv v) (D ns gs' x' t' rest) := by
  obtain ⟨r, gs', x', t', a, b, c, hcall⟩ := draw_ok hD k ns gs x t rest xs.length (by omega) (by omega) hz
  obtain ⟨v, hv, hm⟩ := atI_some a b
  refine ⟨v, gs', x', t', hm, c, call_of (d := pickFD dr) hP rfl ?_⟩
  show Ev (evSs _ (pickFD dr).body) ⟨[some (.pv (.ref 2)), some (.own (.lst xs))], D ns gs x t rest⟩ _
  unfold pickFD
  dsimp only
  k_steps
  refine p_len rfl ?_
  k_steps
  refine ev_call hcall ?_
  k_steps
  refine p_idx rfl hv ?_
  k_steps
  exact finc_pv rfl
theorem pick_tup (hD : Pf[dr]? = some drawFD) (hP : Pf[ix]? = some (pickFD dr)) (k : Nat) (ns gs : List Int) (x t : Int) (rest : List DO) (xs : List PV) (h1 : 1 ≤ xs.length) (h2 : xs.length < 2 ^ 64) (hz : gs.length ≤ 63) :
    ∃ v gs' x' t', v ∈ xs ∧ gs'.length ≤ 63 ∧ callF Pf (k + 2) ix [.pv (.ref 2), .pv (.tup xs)] (D ns gs x t rest) = .ok (.pv v) (D ns gs' x' t' rest) := by
  obtain ⟨r, gs', x', t', a, b, c, hcall⟩ := draw_ok hD k ns gs x t rest xs.length (by omega) (by omega) hz
  obtain ⟨v, hv, hm⟩ := atI_some a b
  refine ⟨v, gs', x', t', hm, c, call_of (d := pickFD dr) hP rfl ?_⟩
  show Ev (evSs _ (pickFD dr).body) ⟨[some (.pv (.ref 2)), some (.pv (.tup xs))], D ns gs x t rest⟩ _
  unfold pickFD
  dsimp only
  k_steps
  refine p_len rfl ?_
  k_steps
  refine ev_call hcall ?_
  k_steps
  refine p_idx rfl hv ?_
  k_steps
  exact finc_pv rfl
theorem pick_ref (hD : Pf[dr]? = some drawFD) (hP : Pf[ix]? = some (pickFD dr)) (k : Nat) (ns gs : List Int) (x t : Int) (rest : List DO) (n : Nat) (xs : List PV) (hr : rest[n]? = some (.rw (.lst xs))) (h1 : 1 ≤ xs.length) (h2 : xs.length < 2 ^ 64) (hz : gs.length ≤ 63) :
    ∃ v gs' x' t', v ∈ xs ∧ gs'.length ≤ 63 ∧ callF Pf (k + 2) ix [.pv (.ref 2), .pv (.ref (n + 3))] (D ns gs x t rest) = .ok (.pv v) (D ns gs' x' t' rest) := by
  obtain ⟨r, gs', x', t', a, b, c, hcall⟩ := draw_ok hD k ns gs x t rest xs.length (by omega) (by omega) hz
  obtain ⟨v, hv, hm⟩ := atI_some a b
  have it : ∀ env gs x t, itemsOf ⟨env, D ns gs x t rest⟩ (.pv (.ref (n + 3))) = some (true, xs) := fun env gs x t => by
    have : (D ns gs x t rest)[n + 3]? = some (.rw (.lst xs)) := by unfold D; simpa using hr
    unfold itemsOf coOf
    simp only [this]; rfl
  refine ⟨v, gs', x', t', hm, c, call_of (d := pickFD dr) hP rfl ?_⟩
  show Ev (evSs _ (pickFD dr).body) ⟨[some (.pv (.ref 2)), some (.pv (.ref (n + 3)))], D ns gs x t rest⟩ _
  unfold pickFD
  dsimp only
  k_steps
  refine p_len (it _ _ _ _) ?_
  k_steps
  refine ev_call hcall ?_
  k_steps
  refine p_idx (it _ _ _ _) hv ?_
  k_steps
  exact finc_pv rfl
end
end Deck
end DV
namespace DV
open PySem PySem.Spec PyProof.Rows L2
variable {s : DS} {env : List (Option SV)} {h : List DO} {a b : EV}
theorem e_chkV {F : FE} {i : Nat} {j : Int} {Q : EV → DS → Prop} (e : s.env[i]? = some (some (.pv (.int j)))) (q : Q (.pv (.int j)) s) : Ev (evE F (.chkI (.var i))) s Q := e_chkI (e_var e ⟨j, rfl, q⟩)
theorem l_own {i : Nat} {c : CO} {es : List EV} {acc : List Lk} {Q : List Lk → DS → Prop} (e : env[i]? = some (some (.own c))) (q : Ev (lockL es (.slot i c :: acc)) ⟨env.set i (some (.lk c)), h⟩ Q) : Ev (lockL (.bw i :: es) acc) ⟨env, h⟩ Q :=
  .bnd (.eq (a := .slot i c) (s' := ⟨env.set i (some (.lk c)), h⟩) (by simp only [lockF, e]) q)
theorem l_ref {n : Nat} {c : CO} {es : List EV} {acc : List Lk} {Q : List Lk → DS → Prop} (e : h[n]? = some (.rw c)) (q : Ev (lockL es (.hp n c :: acc)) ⟨env, h.set n (.lk c)⟩ Q) : Ev (lockL (.pv (.ref n) :: es) acc) ⟨env, h⟩ Q :=
  .bnd (.eq (a := .hp n c) (s' := ⟨env, h.set n (.lk c)⟩) (by simp only [lockF, e]) q)
theorem comp_fm {g : Tg} {own : List Nat} {c : M Bool} {e : M EV} {xs : List PV} {K : List PV → DS → Prop} (s0 : DS) (f : PV → Option PV) (hn : own.all (notLk s.env) = true) (hw : wip s own = s0)
    (step : ∀ x ∈ xs, Ev (assignG g x) s0 fun _ s1 => Ev c s1 fun b s2 => (b = true → ∃ p, f x = some p ∧ Ev e s2 fun v s3 => Ev (box v) s3 fun p' s4 => p' = p ∧ own.all (notLk s4.env) = true ∧ wip s4 own = s0) ∧ (b = false → f x = none ∧ own.all (notLk s2.env) = true ∧ wip s2 own = s0))
    (fin : K (xs.filterMap f) (rst s0 s own)) : Ev (withOwn own (compF own g c e xs)) s K := by
  refine comp_inv (I := fun i acc s1 => s1 = s0 ∧ acc = (xs.take i).filterMap f) hn ⟨hw, rfl⟩ (fun i x acc s1 hx hI => ?_) fun acc s1 hI => ?_
  · obtain ⟨rfl, rfl⟩ := hI
    refine (step x (List.mem_of_getElem? hx)).mono fun _ s1 h => h.mono fun b s2 ⟨h1, h2⟩ => ⟨fun hb => ?_, fun hb => ?_⟩
    · obtain ⟨p, hp, q⟩ := h1 hb
      refine q.mono fun v s3 q => q.mono fun p' s4 ⟨e1, e2, e3⟩ => ⟨e2, e3, ?_⟩
      rw [List.take_add_one, hx, List.filterMap_append, e1]
      simp [hp]
    · obtain ⟨hp, e2, e3⟩ := h2 hb
      refine ⟨e2, e3, ?_⟩
      rw [List.take_add_one, hx, List.filterMap_append]
      simp [hp]
  · obtain ⟨rfl, rfl⟩ := hI
    rw [List.take_length]; exact fin
theorem fm_map {α : Type} {mk : α → PV} {f : PV → Option PV} {g : α → PV} (h : ∀ a, f (mk a) = some (g a)) : ∀ l : List α, (l.map mk).filterMap f = l.map g
  | [] => rfl
  | x :: r => by rw [List.map_cons, List.filterMap_cons_some (h x), fm_map h r, List.map_cons]
theorem fm_filter {α : Type} {mk : α → PV} {f : PV → Option PV} {b : α → Bool} {g : α → PV} (h : ∀ a, f (mk a) = if b a = true then some (g a) else none) : ∀ l : List α, (l.map mk).filterMap f = (l.filter b).map g
  | [] => rfl
  | x :: r => by
    rw [List.map_cons, List.filterMap_cons, h x, List.filter_cons]
    by_cases hb : b x = true
    · rw [if_pos hb, if_pos hb, List.map_cons, fm_filter h r]
    · rw [if_neg hb, if_neg hb, fm_filter h r]
theorem rangeL_map : ∀ (n : Nat) (lo : Int), rangeL lo n = (List.range n).map fun (i : Nat) => PV.int (lo + (i : Int))
  | 0, _ => rfl
  | n + 1, lo => by
    rw [List.range_succ_eq_map, List.map_cons, List.map_map, rangeL, rangeL_map n (lo + 1)]
    congr 1
    · simp
    · refine List.map_congr_left fun i _ => ?_
      show PV.int (lo + 1 + i) = PV.int (lo + ((i + 1 : Nat) : Int))
      congr 1; omega
theorem cutN {xs : List PV} (k : Nat) : DV.cut xs none (some (k : Int)) = xs.take k := by
  unfold DV.cut
  rw [HT.sIx_none, HT.sIx_nat xs.length xs.length k]
  rw [List.drop_zero, Nat.sub_zero]
  by_cases h : k ≤ xs.length
  · rw [Nat.min_eq_left h]
  · rw [Nat.min_eq_right (by omega), List.take_length, List.take_of_length_le (by omega)]
theorem p_cutT {s : DS} {a b : EV} {xs : List PV} {k : Nat} {Q : EV → DS → Prop} (h : itemsOf s a = some (false, xs)) (hb : optI s b = some (k : Int)) (q : Q (.pv (.tup (xs.take k))) s) : Ev (primF (.slice false true) [a, b]) s Q :=
  .conv (d := sliceFTF a b) rfl (.eq (a := .pv (.tup (xs.take k))) (s' := s) (by simp only [sliceFTF, hb, cutF, h, cutN]) q)
theorem i_rng3 {i j c : Int} {Q : List PV → DS → Prop} (hj : stepOk i j c = true) (q : Q (rangeC i c (stepN i j c)) s) : Ev (itemsK .rng3 [.pv (.int i), .pv (.int j), .pv (.int c)]) s Q := .conv (d := M.bnd (M.chk (stepOk i j c)) (fun _ => M.ret (rangeC i c (stepN i j c)))) rfl (.bnd (.chk hj (.ret q)))
theorem pairs_map : ∀ zs : List (Int × Int), pairsOf (zs.map mkP) = some zs
  | [] => rfl
  | z :: zs => by
    show (pairsOf (zs.map mkP)).map _ = _
    rw [pairs_map zs]; rfl
theorem insP_length (x : Int × Int) : ∀ l, (insP x l).length = l.length + 1
  | [] => rfl
  | y :: r => by
    unfold insP
    split
    · rfl
    · rw [List.length_cons, insP_length x r, List.length_cons]
theorem sortP_length : ∀ l, (sortP l).length = l.length
  | [] => rfl
  | x :: r => by rw [sortP, insP_length, sortP_length r, List.length_cons]
theorem insI_length (x : Int) : ∀ l, (insI x l).length = l.length + 1
  | [] => rfl
  | y :: r => by
    unfold insI
    split
    · rfl
    · rw [List.length_cons, insI_length x r, List.length_cons]
theorem sortI_length : ∀ l, (sortI l).length = l.length
  | [] => rfl
  | x :: r => by rw [sortI, insI_length, sortI_length r, List.length_cons]
theorem p_sortP {zs : List (Int × Int)} {Q : EV → DS → Prop} (h1 : coOf s a = some (.lst (zs.map mkP))) (h0 : zs ≠ []) (hl : zs.length ≤ sizeLine) (q : Q (.tmp (.lst ((sortP zs).map mkP))) s) : Ev (primF .sorted [a]) s Q :=
  .conv (d := sortL (zs.map mkP)) (by show sortedF a s = _; simp only [sortedF, h1]) (.conv (d := newL ((sortP zs).map mkP)) (by
    cases zs with
    | nil => exact absurd rfl h0
    | cons z zs =>
      unfold sortL
      rw [show intsOf ((z :: zs).map mkP) = none from rfl, pairs_map]; rfl) (.bnd (.chk (decide_eq_true (by rw [List.length_map, sortP_length]; exact hl)) (.ret q))))
theorem p_sortI {ns : List Int} {Q : EV → DS → Prop} (h1 : coOf s a = some (.lst (ns.map PV.int))) (hl : ns.length ≤ sizeLine) (q : Q (.tmp (.lst ((sortI ns).map PV.int))) s) : Ev (primF .sorted [a]) s Q :=
  .conv (d := sortL (ns.map PV.int)) (by show sortedF a s = _; simp only [sortedF, h1]) (.conv (d := newL ((sortI ns).map PV.int)) (by unfold sortL; rw [ints_map]) (.bnd (.chk (decide_eq_true (by rw [List.length_map, sortI_length]; exact hl)) (.ret q))))
theorem p_tupleL {xs : List PV} {bb : Bool} {Q : EV → DS → Prop} (h1 : itemsOf s a = some (bb, xs)) (q : Q (.pv (.tup xs)) s) : Ev (primF .tuple [a]) s Q :=
  .conv (d := tupleF a) rfl (.eq (by unfold tupleF; rw [h1]) q)
theorem p_allB {bs : List Bool} {xs : List PV} {Q : EV → DS → Prop} (h : coOf s a = some (.lst xs)) (h2 : boolsOf xs = some bs) (q : Q (.pv (.bl (bs.all id))) s) : Ev (primF .all [a]) s Q :=
  .conv (d := allF a) rfl (.conv (d := M.bnd (M.opt (boolsOf xs)) (fun bs => vbl (bs.all id))) (by unfold allF; rw [h]) (.bnd (.opt h2 (.ret q))))
theorem boolsMap : ∀ bs : List Bool, boolsOf (bs.map PV.bl) = some bs
  | [] => rfl
  | b :: bs => by simp only [List.map_cons, boolsOf, boolsMap bs]; rfl
theorem p_inn {x : PV} {bb : Bool} {xs : List PV} {Q : EV → DS → Prop} (h0 : pvOf s a = some x) (h : itemsOf s b = some (bb, xs)) (hf : (flatP x && xs.all flatP) = true) (q : Q (.pv (.bl (inP x xs))) s) : Ev (primF .inn [a, b]) s Q :=
  .conv (d := M.bnd (M.chk (flatP x && xs.all flatP)) (fun _ => vbl (inP x xs))) (by show innF a b s = _; unfold innF; rw [h0, h]) (.bnd (.chk hf (.ret q)))
theorem p_notin {x : PV} {bb : Bool} {xs : List PV} {Q : EV → DS → Prop} (h0 : pvOf s a = some x) (h : itemsOf s b = some (bb, xs)) (hf : (flatP x && xs.all flatP) = true) (q : Q (.pv (.bl (!inP x xs))) s) : Ev (primF .notin [a, b]) s Q :=
  .conv (d := M.bnd (M.chk (flatP x && xs.all flatP)) (fun _ => vbl (!inP x xs))) (by show notinF a b s = _; unfold notinF; rw [h0, h]) (.bnd (.chk hf (.ret q)))
theorem p_isN {v : PV} {Q : EV → DS → Prop} (q : Q (.pv (.bl (match v with | .non => true | _ => false))) s) : Ev (primF .isN [.pv v]) s Q := by
  cases v <;> exact .eq rfl q
theorem p_notN {v : PV} {Q : EV → DS → Prop} (q : Q (.pv (.bl (match v with | .non => false | _ => true))) s) : Ev (primF .notN [.pv v]) s Q := by
  cases v <;> exact .eq rfl q
theorem eqv_bool {a b : Bool} : PyData.eqv (.bool a) (.bool b) = (a == b) := by
  cases a <;> cases b <;> simp [PyData.eqv] <;> rfl
theorem p_neB {a b : Bool} {Q : EV → DS → Prop} (q : Q (.pv (.bl (!(a == b)))) s) : Ev (primF .ne [.pv (.bl a), .pv (.bl b)]) s Q := .eq (s' := s) (a := .pv (.bl (!PyData.eqv (.bool a) (.bool b)))) rfl (by rw [eqv_bool]; exact q)
theorem p_eqB {a b : Bool} {Q : EV → DS → Prop} (q : Q (.pv (.bl (a == b))) s) : Ev (primF .eq [.pv (.bl a), .pv (.bl b)]) s Q := .eq (s' := s) (a := .pv (.bl (PyData.eqv (.bool a) (.bool b)))) rfl (by rw [eqv_bool]; exact q)
theorem int_smallB {i : Int} (h : 0 ≤ i) (h2 : i < 2 ^ 1000) : small (.int i) = true := by
  simp only [small]
  refine decide_eq_true ?_
  by_cases hz : i.natAbs = 0
  · rw [hz]; decide
  · have h3 : i.natAbs < 2 ^ 1000 := by
      have e : ((i.natAbs : Nat) : Int) < ((2 ^ 1000 : Nat) : Int) := by rw [Int.natAbs_of_nonneg h]; exact h2
      exact Int.ofNat_lt.mp e
    have := (Nat.log2_lt hz).mpr h3
    omega
theorem mapM_datas {h : List DO} {k : Nat} {xs : List PV} {ds : List PyData} (e : xs.mapM (datF h k) = some ds) : datF h (k + 1) (.tup xs) = some (.tuple ds) := by
  show (xs.mapM (datF h k)).map PyData.tuple = _
  rw [e]; rfl
theorem stepOk_pos {i j c : Int} (h1 : 0 < c) (h2 : c < 1000000000) (hi : -(2 ^ 60) ≤ i) (hi2 : i < 2 ^ 60) (hj : -(2 ^ 60) ≤ j) (hj2 : j < 2 ^ 60) : stepOk i j c = true := by
  unfold stepOk Builtin.Range.small
  have hn := PyProof.Rows.rangeSize_toNat i j c
  have hle := PyProof.Rows.rangeSize_toNat_le i j c
  generalize Builtin.Range.rangeSize i j c = n at hn hle
  have hmul : 0 ≤ (n - 1) * c + c := by
    have : (n - 1) * c + c = n * c := by rw [Int.sub_mul, Int.one_mul, Int.sub_add_cancel]
    rw [this]
    exact Int.mul_nonneg (by omega) (by omega)
  simp only [Builtin.Range.rangeFitsLong, Bool.and_eq_true, Bool.or_eq_true, decide_eq_true_eq, beq_iff_eq, show c > 0 from h1, if_true]
  omega
end DV
namespace DV.Pot
open PySem PySem.Spec PyProof.Rows L2 DV
abbrev kG : DV.Key := .inr (Str.ofString "great")
abbrev kM : DV.Key := .inr (Str.ofString "stirred")
abbrev kT : DV.Key := .inr (Str.ofString "turn")
def dk (x t : Int) : CO := .dct [(kG, .ref 1), (kM, .int x), (kT, .int t)]
def D (ns gs : List Int) (x t : Int) (rest : List DO) : List DO := .fz (ns.map PV.int) :: .rw (.lst (gs.map PV.int)) :: .rw (dk x t) :: rest
theorem ne1 : kG ≠ kM := by decide +kernel
theorem ne2 : kG ≠ kT := by decide +kernel
theorem ne3 : kM ≠ kT := by decide +kernel
theorem lG {v w u : PV} : look [(kG, v), (kM, w), (kT, u)] kG = some v := look_hd
theorem lM {v w u : PV} : look [(kG, v), (kM, w), (kT, u)] kM = some w := (look_tl ne1).trans look_hd
theorem lT {v w u : PV} : look [(kG, v), (kM, w), (kT, u)] kT = some u := (look_tl ne2).trans ((look_tl ne3).trans look_hd)
theorem pM {v w u z : PV} : put [(kG, v), (kM, w), (kT, u)] kM z = [(kG, v), (kM, z), (kT, u)] := put3b ne1 ne3
theorem pT {v w u z : PV} : put [(kG, v), (kM, w), (kT, u)] kT z = [(kG, v), (kM, w), (kT, z)] := put3c ne2 ne3
def drawFD : FD := ⟨2, 6, [.asg 2 (.prim .idxD [.var 0, .con (.str (Str.ofString "great"))]), .ite (.prim .ne [.var 2, .prim .mkLst []]) [.asg 3 (.meth .popAt (.var 2) [.con (.int 0)]), .ite (.prim .ge [.var 3, .var 1]) [.expr (.meth .insert (.var 2) [.con (.int 0), .prim .fdiv [.var 3, .var 1]])] [], .ret (.prim .mod [.prim .int [.var 3], .var 1])] [], .setKey (.var 0) (.con (.str (Str.ofString "turn"))) (.prim .add [.prim .idxD [.var 0, .con (.str (Str.ofString "turn"))], .con (.int 1)]), .asg 4 (.prim .idxD [.var 0, .con (.str (Str.ofString "turn"))]), .asg 5 (.prim .mod [.prim .int [.prim .add [.prim .add [.prim .mul [.prim .idxD [.var 0, .con (.str (Str.ofString "stirred"))], .con (.int 48271)], .prim .mul [.prim .mul [.var 4, .var 4], .con (.int 17)]], .prim .mul [.con (.int 7919), .var 4]]], .con (.int 4294967279)]), .asg 5 (.prim .mod [.prim .int [.prim .add [.prim .mul [.var 5, .con (.int 69621)], .prim .fdiv [.var 5, .con (.int 65536)]]], .con (.int 4294967291)]), .setKey (.var 0) (.con (.str (Str.ofString "stirred"))) (.var 5), .ret (.prim .mod [.prim .int [.prim .fdiv [.var 5, .con (.int 1024)]], .var 1])]⟩
def potFD (c0 : Int) : FD := ⟨1, 4, [.par [1, 2] [.comp (.one 3) .seq [.prim (.slice false true) [.var 0, .chkI (.con (.int 61))]] none (.prim .add [.prim .mul [.con (.int 2), .prim .abs [.var 3]], .prim .int [.prim .lt [.var 3, .con (.int 0)]]]) [3], .prim .add [.con (.int c0), .prim .mul [.con (.int 3), .prim .len [.var 0]]]], .forS (.one 3) .seq [.var 1] [.asg 2 (.prim .mod [.prim .int [.prim .add [.prim .add [.prim .mul [.var 2, .con (.int 69069)], .var 3], .con (.int 13)]], .con (.int 4294967291)])], .ret (.prim (.mkDct [.inr (Str.ofString "great"), .inr (Str.ofString "stirred"), .inr (Str.ofString "turn")]) [.comp (.one 3) .seq [.var 1] (some (.prim .ge [.var 3, .prim .pow [.con (.int 10), .con (.int 16)]])) (.var 3) [3], .var 2, .con (.int 0)])]⟩
def pickFD (dr : Nat) : FD := ⟨2, 2, [.ret (.prim .idx [.var 1, (.call dr [.var 0, .prim .len [.var 1]] [])])]⟩
section
variable {Pf : List FD} {ix dr : Nat}
local macro_rules | `(tactic| k_steps) => `(tactic| repeat (first
  | (with_reducible refine e_con ?_)
  | ((with_reducible apply e_var); exact rfl)
  | ((with_reducible apply e_varO); exact rfl)
  | (with_reducible refine e_prim ?_)
  | (with_reducible refine e_nil ?_)
  | (with_reducible refine e_cons ?_)
  | (with_reducible refine e_call ?_)
  | (with_reducible refine e_meth ?_)
  | (with_reducible refine e_iff ?_)
  | (with_reducible refine t_prim ?_)
  | (with_reducible refine t_var ?_)
  | (with_reducible refine t_not ?_)
  | (with_reducible refine tr_bl ?_)
  | (with_reducible refine tr_int ?_)
  | (with_reducible refine p_add ?_)
  | (with_reducible refine p_sub ?_)
  | ((with_reducible apply p_mul); (focus (first | exact rfl | assumption | exact mulOk_r (by decide) | exact mulOk_mod (by decide) (by decide))))
  | ((with_reducible apply p_fdiv); (focus (first | exact rfl | assumption | exact mulOk_r (by decide) | exact mulOk_mod (by decide) (by decide))))
  | ((with_reducible apply p_mod); (focus (first | decide | assumption)))
  | ((with_reducible apply p_pow); (focus (first | exact rfl | assumption | exact mulOk_r (by decide) | exact mulOk_mod (by decide) (by decide))))
  | (with_reducible refine p_neg ?_)
  | (with_reducible refine p_lt ?_)
  | (with_reducible refine p_le ?_)
  | (with_reducible refine p_gt ?_)
  | (with_reducible refine p_ge ?_)
  | (with_reducible refine p_eq ?_)
  | (with_reducible refine p_ne ?_)
  | (with_reducible refine p_int ?_)
  | (with_reducible refine p_intB ?_)
  | (with_reducible refine p_abs ?_)
  | (with_reducible refine p_min2 ?_)
  | (with_reducible refine p_max2 ?_)
  | (with_reducible refine p_mkTup' ?_)
  | (with_reducible refine p_mkLst' ?_)
  | (with_reducible refine q_bnil ?_)
  | (with_reducible refine q_bcons ?_)
  | (with_reducible refine q_boxP ?_)
  | (with_reducible refine q_toP ?_)
  | (with_reducible refine q_toT ?_)
  | (with_reducible refine q_nil ?_)
  | (with_reducible refine q_cons ?_)
  | (with_reducible refine q_pnil ?_)
  | (with_reducible refine q_pcons ?_)
  | (with_reducible refine q_snil ?_)
  | (with_reducible refine q_scons ?_)
  | (with_reducible refine q_one ?_)
  | ((with_reducible apply q_put); exact rfl; (focus (first | assumption | exact fun _ z => nomatch z)); dsimp only [List.set])
  | (with_reducible refine s_asg ?_)
  | (with_reducible refine s_par ?_)
  | (with_reducible refine s_expr ?_)
  | (with_reducible refine s_ret ?_)
  | (with_reducible refine s_retN ?_)
  | (with_reducible refine s_pass ?_)
  | (with_reducible refine s_ite ?_)
  | (with_reducible refine s_setKey ?_)
  | (with_reducible refine s_setIx ?_)
  | (with_reducible refine s_wh ?_)
  | (with_reducible refine s_nil ?_)
  | ((with_reducible apply k_ok); exact rfl)
  | ((with_reducible apply p_idxD); exact rfl; exact rfl; (focus (first | exact Pot.lG | exact Pot.lM | exact Pot.lT | exact Deck.lG | exact Deck.lM | exact Deck.lT)))
  | ((with_reducible apply q_setKey); exact rfl; exact rfl; (focus (show 3 < 16777216; omega)); exact rfl; (focus (first | (rw [Pot.pM]; exact put_ref rfl rfl) | (rw [Pot.pT]; exact put_ref rfl rfl) | (rw [Deck.pM]; exact put_ref rfl rfl) | (rw [Deck.pT]; exact put_ref rfl rfl) | (rw [Deck.pM]; exact rfl) | (rw [Deck.pT]; exact rfl))))
  | (simp only [List.cons_append, List.nil_append])
  | ((with_reducible apply p_idx); exact rfl; exact rfl)
  | ((with_reducible apply q_toR); exact rfl)
  | ((with_reducible apply q_boxR); exact rfl)
  | (with_reducible refine l_int ?_)
  | (with_reducible refine l_tup ?_)
  | (with_reducible refine l_tmp ?_)
  | (with_reducible refine l_nil ?_)
  | (with_reducible refine p_isN ?_)
  | (with_reducible refine p_notN ?_)
  | (with_reducible refine p_neB ?_)
  | (with_reducible refine p_eqB ?_)
  | (with_reducible refine p_band ?_)
  | (refine And.intro (Nat.le_of_ble_eq_true rfl) ?_)
  | (with_reducible refine q_boxT ?_)
  | (with_reducible refine p_mkDct' ?_)
  | (with_reducible refine e_chkC ?_)
  | ((with_reducible apply e_chkV); exact rfl)
  | dsimp only))
local macro_rules | `(tactic| k_go) => `(tactic| repeat (first
  | (with_reducible refine e_con ?_)
  | ((with_reducible apply e_var); exact rfl)
  | ((with_reducible apply e_varO); exact rfl)
  | (with_reducible refine e_prim ?_)
  | (with_reducible refine e_nil ?_)
  | (with_reducible refine e_cons ?_)
  | (with_reducible refine e_call ?_)
  | (with_reducible refine e_meth ?_)
  | (with_reducible refine e_iff ?_)
  | (with_reducible refine t_prim ?_)
  | (with_reducible refine t_var ?_)
  | (with_reducible refine t_not ?_)
  | (with_reducible refine tr_bl ?_)
  | (with_reducible refine tr_int ?_)
  | (with_reducible refine p_add ?_)
  | (with_reducible refine p_sub ?_)
  | ((with_reducible apply p_mul); (focus (first | exact rfl | assumption | exact mulOk_r (by decide) | exact mulOk_mod (by decide) (by decide))))
  | ((with_reducible apply p_fdiv); (focus (first | exact rfl | assumption | exact mulOk_r (by decide) | exact mulOk_mod (by decide) (by decide))))
  | ((with_reducible apply p_mod); (focus (first | decide | assumption)))
  | ((with_reducible apply p_pow); (focus (first | exact rfl | assumption | exact mulOk_r (by decide) | exact mulOk_mod (by decide) (by decide))))
  | (with_reducible refine p_neg ?_)
  | (with_reducible refine p_lt ?_)
  | (with_reducible refine p_le ?_)
  | (with_reducible refine p_gt ?_)
  | (with_reducible refine p_ge ?_)
  | (with_reducible refine p_eq ?_)
  | (with_reducible refine p_ne ?_)
  | (with_reducible refine p_int ?_)
  | (with_reducible refine p_intB ?_)
  | (with_reducible refine p_abs ?_)
  | (with_reducible refine p_min2 ?_)
  | (with_reducible refine p_max2 ?_)
  | (with_reducible refine p_mkTup' ?_)
  | (with_reducible refine p_mkLst' ?_)
  | (with_reducible refine q_bnil ?_)
  | (with_reducible refine q_bcons ?_)
  | (with_reducible refine q_boxP ?_)
  | (with_reducible refine q_toP ?_)
  | (with_reducible refine q_toT ?_)
  | (with_reducible refine q_nil ?_)
  | (with_reducible refine q_cons ?_)
  | (with_reducible refine q_pnil ?_)
  | (with_reducible refine q_pcons ?_)
  | (with_reducible refine q_snil ?_)
  | (with_reducible refine q_scons ?_)
  | (with_reducible refine q_one ?_)
  | ((with_reducible apply q_put); exact rfl; (focus (first | assumption | exact fun _ z => nomatch z)); dsimp only [List.set])
  | ((with_reducible apply k_ok); exact rfl)
  | ((with_reducible apply p_idxD); exact rfl; exact rfl; (focus (first | exact Pot.lG | exact Pot.lM | exact Pot.lT | exact Deck.lG | exact Deck.lM | exact Deck.lT)))
  | ((with_reducible apply q_setKey); exact rfl; exact rfl; (focus (show 3 < 16777216; omega)); exact rfl; (focus (first | (rw [Pot.pM]; exact put_ref rfl rfl) | (rw [Pot.pT]; exact put_ref rfl rfl) | (rw [Deck.pM]; exact put_ref rfl rfl) | (rw [Deck.pT]; exact put_ref rfl rfl) | (rw [Deck.pM]; exact rfl) | (rw [Deck.pT]; exact rfl))))
  | (simp only [List.cons_append, List.nil_append])
  | ((with_reducible apply p_idx); exact rfl; exact rfl)
  | ((with_reducible apply q_toR); exact rfl)
  | ((with_reducible apply q_boxR); exact rfl)
  | (with_reducible refine l_int ?_)
  | (with_reducible refine l_tup ?_)
  | (with_reducible refine l_tmp ?_)
  | (with_reducible refine l_nil ?_)
  | (with_reducible refine p_isN ?_)
  | (with_reducible refine p_notN ?_)
  | (with_reducible refine p_neB ?_)
  | (with_reducible refine p_eqB ?_)
  | (with_reducible refine p_band ?_)
  | (refine And.intro (Nat.le_of_ble_eq_true rfl) ?_)
  | (with_reducible refine q_boxT ?_)
  | (with_reducible refine p_mkDct' ?_)
  | (with_reducible refine e_chkC ?_)
  | ((with_reducible apply e_chkV); exact rfl)
  | dsimp only))
theorem p_popIx {s s' : DS} {a : EV} {v : PV} {xs : List PV} {k : Nat} {Q : EV → DS → Prop} (hk : k < 2 ^ 62) (h : liOf s a = some xs) (hv : xs[k]? = some v) (h3 : putCO a (.lst (xs.eraseIdx k)) s = .ok () s') (q : Q (.pv v) s') : Ev (primF .popAt [a, .pv (.int (k : Int))]) s Q := by
  have hl : k < xs.length := (List.getElem?_eq_some_iff.mp hv).1
  have hi : L2.ixN xs.length (k : Int) = some k := by
    unfold L2.ixN
    rw [if_pos (by omega), if_pos (by omega)]
    rfl
  refine .conv (d := popAtF a (.pv (.int (k : Int)))) rfl (.conv (d := M.bnd (M.chk (decide (-(2 ^ 63) ≤ (k : Int)) && decide ((k : Int) < 2 ^ 63))) (fun _ => M.bnd (M.opt (L2.ixN xs.length (k : Int))) fun j => M.bnd (M.opt xs[j]?) fun v => M.bnd (putCO a (.lst (xs.eraseIdx j))) fun _ => val v)) (by simp only [popAtF, h, pvOf]) (.bnd (.chk ?_ (.bnd (.opt hi (.bnd (.opt hv (.bnd (.eq h3 (.ret q)))))))))) 
  rw [Bool.and_eq_true_iff]
  exact ⟨decide_eq_true (by omega), decide_eq_true (by omega)⟩
theorem p_popAt {s s' : DS} {a : EV} {v : PV} {r : List PV} {Q : EV → DS → Prop} (h : liOf s a = some (v :: r)) (h3 : putCO a (.lst r) s = .ok () s') (q : Q (.pv v) s') : Ev (primF .popAt [a, .pv (.int 0)]) s Q :=
  p_popIx (k := 0) (by decide) h rfl h3 q
theorem p_insert {s s1 s' : DS} {a b : EV} {v : PV} {xs : List PV} {Q : EV → DS → Prop} (h : liOf s a = some xs) (h2 : xs.length < sizeLine) (hb : box b s = .ok v s1) (h3 : putCO a (.lst (v :: xs)) s1 = .ok () s') (q : Q (.pv .non) s') : Ev (primF .insert [a, .pv (.int 0), b]) s Q :=
  .conv (d := insertF a (.pv (.int 0)) b) rfl (.conv (d := M.bnd (M.chk (decide (xs.length < sizeLine))) (fun _ => M.bnd (box b) fun v => M.bnd (putCO a (.lst (v :: xs))) fun _ => val .non)) (by simp only [insertF, h, pvOf]) (.bnd (.chk (decide_eq_true h2) (.bnd (.eq hb (.bnd (.eq h3 (.ret q))))))))
theorem p_cutL {s : DS} {a b : EV} {xs : List PV} {k : Nat} {Q : EV → DS → Prop} (h : itemsOf s a = some (true, xs)) (hb : optI s b = some (k : Int)) (q : Q (.tmp (.lst (xs.take k))) s) : Ev (primF (.slice false true) [a, b]) s Q :=
  .conv (d := sliceFTF a b) rfl (.eq (a := .tmp (.lst (xs.take k))) (s' := s) (by simp only [sliceFTF, hb, cutF, h, cutN]) q)
theorem draw_ok (hP : Pf[ix]? = some drawFD) (k : Nat) (ns gs : List Int) (x t : Int) (rest : List DO) (many : Int) (h1 : 1 ≤ many) (h2 : many < 2 ^ 200) (hz : gs.length ≤ 63) (t0 : 0 ≤ t) (t1 : t < 2 ^ 60) :
    ∃ r gs' x' t', 0 ≤ r ∧ r < many ∧ gs'.length ≤ 63 ∧ 0 ≤ t' ∧ t' ≤ t + 1 ∧ callF Pf (k + 1) ix [.pv (.ref 2), .pv (.int many)] (D ns gs x t rest) = .ok (.pv (.int r)) (D ns gs' x' t' rest) := by
  suffices hs : Ev (evSs (callF Pf k) drawFD.body) ⟨startE drawFD [.pv (.ref 2), .pv (.int many)], D ns gs x t rest⟩ fun f s' => ∃ r gs' x' t', 0 ≤ r ∧ r < many ∧ gs'.length ≤ 63 ∧ 0 ≤ t' ∧ t' ≤ t + 1 ∧ finC (D ns gs x t rest) (.ok f s') = .ok (.pv (.int r)) (D ns gs' x' t' rest) by
    obtain ⟨f, s', e, r, gs', x', t', a, b, c, d1, d2, q⟩ := hs
    exact ⟨r, gs', x', t', a, b, c, d1, d2, call_of (d := drawFD) hP rfl ⟨f, s', e, q⟩⟩
  show Ev (evSs _ drawFD.body) ⟨[some (.pv (.ref 2)), some (.pv (.int many)), none, none, none, none], D ns gs x t rest⟩ _
  unfold drawFD
  dsimp only
  have h0 : 0 < many := by omega
  have hdv : divOk many = true := by
    unfold divOk
    rw [decide_eq_true h0, Bool.true_and]
    refine decide_eq_true ?_
    have h3 : many.natAbs < 2 ^ 200 := by omega
    have := (Nat.log2_lt (show many.natAbs ≠ 0 by omega)).mpr h3
    omega
  have hmt : mulOk (t + 1) (t + 1) = true := mulOk_l (by omega)
  have hmt2 : mulOk 7919 (t + 1) = true := mulOk_l (by decide)
  have h65 : divOk 65536 = true := rfl
  k_steps
  refine p_neNil (gs := gs) ?_ rfl ?_
  · show ((gs.map PV.int).mapM (datF _ 39)).map PyData.list = _
    rw [mapM_int]; rfl
  k_steps
  refine ⟨fun hg => ?_, fun hg => ?_⟩
  · obtain ⟨g, gs0, rfl⟩ : ∃ g gs0, gs = g :: gs0 := by
      cases gs with
      | nil => simp at hg
      | cons g gs0 => exact ⟨g, gs0, rfl⟩
    have hz0 : gs0.length ≤ 62 := by simp at hz; omega
    k_steps
    refine p_popAt (v := .int g) (r := gs0.map PV.int) rfl (put_ref rfl (und_ints 1 gs0)) ?_
    k_steps
    refine ⟨fun hm => ?_, fun hm => ?_⟩
    · k_steps
      refine p_insert (v := .int (g / many)) rfl (by rw [List.length_map]; show _ < 16777216; omega) rfl (put_ref rfl (und_ints 1 ((g / many) :: gs0))) ?_
      k_steps
      exact ⟨_, (g / many) :: gs0, x, t, Int.emod_nonneg g (by omega), Int.emod_lt_of_pos g h0, by simp; omega, t0, by omega, finc_pv rfl⟩
    · k_steps
      exact ⟨_, gs0, x, t, Int.emod_nonneg g (by omega), Int.emod_lt_of_pos g h0, by omega, t0, by omega, finc_pv rfl⟩
  · k_steps
    exact ⟨_, gs, _, _, Int.emod_nonneg _ (by omega), Int.emod_lt_of_pos _ h0, hz, by omega, by omega, finc_pv rfl⟩
def cel (n : Int) : Int := 2 * (if n < 0 then -n else n) + (if decide (n < 0) = true then 1 else 0)
theorem map_int_at {ns : List Int} {y : PV} (h : y ∈ ns.map PV.int) : ∃ n ∈ ns, y = .int n := by
  obtain ⟨n, hn, e⟩ := List.mem_map.mp h
  exact ⟨n, hn, e.symm⟩
theorem pot_ok {c0 : Int} (hP : Pf[ix]? = some (potFD c0)) (k : Nat) (ns : List Int) (hn : ns.length ≤ 63) : ∃ (gs : List Int) (x : Int), gs.length ≤ 63 ∧ callF Pf (k + 1) ix [.pv (.ref 0)] (scriptH ns) = .ok (.tmp (dk x 0)) [.fz (ns.map PV.int), .rw (.lst (gs.map PV.int))] := by
  suffices hs : Ev (evSs (callF Pf k) (potFD c0).body) ⟨startE (potFD c0) [.pv (.ref 0)], scriptH ns⟩ fun f s' => ∃ (gs : List Int) (x : Int), gs.length ≤ 63 ∧ finC (scriptH ns) (.ok f s') = .ok (.tmp (dk x 0)) [.fz (ns.map PV.int), .rw (.lst (gs.map PV.int))] by
    obtain ⟨f, s', e, gs, x, a, q⟩ := hs
    exact ⟨gs, x, a, call_of (d := potFD c0) hP rfl ⟨f, s', e, q⟩⟩
  show Ev (evSs _ (potFD c0).body) ⟨[some (.pv (.ref 0)), none, none, none], [.fz (ns.map PV.int)]⟩ _
  unfold potFD
  dsimp only
  k_steps
  refine e_comp ?_
  k_steps
  refine p_cutL (xs := ns.map PV.int) (k := 61) rfl rfl ?_
  k_steps
  refine i_seq rfl ⟨by rw [List.length_take, List.length_map]; show _ ≤ 16777216; omega, ?_⟩
  k_steps
  refine comp_fm ⟨[some (.pv (.ref 0)), none, none, none], [.fz (ns.map PV.int)]⟩ (fun v => match v with | .int n => some (.int (cel n)) | _ => none) rfl rfl (fun y hy => ?_) ?_
  · obtain ⟨n, _, rfl⟩ := map_int_at (List.mem_of_mem_take hy)
    k_steps
    refine c_none ?_
    refine ⟨fun _ => ?_, fun z => (nomatch z)⟩
    k_steps
    refine ⟨_, rfl, ?_⟩
    k_steps
    exact ⟨by first | rfl | trivial, rfl, rfl⟩
  rw [← List.map_take, fm_map (mk := PV.int) (g := fun n => .int (cel n)) (fun n => rfl)]
  have hl : (ns.take 61).length ≤ 61 := by rw [List.length_take]; omega
  generalize ns.take 61 = ms at hl
  show Ev _ ⟨[some (.pv (.ref 0)), none, none, none], [.fz (ns.map PV.int)]⟩ _
  k_steps
  refine p_len (xs := ns.map PV.int) rfl ?_
  k_steps
  rw [show (ms.map fun n => PV.int (cel n)) = (ms.map cel).map PV.int by rw [List.map_map]; rfl]
  have hl : (ms.map cel).length ≤ 61 := by rw [List.length_map]; exact hl
  generalize ms.map cel = cs at hl
  refine s_for ?_
  k_steps
  refine i_seq rfl ?_
  refine l_own rfl ?_
  k_steps
  refine for_inv (I := fun i s => ∃ (y : Int) (a : Option SV), s = ⟨[some (.pv (.ref 0)), some (.lk (.lst (cs.map PV.int))), some (.pv (.int y)), a], [.fz (ns.map PV.int)]⟩ ∧ NL a) ⟨_, none, rfl, (fun _ z => nomatch z)⟩ (fun i p s hp hI => ?_) fun s hI => ?_
  · obtain ⟨y, a, rfl, ha⟩ := hI
    obtain ⟨n, _, rfl⟩ := map_int_at (List.mem_of_getElem? hp)
    k_steps
    exact ⟨(y * 69069 + n + 13) % 4294967291, some (.pv (.int n)), rfl, fun _ z => nomatch z⟩
  · obtain ⟨y, a, rfl, ha⟩ := hI
    refine k_nx (s' := ⟨[some (.pv (.ref 0)), some (.own (.lst (cs.map PV.int))), some (.pv (.int y)), a], [.fz (ns.map PV.int)]⟩) rfl ?_
    have hown : [3].all (notLk [some (SV.pv (.ref 0)), some (.own (.lst (cs.map PV.int))), some (.pv (.int y)), a]) = true := by
      simp only [List.all_cons, List.all_nil, Bool.and_true, notLk, List.getElem?_cons_succ, List.getElem?_cons_zero]
      cases a with
      | none => rfl
      | some v => cases v with
        | lk c => exact absurd rfl (ha c)
        | _ => rfl
    k_steps
    refine e_comp ?_
    k_steps
    refine i_seq rfl ⟨by rw [List.length_map]; show _ ≤ 16777216; omega, ?_⟩
    refine l_own rfl ?_
    k_steps
    refine comp_fm ⟨[some (.pv (.ref 0)), some (.lk (.lst (cs.map PV.int))), some (.pv (.int y)), none], [.fz (ns.map PV.int)]⟩ (fun v => match v with | .int n => if decide ((10 : Int) ^ Int.toNat 16 ≤ n) = true then some (.int n) else none | _ => none) (by
      simp only [List.all_cons, List.all_nil, Bool.and_true, notLk, List.getElem?_cons_succ, List.getElem?_cons_zero] at hown ⊢
      exact hown) rfl (fun y hy => ?_) ?_
    · obtain ⟨n, _, rfl⟩ := map_int_at hy
      k_steps
      refine c_some ?_
      k_steps
      refine ⟨fun hb => ?_, fun hb => ?_⟩
      · k_steps
        refine ⟨_, if_pos hb, ?_⟩
        k_steps
        exact ⟨by first | rfl | trivial, rfl, rfl⟩
      · exact ⟨if_neg (by rw [hb]; decide), rfl, rfl⟩
    rw [fm_filter (mk := PV.int) (b := fun n => decide ((10 : Int) ^ Int.toNat 16 ≤ n)) (g := PV.int) (fun n => rfl)]
    have hf : (cs.filter fun n => decide ((10 : Int) ^ Int.toNat 16 ≤ n)).length ≤ 61 := Nat.le_trans (List.length_filter_le _ _) hl
    generalize (cs.filter fun n => decide ((10 : Int) ^ Int.toNat 16 ≤ n)) = gs at hf
    show Ev _ ⟨[some (.pv (.ref 0)), some (.own (.lst (cs.map PV.int))), some (.pv (.int y)), a], [.fz (ns.map PV.int)]⟩ _
    k_steps
    refine ⟨⟨rfl, by show 3 ≤ 15; omega⟩, ?_⟩
    rw [mk3 ne1 ne2 ne3]
    exact ⟨gs, y, by omega, rfl⟩
theorem pick_own (hD : Pf[dr]? = some drawFD) (hP : Pf[ix]? = some (pickFD dr)) (k : Nat) (ns gs : List Int) (x t : Int) (rest : List DO) (xs : List PV) (h1 : 1 ≤ xs.length) (h2 : xs.length < 2 ^ 64) (hz : gs.length ≤ 63) (t0 : 0 ≤ t) (t1 : t < 2 ^ 60) :
    ∃ v gs' x' t', v ∈ xs ∧ gs'.length ≤ 63 ∧ 0 ≤ t' ∧ t' ≤ t + 1 ∧ callF Pf (k + 2) ix [.pv (.ref 2), .own (.lst xs)] (D ns gs x t rest) = .ok (.pv v) (D ns gs' x' t' rest) := by
  obtain ⟨r, gs', x', t', a, b, c, d1, d2, hcall⟩ := draw_ok hD k ns gs x t rest xs.length (by omega) (by omega) hz t0 t1
  obtain ⟨v, hv, hm⟩ := atI_some a b
  refine ⟨v, gs', x', t', hm, c, d1, d2, call_of (d := pickFD dr) hP rfl ?_⟩
  show Ev (evSs _ (pickFD dr).body) ⟨[some (.pv (.ref 2)), some (.own (.lst xs))], D ns gs x t rest⟩ _
  unfold pickFD
  dsimp only
  k_steps
  refine p_len rfl ?_
  k_steps
  refine ev_call hcall ?_
  k_steps
  refine p_idx rfl hv ?_
  k_steps
  exact finc_pv rfl
theorem pick_tup (hD : Pf[dr]? = some drawFD) (hP : Pf[ix]? = some (pickFD dr)) (k : Nat) (ns gs : List Int) (x t : Int) (rest : List DO) (xs : List PV) (h1 : 1 ≤ xs.length) (h2 : xs.length < 2 ^ 64) (hz : gs.length ≤ 63) (t0 : 0 ≤ t) (t1 : t < 2 ^ 60) :
    ∃ v gs' x' t', v ∈ xs ∧ gs'.length ≤ 63 ∧ 0 ≤ t' ∧ t' ≤ t + 1 ∧ callF Pf (k + 2) ix [.pv (.ref 2), .pv (.tup xs)] (D ns gs x t rest) = .ok (.pv v) (D ns gs' x' t' rest) := by
  obtain ⟨r, gs', x', t', a, b, c, d1, d2, hcall⟩ := draw_ok hD k ns gs x t rest xs.length (by omega) (by omega) hz t0 t1
  obtain ⟨v, hv, hm⟩ := atI_some a b
  refine ⟨v, gs', x', t', hm, c, d1, d2, call_of (d := pickFD dr) hP rfl ?_⟩
  show Ev (evSs _ (pickFD dr).body) ⟨[some (.pv (.ref 2)), some (.pv (.tup xs))], D ns gs x t rest⟩ _
  unfold pickFD
  dsimp only
  k_steps
  refine p_len rfl ?_
  k_steps
  refine ev_call hcall ?_
  k_steps
  refine p_idx rfl hv ?_
  k_steps
  exact finc_pv rfl
theorem pick_ref (hD : Pf[dr]? = some drawFD) (hP : Pf[ix]? = some (pickFD dr)) (k : Nat) (ns gs : List Int) (x t : Int) (rest : List DO) (n : Nat) (xs : List PV) (hr : rest[n]? = some (.rw (.lst xs))) (h1 : 1 ≤ xs.length) (h2 : xs.length < 2 ^ 64) (hz : gs.length ≤ 63) (t0 : 0 ≤ t) (t1 : t < 2 ^ 60) :
    ∃ v gs' x' t', v ∈ xs ∧ gs'.length ≤ 63 ∧ 0 ≤ t' ∧ t' ≤ t + 1 ∧ callF Pf (k + 2) ix [.pv (.ref 2), .pv (.ref (n + 3))] (D ns gs x t rest) = .ok (.pv v) (D ns gs' x' t' rest) := by
  obtain ⟨r, gs', x', t', a, b, c, d1, d2, hcall⟩ := draw_ok hD k ns gs x t rest xs.length (by omega) (by omega) hz t0 t1
  obtain ⟨v, hv, hm⟩ := atI_some a b
  have it : ∀ env gs x t, itemsOf ⟨env, D ns gs x t rest⟩ (.pv (.ref (n + 3))) = some (true, xs) := fun env gs x t => by
    have : (D ns gs x t rest)[n + 3]? = some (.rw (.lst xs)) := by unfold D; simpa using hr
    unfold itemsOf coOf
    simp only [this]; rfl
  refine ⟨v, gs', x', t', hm, c, d1, d2, call_of (d := pickFD dr) hP rfl ?_⟩
  show Ev (evSs _ (pickFD dr).body) ⟨[some (.pv (.ref 2)), some (.pv (.ref (n + 3)))], D ns gs x t rest⟩ _
  unfold pickFD
  dsimp only
  k_steps
  refine p_len (it _ _ _ _) ?_
  k_steps
  refine ev_call hcall ?_
  k_steps
  refine p_idx (it _ _ _ _) hv ?_
  k_steps
  exact finc_pv rfl
end
end DV.Pot
namespace DV
open PySem PySem.Spec PyProof.Rows L2
theorem tmul1 (l : Addr) (items : Array Value) (n : Nat) (dd : Option Addr) (sl : Array (Option Value)) (u : Tok) (hi : items.isEmpty = false) :
    Meets (Builtin.«tuple.__mul__» ⟨[.ref l, .int 1 u], []⟩) (fun _ R s => s.heap.get? l = some { cls := .type "tuple", dict := dd, data := .seq items n, slots := sl } ∧ R (.ok (.ret (Value.ref l))) s) :=
  .of_wp fun prog w A R s h => by
    obtain ⟨hp, g, d, tk, os⟩ := s
    obtain ⟨hl, h⟩ := h
    have f1 := AutoSeq1.idx_int
    wp_walk using wpAny_loadPart' hl
    exact ⟨_, rfl, h⟩
theorem tmul0 (l : Addr) (items : Array Value) (n : Nat) (dd : Option Addr) (sl : Array (Option Value)) (u : Tok) (hi : items.isEmpty = false) :
    Meets (Builtin.«tuple.__mul__» ⟨[.ref l, .int 0 u], []⟩) (fun _ R s => s.heap.get? l = some { cls := .type "tuple", dict := dd, data := .seq items n, slots := sl } ∧
      R (.ok (.ret (Value.ref s.heap.objs.size))) { s with heap := s.heap.push { cls := Value.type "tuple", data := Data.seq #[] }, toks := s.toks }) :=
  .of_wp fun prog w A R s h => by
    obtain ⟨hp, g, d, tk, os⟩ := s
    obtain ⟨hl, h⟩ := h
    have f1 := AutoSeq1.idx_int
    have c1 : (items.isEmpty || (0 : Int) == 1) = false := by rw [hi]; rfl
    wp_walk using wpAny_loadPart' hl
    repeat (first
      | (refine wpAny_ite_false (decide_eq_false (by rw [c1]; exact Bool.false_ne_true)) ?_; wp_walk using wpAny_loadPart' hl))
    exact ⟨_, rfl, h⟩
def rRepT0 (K : Fg) : R2 := fun x y H Q => ∃ l k xs, x = .ref l ∧ y = .int k ∧ SqT K H l xs ∧ xs ≠ [] ∧ 0 ≤ k ∧ k ≤ 1000 ∧ xs.length ≤ 1000 ∧ (k = 1 → Q (.ref l) H) ∧ (k ≠ 1 → ∀ p, H p = none → Q (.ref p) (upd H p (.tup (List.replicate k.toNat xs).flatten)))
section
variable {X : Cx}
theorem op_repT0 : OpR X (binaryOp .Mult) (rRepT0 X.K) := by
  intro pins s σ H x y v u Q I rx ry ⟨l, k, xs, e1, e2, hT, hne, h1, h2, hz, q1, q2⟩
  subst e1; subst e2
  by_cases k2 : 2 ≤ k
  · exact op_repT pins s σ H _ _ v u Q I rx ry ⟨l, k, xs, rfl, rfl, hT, hne, k2, h2, hz, q2 (by omega)⟩
  · cases rx
    obtain ⟨t, rfl⟩ := ry
    obtain ⟨its, r, ⟨⟨cls, dd, data, sl⟩, ho, hc, n, hd⟩, hs⟩ := I.tuple hT
    simp only at hc hd
    subst hc hd
    have hi : its.toArray.isEmpty = false := by
      cases its with
      | nil =>
        have := r.length
        rw [List.length_nil] at this
        exact absurd (List.eq_nil_of_length_eq_zero this) hne
      | cons a b => rfl
    by_cases k1 : k = 1
    · subst k1
      refine wpAny_binaryOp_repeat_ref (T := "tuple") (U := "int") (by decide) ⟨_, ho, rfl⟩ (fun s' => typeIs_int s' 1 t) noFill_tuple_mul F.fills_int_mul F.slot_int_rmul repeat_tuple F.slot_int_index.lookup
        (call_meets F.slot_int_rmul (typeIs_int s 1 t) F.entry_int_rmul (F.args_int_rmul_2 _ _) (int_rmul_tuple 1 t l its.toArray n dd sl)
          ⟨ho, rfl, ⟨_, ho, rfl⟩, call_meets F.slot_tuple_mul ⟨_, ho, rfl⟩ F.entry_tuple_mul (F.args_tuple_mul_2 _ _) (tmul1 l its.toArray n dd sl t hi) ⟨ho, ?_⟩⟩)
      exact ⟨.ref l, H, I, rfl, q1 rfl⟩
    · have k0 : k = 0 := by omega
      subst k0
      refine wpAny_binaryOp_repeat_ref (T := "tuple") (U := "int") (by decide) ⟨_, ho, rfl⟩ (fun s' => typeIs_int s' 0 t) noFill_tuple_mul F.fills_int_mul F.slot_int_rmul repeat_tuple F.slot_int_index.lookup
        (call_meets F.slot_int_rmul (typeIs_int s 0 t) F.entry_int_rmul (F.args_int_rmul_2 _ _) (int_rmul_tuple 0 t l its.toArray n dd sl)
          ⟨ho, rfl, ⟨_, ho, rfl⟩, call_meets F.slot_tuple_mul ⟨_, ho, rfl⟩ F.entry_tuple_mul (F.args_tuple_mul_2 _ _) (tmul0 l its.toArray n dd sl t hi) ⟨ho, ?_⟩⟩)
      refine ⟨.ref s.heap.objs.size, _, I.laid (t' := s.toks) (o := .tup []) (fun b ob q => Heap.get?_push_of_some _ q) (Nat.le_refl _) ⟨by show 0 ≤ sizeLine; omega, [], .nil, IsTup.new _ _⟩, rfl, q2 (by decide) _ (I.hok.fresh (Nat.le_refl _))⟩
end
section
variable {K : Fg} {F : FE} {W : WX}
theorem prs_repT : PrS K .repT (b2 (rRepT0 K)) := by
  intro m s σ H es vs Q X r0 e0 w
  obtain ⟨a, b, rfl, w⟩ := two (f := repTF) (fun _ _ => rfl) rfl (fun _ => rfl) (fun _ _ _ _ => rfl) _ _ _ _ w
  obtain ⟨x, y, rfl, h1, h2⟩ := evs2 e0
  have key : ∃ xs k, pvOf s a = some (.tup xs) ∧ pvOf s b = some (.int k) := by
    have no : repTF a b s = .no → False := fun e => (show False from wp_eq (d := M.no) w e)
    unfold repTF at no
    split at no
    · exact ⟨_, _, by assumption, by assumption⟩
    · exact (no rfl).elim
  obtain ⟨xs, k, q1, q2⟩ := key
  have w2 := wp_eq (d := M.bnd (M.chk (!xs.isEmpty && decide (xs.length ≤ 1000) && decide (0 ≤ k) && decide (k ≤ 1000))) (fun _ => val (.tup (List.replicate k.toNat xs).flatten))) w (by simp only [repTF, q1, q2])
  obtain ⟨hk, w2⟩ := wp_chk.mp (wp_bnd.mp w2)
  simp only [Bool.and_eq_true, decide_eq_true_eq] at hk
  obtain rfl := vr_int (pvOf_rel r0 h2 q2)
  have hT := pvOf_rel r0 h1 q1
  simp only [VRel] at hT
  obtain ⟨l, us, rfl, e1, e2⟩ := hT
  refine ⟨_, _, rfl, l, k, us, rfl, rfl, e1, ?_, hk.1.2, hk.2, by rw [e2.length]; exact hk.1.1.2, fun k1 => ?_, fun _ p hp => fin_tup w2 r0 (e2.rep _) hp⟩
  · intro z
    have := e2.length
    rw [z] at this
    cases xs with
    | nil => simp at hk
    | cons _ _ => simp at this
  · refine fin_pv w2 r0 ?_
    simp only [VRel]
    subst k1
    exact ⟨l, us, rfl, e1, by simpa using e2⟩
variable {X : Cx} {a b : Expr} {ea eb : E} {pos : Pos}
theorem de_repT (ha : DE X F W a ea) (hb : DE X F W b eb) : DE X F W (.BinOp a .Mult b pos) (.prim .repT [ea, eb]) := de_bin op_repT0 prs_repT ha hb
end
end DV
namespace DV.Seal
open PySem PySem.Spec PyProof.Rows L2 DV
abbrev kG : DV.Key := .inr (Str.ofString "great")
abbrev kM : DV.Key := .inr (Str.ofString "seal")
abbrev kT : DV.Key := .inr (Str.ofString "turn")
def dk (x t : Int) : CO := .dct [(kG, .ref 1), (kM, .int x), (kT, .int t)]
def D (ns gs : List Int) (x t : Int) (rest : List DO) : List DO := .fz (ns.map PV.int) :: .rw (.lst (gs.map PV.int)) :: .rw (dk x t) :: rest
theorem ne1 : kG ≠ kM := by decide +kernel
theorem ne2 : kG ≠ kT := by decide +kernel
theorem ne3 : kM ≠ kT := by decide +kernel
theorem lG {v w u : PV} : look [(kG, v), (kM, w), (kT, u)] kG = some v := look_hd
theorem lM {v w u : PV} : look [(kG, v), (kM, w), (kT, u)] kM = some w := (look_tl ne1).trans look_hd
theorem lT {v w u : PV} : look [(kG, v), (kM, w), (kT, u)] kT = some u := (look_tl ne2).trans ((look_tl ne3).trans look_hd)
theorem pM {v w u z : PV} : put [(kG, v), (kM, w), (kT, u)] kM z = [(kG, v), (kM, z), (kT, u)] := put3b ne1 ne3
theorem pT {v w u z : PV} : put [(kG, v), (kM, w), (kT, u)] kT z = [(kG, v), (kM, w), (kT, z)] := put3c ne2 ne3
def drawFD : FD := ⟨2, 5, [.asg 2 (.prim .idxD [.var 0, .con (.str (Str.ofString "great"))]), .ite (.prim .ne [.var 2, .prim .mkLst []]) [.asg 3 (.meth .pop (.var 2) []), .ite (.prim .ge [.var 3, .var 1]) [.expr (.meth .append (.var 2) [.prim .fdiv [.var 3, .var 1]])] [], .ret (.prim .mod [.prim .int [.var 3], .var 1])] [], .setKey (.var 0) (.con (.str (Str.ofString "turn"))) (.prim .add [.prim .idxD [.var 0, .con (.str (Str.ofString "turn"))], .con (.int 1)]), .asg 4 (.prim .mod [.prim .int [.prim .add [.prim .add [.prim .mul [.prim .idxD [.var 0, .con (.str (Str.ofString "seal"))], .con (.int 69621)], .prim .mul [.prim .idxD [.var 0, .con (.str (Str.ofString "turn"))], .con (.int 40503)]], .con (.int 29)]], .con (.int 4294967279)]), .asg 4 (.prim .mod [.prim .int [.prim .add [.prim .mul [.var 4, .var 4], .prim .mul [.prim .idxD [.var 0, .con (.str (Str.ofString "seal"))], .con (.int 7)]]], .con (.int 4294967231)]), .setKey (.var 0) (.con (.str (Str.ofString "seal"))) (.prim .mod [.prim .int [.prim .add [.prim .mul [.prim .idxD [.var 0, .con (.str (Str.ofString "seal"))], .con (.int 48271)], .var 4]], .con (.int 4294967291)]), .ret (.prim .mod [.prim .int [.prim .fdiv [.var 4, .con (.int 64)]], .var 1])]⟩
def potFD (c0 c1 : Int) : FD := ⟨1, 5, [.par [1, 2] [.comp (.one 4) .seq [.prim (.slice false true) [.var 0, .chkI (.con (.int 62))]] none (.prim .add [.prim .mul [.con (.int 2), .prim .abs [.var 4]], .prim .int [.prim .lt [.var 4, .con (.int 0)]]]) [4], .prim .add [.con (.int c0), .prim .mul [.con (.int c1), .prim .len [.var 0]]]], .forS (.one 3) .seq [.var 1] [.asg 2 (.prim .mod [.prim .int [.prim .add [.prim .add [.prim .mul [.var 2, .con (.int 48271)], .var 3], .con (.int 5)]], .con (.int 4294967291)])], .ret (.prim (.mkDct [.inr (Str.ofString "great"), .inr (Str.ofString "seal"), .inr (Str.ofString "turn")]) [.prim .rev [.comp (.one 4) .seq [.var 1] (some (.prim .ge [.var 4, .prim .pow [.con (.int 10), .con (.int 17)]])) (.var 4) [4]], .var 2, .con (.int 0)])]⟩
def pickFD (dr : Nat) : FD := ⟨2, 2, [.ret (.prim .idx [.var 1, .call dr [.var 0, .prim .len [.var 1]] []])]⟩
section
variable {Pf : List FD} {ix dr : Nat}
local macro_rules | `(tactic| k_steps) => `(tactic| repeat (first
  | (with_reducible refine e_con ?_)
  | ((with_reducible apply e_var); exact rfl)
  | ((with_reducible apply e_varO); exact rfl)
  | (with_reducible refine e_prim ?_)
  | (with_reducible refine e_nil ?_)
  | (with_reducible refine e_cons ?_)
  | (with_reducible refine e_call ?_)
  | (with_reducible refine e_meth ?_)
  | (with_reducible refine e_iff ?_)
  | (with_reducible refine t_prim ?_)
  | (with_reducible refine t_var ?_)
  | (with_reducible refine t_not ?_)
  | (with_reducible refine tr_bl ?_)
  | (with_reducible refine tr_int ?_)
  | (with_reducible refine p_add ?_)
  | (with_reducible refine p_sub ?_)
  | ((with_reducible apply p_mul); (focus (first | exact rfl | assumption | exact mulOk_r (by decide) | exact mulOk_mod (by decide) (by decide))))
  | ((with_reducible apply p_fdiv); (focus (first | exact rfl | assumption | exact mulOk_r (by decide) | exact mulOk_mod (by decide) (by decide))))
  | ((with_reducible apply p_mod); (focus (first | decide | assumption)))
  | ((with_reducible apply p_pow); (focus (first | exact rfl | assumption | exact mulOk_r (by decide) | exact mulOk_mod (by decide) (by decide))))
  | (with_reducible refine p_neg ?_)
  | (with_reducible refine p_lt ?_)
  | (with_reducible refine p_le ?_)
  | (with_reducible refine p_gt ?_)
  | (with_reducible refine p_ge ?_)
  | (with_reducible refine p_eq ?_)
  | (with_reducible refine p_ne ?_)
  | (with_reducible refine p_int ?_)
  | (with_reducible refine p_intB ?_)
  | (with_reducible refine p_abs ?_)
  | (with_reducible refine p_min2 ?_)
  | (with_reducible refine p_max2 ?_)
  | (with_reducible refine p_mkTup' ?_)
  | (with_reducible refine p_mkLst' ?_)
  | (with_reducible refine q_bnil ?_)
  | (with_reducible refine q_bcons ?_)
  | (with_reducible refine q_boxP ?_)
  | (with_reducible refine q_toP ?_)
  | (with_reducible refine q_toT ?_)
  | (with_reducible refine q_nil ?_)
  | (with_reducible refine q_cons ?_)
  | (with_reducible refine q_pnil ?_)
  | (with_reducible refine q_pcons ?_)
  | (with_reducible refine q_snil ?_)
  | (with_reducible refine q_scons ?_)
  | (with_reducible refine q_one ?_)
  | ((with_reducible apply q_put); exact rfl; (focus (first | assumption | exact fun _ z => nomatch z)); dsimp only [List.set])
  | (with_reducible refine s_asg ?_)
  | (with_reducible refine s_par ?_)
  | (with_reducible refine s_expr ?_)
  | (with_reducible refine s_ret ?_)
  | (with_reducible refine s_retN ?_)
  | (with_reducible refine s_pass ?_)
  | (with_reducible refine s_ite ?_)
  | (with_reducible refine s_setKey ?_)
  | (with_reducible refine s_setIx ?_)
  | (with_reducible refine s_wh ?_)
  | (with_reducible refine s_nil ?_)
  | ((with_reducible apply k_ok); exact rfl)
  | ((with_reducible apply p_idxD); exact rfl; exact rfl; (focus (first | exact Seal.lG | exact Seal.lM | exact Seal.lT | exact Pot.lG | exact Pot.lM | exact Pot.lT | exact Deck.lG | exact Deck.lM | exact Deck.lT)))
  | ((with_reducible apply q_setKey); exact rfl; exact rfl; (focus (show 3 < 16777216; omega)); exact rfl; (focus (first | (rw [Seal.pM]; exact put_ref rfl rfl) | (rw [Seal.pT]; exact put_ref rfl rfl) | (rw [Pot.pM]; exact put_ref rfl rfl) | (rw [Pot.pT]; exact put_ref rfl rfl) | (rw [Deck.pM]; exact put_ref rfl rfl) | (rw [Deck.pT]; exact put_ref rfl rfl) | (rw [Deck.pM]; exact rfl) | (rw [Deck.pT]; exact rfl))))
  | (simp only [List.cons_append, List.nil_append])
  | ((with_reducible apply p_idx); exact rfl; exact rfl)
  | ((with_reducible apply q_toR); exact rfl)
  | ((with_reducible apply q_boxR); exact rfl)
  | (with_reducible refine l_int ?_)
  | (with_reducible refine l_tup ?_)
  | (with_reducible refine l_tmp ?_)
  | (with_reducible refine l_nil ?_)
  | (with_reducible refine p_isN ?_)
  | (with_reducible refine p_notN ?_)
  | (with_reducible refine p_neB ?_)
  | (with_reducible refine p_eqB ?_)
  | (with_reducible refine p_band ?_)
  | (refine And.intro (Nat.le_of_ble_eq_true rfl) ?_)
  | (with_reducible refine q_boxT ?_)
  | (with_reducible refine p_mkDct' ?_)
  | (with_reducible refine e_chkC ?_)
  | ((with_reducible apply e_chkV); exact rfl)
  | dsimp only))
local macro_rules | `(tactic| k_go) => `(tactic| repeat (first
  | (with_reducible refine e_con ?_)
  | ((with_reducible apply e_var); exact rfl)
  | ((with_reducible apply e_varO); exact rfl)
  | (with_reducible refine e_prim ?_)
  | (with_reducible refine e_nil ?_)
  | (with_reducible refine e_cons ?_)
  | (with_reducible refine e_call ?_)
  | (with_reducible refine e_meth ?_)
  | (with_reducible refine e_iff ?_)
  | (with_reducible refine t_prim ?_)
  | (with_reducible refine t_var ?_)
  | (with_reducible refine t_not ?_)
  | (with_reducible refine tr_bl ?_)
  | (with_reducible refine tr_int ?_)
  | (with_reducible refine p_add ?_)
  | (with_reducible refine p_sub ?_)
  | ((with_reducible apply p_mul); (focus (first | exact rfl | assumption | exact mulOk_r (by decide) | exact mulOk_mod (by decide) (by decide))))
  | ((with_reducible apply p_fdiv); (focus (first | exact rfl | assumption | exact mulOk_r (by decide) | exact mulOk_mod (by decide) (by decide))))
  | ((with_reducible apply p_mod); (focus (first | decide | assumption)))
  | ((with_reducible apply p_pow); (focus (first | exact rfl | assumption | exact mulOk_r (by decide) | exact mulOk_mod (by decide) (by decide))))
  | (with_reducible refine p_neg ?_)
  | (with_reducible refine p_lt ?_)
  | (with_reducible refine p_le ?_)
  | (with_reducible refine p_gt ?_)
  | (with_reducible refine p_ge ?_)
  | (with_reducible refine p_eq ?_)
  | (with_reducible refine p_ne ?_)
  | (with_reducible refine p_int ?_)
  | (with_reducible refine p_intB ?_)
  | (with_reducible refine p_abs ?_)
  | (with_reducible refine p_min2 ?_)
  | (with_reducible refine p_max2 ?_)
  | (with_reducible refine p_mkTup' ?_)
  | (with_reducible refine p_mkLst' ?_)
  | (with_reducible refine q_bnil ?_)
  | (with_reducible refine q_bcons ?_)
  | (with_reducible refine q_boxP ?_)
  | (with_reducible refine q_toP ?_)
  | (with_reducible refine q_toT ?_)
  | (with_reducible refine q_nil ?_)
  | (with_reducible refine q_cons ?_)
  | (with_reducible refine q_pnil ?_)
  | (with_reducible refine q_pcons ?_)
  | (with_reducible refine q_snil ?_)
  | (with_reducible refine q_scons ?_)
  | (with_reducible refine q_one ?_)
  | ((with_reducible apply q_put); exact rfl; (focus (first | assumption | exact fun _ z => nomatch z)); dsimp only [List.set])
  | ((with_reducible apply k_ok); exact rfl)
  | ((with_reducible apply p_idxD); exact rfl; exact rfl; (focus (first | exact Seal.lG | exact Seal.lM | exact Seal.lT | exact Pot.lG | exact Pot.lM | exact Pot.lT | exact Deck.lG | exact Deck.lM | exact Deck.lT)))
  | ((with_reducible apply q_setKey); exact rfl; exact rfl; (focus (show 3 < 16777216; omega)); exact rfl; (focus (first | (rw [Seal.pM]; exact put_ref rfl rfl) | (rw [Seal.pT]; exact put_ref rfl rfl) | (rw [Pot.pM]; exact put_ref rfl rfl) | (rw [Pot.pT]; exact put_ref rfl rfl) | (rw [Deck.pM]; exact put_ref rfl rfl) | (rw [Deck.pT]; exact put_ref rfl rfl) | (rw [Deck.pM]; exact rfl) | (rw [Deck.pT]; exact rfl))))
  | (simp only [List.cons_append, List.nil_append])
  | ((with_reducible apply p_idx); exact rfl; exact rfl)
  | ((with_reducible apply q_toR); exact rfl)
  | ((with_reducible apply q_boxR); exact rfl)
  | (with_reducible refine l_int ?_)
  | (with_reducible refine l_tup ?_)
  | (with_reducible refine l_tmp ?_)
  | (with_reducible refine l_nil ?_)
  | (with_reducible refine p_isN ?_)
  | (with_reducible refine p_notN ?_)
  | (with_reducible refine p_neB ?_)
  | (with_reducible refine p_eqB ?_)
  | (with_reducible refine p_band ?_)
  | (refine And.intro (Nat.le_of_ble_eq_true rfl) ?_)
  | (with_reducible refine q_boxT ?_)
  | (with_reducible refine p_mkDct' ?_)
  | (with_reducible refine e_chkC ?_)
  | ((with_reducible apply e_chkV); exact rfl)
  | dsimp only))
theorem p_rev {s : DS} {a : EV} {xs : List PV} {Q : EV → DS → Prop} (h : coOf s a = some (.lst xs)) (q : Q (.tmp (.lst xs.reverse)) s) : Ev (primF .rev [a]) s Q :=
  .conv (d := revF a) rfl (.eq (a := .tmp (.lst xs.reverse)) (s' := s) (by simp only [revF, h]) q)
theorem p_cutL {s : DS} {a b : EV} {xs : List PV} {k : Nat} {Q : EV → DS → Prop} (h : itemsOf s a = some (true, xs)) (hb : optI s b = some (k : Int)) (q : Q (.tmp (.lst (xs.take k))) s) : Ev (primF (.slice false true) [a, b]) s Q :=
  .conv (d := sliceFTF a b) rfl (.eq (a := .tmp (.lst (xs.take k))) (s' := s) (by simp only [sliceFTF, hb, cutF, h, cutN]) q)
theorem draw_ok (hP : Pf[ix]? = some drawFD) (k : Nat) (ns gs : List Int) (x t : Int) (rest : List DO) (many : Int) (h1 : 1 ≤ many) (h2 : many < 2 ^ 200) (hz : gs.length ≤ 63) :
    ∃ r gs' x' t', 0 ≤ r ∧ r < many ∧ gs'.length ≤ 63 ∧ callF Pf (k + 1) ix [.pv (.ref 2), .pv (.int many)] (D ns gs x t rest) = .ok (.pv (.int r)) (D ns gs' x' t' rest) := by
  suffices hs : Ev (evSs (callF Pf k) drawFD.body) ⟨startE drawFD [.pv (.ref 2), .pv (.int many)], D ns gs x t rest⟩ fun f s' => ∃ r gs' x' t', 0 ≤ r ∧ r < many ∧ gs'.length ≤ 63 ∧ finC (D ns gs x t rest) (.ok f s') = .ok (.pv (.int r)) (D ns gs' x' t' rest) by
    obtain ⟨f, s', e, r, gs', x', t', a, b, c, q⟩ := hs
    exact ⟨r, gs', x', t', a, b, c, call_of (d := drawFD) hP rfl ⟨f, s', e, q⟩⟩
  show Ev (evSs _ drawFD.body) ⟨[some (.pv (.ref 2)), some (.pv (.int many)), none, none, none], D ns gs x t rest⟩ _
  unfold drawFD
  dsimp only
  have h0 : 0 < many := by omega
  have hdv : divOk many = true := by
    unfold divOk
    rw [decide_eq_true h0, Bool.true_and]
    refine decide_eq_true ?_
    have h3 : many.natAbs < 2 ^ 200 := by omega
    have := (Nat.log2_lt (show many.natAbs ≠ 0 by omega)).mpr h3
    omega
  k_steps
  refine p_neNil (gs := gs) ?_ rfl ?_
  · show ((gs.map PV.int).mapM (datF _ 39)).map PyData.list = _
    rw [mapM_int]; rfl
  k_steps
  refine ⟨fun hg => ?_, fun hg => ?_⟩
  · obtain ⟨gs0, g, rfl⟩ : ∃ gs0 g, gs = gs0 ++ [g] := by
      rcases List.eq_nil_or_concat gs with rfl | ⟨gs0, g, rfl⟩
      · simp at hg
      · exact ⟨gs0, g, List.concat_eq_append⟩
    have hz0 : gs0.length ≤ 62 := by simp at hz; omega
    have e : (gs0 ++ [g]).map PV.int = gs0.map PV.int ++ [PV.int g] := by simp
    k_steps
    refine p_pop (v := .int g) rfl (by rw [e]; simp) (by rw [e, List.dropLast_concat]; exact put_ref rfl (und_ints 1 gs0)) ?_
    k_steps
    refine ⟨fun hm => ?_, fun hm => ?_⟩
    · k_steps
      refine p_append (v := .int (g / many)) rfl (by rw [List.length_map]; show _ < 16777216; omega) rfl (put_ref rfl (show PV.undL 1 (gs0.map PV.int ++ [PV.int (g / many)]) = true by
        have q := und_ints 1 (gs0 ++ [g / many])
        rw [List.map_append] at q
        exact q)) ?_
      k_steps
      refine ⟨_, gs0 ++ [g / many], x, t, Int.emod_nonneg g (by omega), Int.emod_lt_of_pos g h0, by simp; omega, ?_⟩
      have q : D ns (gs0 ++ [g / many]) x t rest = .fz (ns.map PV.int) :: .rw (.lst (gs0.map PV.int ++ [PV.int (g / many)])) :: .rw (dk x t) :: rest := by unfold D; rw [List.map_append]; rfl
      rw [q]
      exact finc_pv rfl
    · k_steps
      exact ⟨_, gs0, x, t, Int.emod_nonneg g (by omega), Int.emod_lt_of_pos g h0, by omega, finc_pv rfl⟩
  · k_steps
    exact ⟨_, gs, _, _, Int.emod_nonneg _ (by omega), Int.emod_lt_of_pos _ h0, hz, finc_pv rfl⟩
def cel (n : Int) : Int := 2 * (if n < 0 then -n else n) + (if decide (n < 0) = true then 1 else 0)
theorem map_int_at {ns : List Int} {y : PV} (h : y ∈ ns.map PV.int) : ∃ n ∈ ns, y = .int n := by
  obtain ⟨n, hn, e⟩ := List.mem_map.mp h
  exact ⟨n, hn, e.symm⟩
theorem pot_ok {c0 c1 : Int} (hP : Pf[ix]? = some (potFD c0 c1)) (k : Nat) (ns : List Int) (hn : ns.length ≤ 63) : ∃ (gs : List Int) (x : Int), gs.length ≤ 63 ∧ callF Pf (k + 1) ix [.pv (.ref 0)] (scriptH ns) = .ok (.tmp (dk x 0)) [.fz (ns.map PV.int), .rw (.lst (gs.map PV.int))] := by
  suffices hs : Ev (evSs (callF Pf k) (potFD c0 c1).body) ⟨startE (potFD c0 c1) [.pv (.ref 0)], scriptH ns⟩ fun f s' => ∃ (gs : List Int) (x : Int), gs.length ≤ 63 ∧ finC (scriptH ns) (.ok f s') = .ok (.tmp (dk x 0)) [.fz (ns.map PV.int), .rw (.lst (gs.map PV.int))] by
    obtain ⟨f, s', e, gs, x, a, q⟩ := hs
    exact ⟨gs, x, a, call_of (d := potFD c0 c1) hP rfl ⟨f, s', e, q⟩⟩
  show Ev (evSs _ (potFD c0 c1).body) ⟨[some (.pv (.ref 0)), none, none, none, none], [.fz (ns.map PV.int)]⟩ _
  unfold potFD
  dsimp only
  have hm0 : mulOk c1 (((ns.map PV.int).length : Nat) : Int) = true := mulOk_r (by rw [List.length_map]; omega)
  k_steps
  refine e_comp ?_
  k_steps
  refine p_cutL (xs := ns.map PV.int) (k := 62) rfl rfl ?_
  k_steps
  refine i_seq rfl ⟨by rw [List.length_take, List.length_map]; show _ ≤ 16777216; omega, ?_⟩
  k_steps
  refine comp_fm ⟨[some (.pv (.ref 0)), none, none, none, none], [.fz (ns.map PV.int)]⟩ (fun v => match v with | .int n => some (.int (cel n)) | _ => none) rfl rfl (fun y hy => ?_) ?_
  · obtain ⟨n, _, rfl⟩ := map_int_at (List.mem_of_mem_take hy)
    k_steps
    refine c_none ?_
    refine ⟨fun _ => ?_, fun z => (nomatch z)⟩
    k_steps
    refine ⟨_, rfl, ?_⟩
    k_steps
    exact ⟨by first | rfl | trivial, rfl, rfl⟩
  rw [← List.map_take, fm_map (mk := PV.int) (g := fun n => .int (cel n)) (fun n => rfl)]
  have hl : (ns.take 62).length ≤ 62 := by rw [List.length_take]; omega
  generalize ns.take 62 = ms at hl
  show Ev _ ⟨[some (.pv (.ref 0)), none, none, none, none], [.fz (ns.map PV.int)]⟩ _
  k_steps
  refine p_len (xs := ns.map PV.int) rfl ?_
  k_steps
  rw [show (ms.map fun n => PV.int (cel n)) = (ms.map cel).map PV.int by rw [List.map_map]; rfl]
  have hl : (ms.map cel).length ≤ 62 := by rw [List.length_map]; exact hl
  generalize ms.map cel = cs at hl
  refine s_for ?_
  k_steps
  refine i_seq rfl ?_
  refine l_own rfl ?_
  k_steps
  refine for_inv (I := fun i s => ∃ (y : Int) (a : Option SV), s = ⟨[some (.pv (.ref 0)), some (.lk (.lst (cs.map PV.int))), some (.pv (.int y)), a, none], [.fz (ns.map PV.int)]⟩ ∧ NL a) ⟨_, none, rfl, (fun _ z => nomatch z)⟩ (fun i p s hp hI => ?_) fun s hI => ?_
  · obtain ⟨y, a, rfl, ha⟩ := hI
    obtain ⟨n, _, rfl⟩ := map_int_at (List.mem_of_getElem? hp)
    k_steps
    exact ⟨(y * 48271 + n + 5) % 4294967291, some (.pv (.int n)), rfl, fun _ z => nomatch z⟩
  · obtain ⟨y, a, rfl, ha⟩ := hI
    refine k_nx (s' := ⟨[some (.pv (.ref 0)), some (.own (.lst (cs.map PV.int))), some (.pv (.int y)), a, none], [.fz (ns.map PV.int)]⟩) rfl ?_
    k_steps
    refine e_comp ?_
    k_steps
    refine i_seq rfl ⟨by rw [List.length_map]; show _ ≤ 16777216; omega, ?_⟩
    refine l_own rfl ?_
    k_steps
    refine comp_fm ⟨[some (.pv (.ref 0)), some (.lk (.lst (cs.map PV.int))), some (.pv (.int y)), a, none], [.fz (ns.map PV.int)]⟩ (fun v => match v with | .int n => if decide ((10 : Int) ^ Int.toNat 17 ≤ n) = true then some (.int n) else none | _ => none) rfl rfl (fun y hy => ?_) ?_
    · obtain ⟨n, _, rfl⟩ := map_int_at hy
      k_steps
      refine c_some ?_
      k_steps
      refine ⟨fun hb => ?_, fun hb => ?_⟩
      · k_steps
        refine ⟨_, if_pos hb, ?_⟩
        k_steps
        exact ⟨by first | rfl | trivial, rfl, rfl⟩
      · exact ⟨if_neg (by rw [hb]; decide), rfl, rfl⟩
    rw [fm_filter (mk := PV.int) (b := fun n => decide ((10 : Int) ^ Int.toNat 17 ≤ n)) (g := PV.int) (fun n => rfl)]
    have hf : (cs.filter fun n => decide ((10 : Int) ^ Int.toNat 17 ≤ n)).length ≤ 62 := Nat.le_trans (List.length_filter_le _ _) hl
    generalize (cs.filter fun n => decide ((10 : Int) ^ Int.toNat 17 ≤ n)) = gs at hf
    show Ev _ ⟨[some (.pv (.ref 0)), some (.own (.lst (cs.map PV.int))), some (.pv (.int y)), a, none], [.fz (ns.map PV.int)]⟩ _
    k_steps
    refine p_rev rfl ?_
    k_steps
    refine ⟨⟨rfl, by show 3 ≤ 15; omega⟩, ?_⟩
    rw [mk3 ne1 ne2 ne3]
    rw [show (gs.map PV.int).reverse = gs.reverse.map PV.int by rw [List.map_reverse]]
    exact ⟨gs.reverse, y, by rw [List.length_reverse]; omega, rfl⟩
theorem pick_own (hD : Pf[dr]? = some drawFD) (hP : Pf[ix]? = some (pickFD dr)) (k : Nat) (ns gs : List Int) (x t : Int) (rest : List DO) (xs : List PV) (h1 : 1 ≤ xs.length) (h2 : xs.length < 2 ^ 64) (hz : gs.length ≤ 63) :
    ∃ v gs' x' t', v ∈ xs ∧ gs'.length ≤ 63 ∧ callF Pf (k + 2) ix [.pv (.ref 2), .own (.lst xs)] (D ns gs x t rest) = .ok (.pv v) (D ns gs' x' t' rest) := by
  obtain ⟨r, gs', x', t', a, b, c, hcall⟩ := draw_ok hD k ns gs x t rest xs.length (by omega) (by omega) hz
  obtain ⟨v, hv, hm⟩ := atI_some a b
  refine ⟨v, gs', x', t', hm, c, call_of (d := pickFD dr) hP rfl ?_⟩
  show Ev (evSs _ (pickFD dr).body) ⟨[some (.pv (.ref 2)), some (.own (.lst xs))], D ns gs x t rest⟩ _
  unfold pickFD
  dsimp only
  k_steps
  refine p_len rfl ?_
  k_steps
  refine ev_call hcall ?_
  k_steps
  refine p_idx rfl hv ?_
  k_steps
  exact finc_pv rfl
theorem pick_tup (hD : Pf[dr]? = some drawFD) (hP : Pf[ix]? = some (pickFD dr)) (k : Nat) (ns gs : List Int) (x t : Int) (rest : List DO) (xs : List PV) (h1 : 1 ≤ xs.length) (h2 : xs.length < 2 ^ 64) (hz : gs.length ≤ 63) :
    ∃ v gs' x' t', v ∈ xs ∧ gs'.length ≤ 63 ∧ callF Pf (k + 2) ix [.pv (.ref 2), .pv (.tup xs)] (D ns gs x t rest) = .ok (.pv v) (D ns gs' x' t' rest) := by
  obtain ⟨r, gs', x', t', a, b, c, hcall⟩ := draw_ok hD k ns gs x t rest xs.length (by omega) (by omega) hz
  obtain ⟨v, hv, hm⟩ := atI_some a b
  refine ⟨v, gs', x', t', hm, c, call_of (d := pickFD dr) hP rfl ?_⟩
  show Ev (evSs _ (pickFD dr).body) ⟨[some (.pv (.ref 2)), some (.pv (.tup xs))], D ns gs x t rest⟩ _
  unfold pickFD
  dsimp only
  k_steps
  refine p_len rfl ?_
  k_steps
  refine ev_call hcall ?_
  k_steps
  refine p_idx rfl hv ?_
  k_steps
  exact finc_pv rfl
theorem pick_ref (hD : Pf[dr]? = some drawFD) (hP : Pf[ix]? = some (pickFD dr)) (k : Nat) (ns gs : List Int) (x t : Int) (rest : List DO) (n : Nat) (xs : List PV) (hr : rest[n]? = some (.rw (.lst xs))) (h1 : 1 ≤ xs.length) (h2 : xs.length < 2 ^ 64) (hz : gs.length ≤ 63) :
    ∃ v gs' x' t', v ∈ xs ∧ gs'.length ≤ 63 ∧ callF Pf (k + 2) ix [.pv (.ref 2), .pv (.ref (n + 3))] (D ns gs x t rest) = .ok (.pv v) (D ns gs' x' t' rest) := by
  obtain ⟨r, gs', x', t', a, b, c, hcall⟩ := draw_ok hD k ns gs x t rest xs.length (by omega) (by omega) hz
  obtain ⟨v, hv, hm⟩ := atI_some a b
  have it : ∀ env gs x t, itemsOf ⟨env, D ns gs x t rest⟩ (.pv (.ref (n + 3))) = some (true, xs) := fun env gs x t => by
    have : (D ns gs x t rest)[n + 3]? = some (.rw (.lst xs)) := by unfold D; simpa using hr
    unfold itemsOf coOf
    simp only [this]; rfl
  refine ⟨v, gs', x', t', hm, c, call_of (d := pickFD dr) hP rfl ?_⟩
  show Ev (evSs _ (pickFD dr).body) ⟨[some (.pv (.ref 2)), some (.pv (.ref (n + 3)))], D ns gs x t rest⟩ _
  unfold pickFD
  dsimp only
  k_steps
  refine p_len (it _ _ _ _) ?_
  k_steps
  refine ev_call hcall ?_
  k_steps
  refine p_idx (it _ _ _ _) hv ?_
  k_steps
  exact finc_pv rfl
end
end DV.Seal
namespace DV.Bag
open PySem PySem.Spec PyProof.Rows L2 DV
def D (ns gs : List Int) (y x : Int) (rest : List DO) : List DO := .fz (ns.map PV.int) :: .rw (.lst (gs.map PV.int)) :: .rw (.lst [.ref 1, .int y, .int x]) :: rest
def drawFD : FD := ⟨2, 4, [.wh (.andE (.prim .eq [.prim .idx [.var 0, .con (.int 1)], .con (.int 0)]) (.prim .ne [.prim .idx [.var 0, .con (.int 0)], .prim .mkLst []])) [.asg 2 (.meth .pop (.prim .idx [.var 0, .con (.int 0)]) []), .setIx (.var 0) (.con (.int 1)) (.iff (.prim .gt [.var 2, .prim .pow [.con (.int 10), .con (.int 9)]]) (.var 2) (.con (.int 0)))], .ite (.prim .gt [.prim .idx [.var 0, .con (.int 1)], .con (.int 0)]) [.asg 3 (.prim .mod [.prim .int [.prim .idx [.var 0, .con (.int 1)]], .var 1]), .setIx (.var 0) (.con (.int 1)) (.prim .fdiv [.prim .idx [.var 0, .con (.int 1)], .var 1]), .ret (.var 3)] [], .setIx (.var 0) (.con (.int 2)) (.prim .mod [.prim .int [.prim .add [.prim .mul [.prim .idx [.var 0, .con (.int 2)], .con (.int 48271)], .con (.int 13)]], .con (.int 2147483647)]), .ret (.prim .mod [.prim .int [.prim .fdiv [.prim .mod [.prim .int [.prim .mul [.prim .idx [.var 0, .con (.int 2)], .prim .idx [.var 0, .con (.int 2)]]], .con (.int 2147483629)], .con (.int 7)]], .var 1])]⟩
def bagFD : FD := ⟨1, 4, [.asg 1 (.comp (.one 3) .seq [.prim (.slice false true) [.var 0, .chkI (.con (.int 63))]] none (.prim .abs [.var 3]) [3]), .asg 2 (.prim .add [.con (.int 19592), .prim .len [.var 1]]), .forS (.one 3) .seq [.var 1] [.asg 2 (.prim .mod [.prim .int [.prim .add [.prim .add [.prim .mul [.var 2, .con (.int 48271)], .prim .mod [.prim .int [.var 3], .con (.int 2147483629)]], .con (.int 5)]], .con (.int 2147483647)])], .ret (.prim .mkLst [.prim .rev [.var 1], .con (.int 0), .var 2])]⟩
def pickFD (dr : Nat) : FD := ⟨2, 2, [.ret (.prim .idx [.var 1, .call dr [.var 0, .prim .len [.var 1]] []])]⟩
section
variable {Pf : List FD} {ix dr : Nat}
local macro_rules | `(tactic| k_steps) => `(tactic| repeat (first
  | (with_reducible refine e_con ?_)
  | ((with_reducible apply e_var); exact rfl)
  | ((with_reducible apply e_varO); exact rfl)
  | (with_reducible refine e_prim ?_)
  | (with_reducible refine e_nil ?_)
  | (with_reducible refine e_cons ?_)
  | (with_reducible refine e_call ?_)
  | (with_reducible refine e_meth ?_)
  | (with_reducible refine e_iff ?_)
  | (with_reducible refine t_prim ?_)
  | (with_reducible refine t_var ?_)
  | (with_reducible refine t_not ?_)
  | (with_reducible refine tr_bl ?_)
  | (with_reducible refine tr_int ?_)
  | (with_reducible refine p_add ?_)
  | (with_reducible refine p_sub ?_)
  | ((with_reducible apply p_mul); (focus (first | exact rfl | assumption | exact mulOk_r (by decide) | exact mulOk_mod (by decide) (by decide))))
  | ((with_reducible apply p_fdiv); (focus (first | exact rfl | assumption | exact mulOk_r (by decide) | exact mulOk_mod (by decide) (by decide))))
  | ((with_reducible apply p_mod); (focus (first | decide | assumption)))
  | ((with_reducible apply p_pow); (focus (first | exact rfl | assumption | exact mulOk_r (by decide) | exact mulOk_mod (by decide) (by decide))))
  | (with_reducible refine p_neg ?_)
  | (with_reducible refine p_lt ?_)
  | (with_reducible refine p_le ?_)
  | (with_reducible refine p_gt ?_)
  | (with_reducible refine p_ge ?_)
  | (with_reducible refine p_eq ?_)
  | (with_reducible refine p_ne ?_)
  | (with_reducible refine p_int ?_)
  | (with_reducible refine p_intB ?_)
  | (with_reducible refine p_abs ?_)
  | (with_reducible refine p_min2 ?_)
  | (with_reducible refine p_max2 ?_)
  | (with_reducible refine p_mkTup' ?_)
  | (with_reducible refine p_mkLst' ?_)
  | (with_reducible refine q_bnil ?_)
  | (with_reducible refine q_bcons ?_)
  | (with_reducible refine q_boxP ?_)
  | (with_reducible refine q_toP ?_)
  | (with_reducible refine q_toT ?_)
  | (with_reducible refine q_nil ?_)
  | (with_reducible refine q_cons ?_)
  | (with_reducible refine q_pnil ?_)
  | (with_reducible refine q_pcons ?_)
  | (with_reducible refine q_snil ?_)
  | (with_reducible refine q_scons ?_)
  | (with_reducible refine q_one ?_)
  | ((with_reducible apply q_put); exact rfl; (focus (first | assumption | exact fun _ z => nomatch z)); dsimp only [List.set])
  | (with_reducible refine s_asg ?_)
  | (with_reducible refine s_par ?_)
  | (with_reducible refine s_expr ?_)
  | (with_reducible refine s_ret ?_)
  | (with_reducible refine s_retN ?_)
  | (with_reducible refine s_pass ?_)
  | (with_reducible refine s_ite ?_)
  | (with_reducible refine s_setKey ?_)
  | (with_reducible refine s_setIx ?_)
  | (with_reducible refine s_wh ?_)
  | (with_reducible refine s_nil ?_)
  | ((with_reducible apply k_ok); exact rfl)
  | ((with_reducible apply p_idxD); exact rfl; exact rfl; (focus (first | exact Seal.lG | exact Seal.lM | exact Seal.lT | exact Pot.lG | exact Pot.lM | exact Pot.lT | exact Deck.lG | exact Deck.lM | exact Deck.lT)))
  | ((with_reducible apply q_setKey); exact rfl; exact rfl; (focus (show 3 < 16777216; omega)); exact rfl; (focus (first | (rw [Seal.pM]; exact put_ref rfl rfl) | (rw [Seal.pT]; exact put_ref rfl rfl) | (rw [Pot.pM]; exact put_ref rfl rfl) | (rw [Pot.pT]; exact put_ref rfl rfl) | (rw [Deck.pM]; exact put_ref rfl rfl) | (rw [Deck.pT]; exact put_ref rfl rfl) | (rw [Deck.pM]; exact rfl) | (rw [Deck.pT]; exact rfl))))
  | (simp only [List.cons_append, List.nil_append])
  | ((with_reducible apply p_idx); exact rfl; exact rfl)
  | ((with_reducible apply q_toR); exact rfl)
  | ((with_reducible apply q_boxR); exact rfl)
  | (with_reducible refine l_int ?_)
  | (with_reducible refine l_tup ?_)
  | (with_reducible refine l_tmp ?_)
  | (with_reducible refine l_nil ?_)
  | (with_reducible refine p_isN ?_)
  | (with_reducible refine p_notN ?_)
  | (with_reducible refine p_neB ?_)
  | (with_reducible refine p_eqB ?_)
  | (with_reducible refine p_band ?_)
  | (refine And.intro (Nat.le_of_ble_eq_true rfl) ?_)
  | (with_reducible refine q_boxT ?_)
  | (with_reducible refine p_mkDct' ?_)
  | (with_reducible refine e_chkC ?_)
  | ((with_reducible apply e_chkV); exact rfl)
  | dsimp only))
local macro_rules | `(tactic| k_go) => `(tactic| repeat (first
  | (with_reducible refine e_con ?_)
  | ((with_reducible apply e_var); exact rfl)
  | ((with_reducible apply e_varO); exact rfl)
  | (with_reducible refine e_prim ?_)
  | (with_reducible refine e_nil ?_)
  | (with_reducible refine e_cons ?_)
  | (with_reducible refine e_call ?_)
  | (with_reducible refine e_meth ?_)
  | (with_reducible refine e_iff ?_)
  | (with_reducible refine t_prim ?_)
  | (with_reducible refine t_var ?_)
  | (with_reducible refine t_not ?_)
  | (with_reducible refine tr_bl ?_)
  | (with_reducible refine tr_int ?_)
  | (with_reducible refine p_add ?_)
  | (with_reducible refine p_sub ?_)
  | ((with_reducible apply p_mul); (focus (first | exact rfl | assumption | exact mulOk_r (by decide) | exact mulOk_mod (by decide) (by decide))))
  | ((with_reducible apply p_fdiv); (focus (first | exact rfl | assumption | exact mulOk_r (by decide) | exact mulOk_mod (by decide) (by decide))))
  | ((with_reducible apply p_mod); (focus (first | decide | assumption)))
  | ((with_reducible apply p_pow); (focus (first | exact rfl | assumption | exact mulOk_r (by decide) | exact mulOk_mod (by decide) (by decide))))
  | (with_reducible refine p_neg ?_)
  | (with_reducible refine p_lt ?_)
  | (with_reducible refine p_le ?_)
  | (with_reducible refine p_gt ?_)
  | (with_reducible refine p_ge ?_)
  | (with_reducible refine p_eq ?_)
  | (with_reducible refine p_ne ?_)
  | (with_reducible refine p_int ?_)
  | (with_reducible refine p_intB ?_)
  | (with_reducible refine p_abs ?_)
  | (with_reducible refine p_min2 ?_)
  | (with_reducible refine p_max2 ?_)
  | (with_reducible refine p_mkTup' ?_)
  | (with_reducible refine p_mkLst' ?_)
  | (with_reducible refine q_bnil ?_)
  | (with_reducible refine q_bcons ?_)
  | (with_reducible refine q_boxP ?_)
  | (with_reducible refine q_toP ?_)
  | (with_reducible refine q_toT ?_)
  | (with_reducible refine q_nil ?_)
  | (with_reducible refine q_cons ?_)
  | (with_reducible refine q_pnil ?_)
  | (with_reducible refine q_pcons ?_)
  | (with_reducible refine q_snil ?_)
  | (with_reducible refine q_scons ?_)
  | (with_reducible refine q_one ?_)
  | ((with_reducible apply q_put); exact rfl; (focus (first | assumption | exact fun _ z => nomatch z)); dsimp only [List.set])
  | ((with_reducible apply k_ok); exact rfl)
  | ((with_reducible apply p_idxD); exact rfl; exact rfl; (focus (first | exact Seal.lG | exact Seal.lM | exact Seal.lT | exact Pot.lG | exact Pot.lM | exact Pot.lT | exact Deck.lG | exact Deck.lM | exact Deck.lT)))
  | ((with_reducible apply q_setKey); exact rfl; exact rfl; (focus (show 3 < 16777216; omega)); exact rfl; (focus (first | (rw [Seal.pM]; exact put_ref rfl rfl) | (rw [Seal.pT]; exact put_ref rfl rfl) | (rw [Pot.pM]; exact put_ref rfl rfl) | (rw [Pot.pT]; exact put_ref rfl rfl) | (rw [Deck.pM]; exact put_ref rfl rfl) | (rw [Deck.pT]; exact put_ref rfl rfl) | (rw [Deck.pM]; exact rfl) | (rw [Deck.pT]; exact rfl))))
  | (simp only [List.cons_append, List.nil_append])
  | ((with_reducible apply p_idx); exact rfl; exact rfl)
  | ((with_reducible apply q_toR); exact rfl)
  | ((with_reducible apply q_boxR); exact rfl)
  | (with_reducible refine l_int ?_)
  | (with_reducible refine l_tup ?_)
  | (with_reducible refine l_tmp ?_)
  | (with_reducible refine l_nil ?_)
  | (with_reducible refine p_isN ?_)
  | (with_reducible refine p_notN ?_)
  | (with_reducible refine p_neB ?_)
  | (with_reducible refine p_eqB ?_)
  | (with_reducible refine p_band ?_)
  | (refine And.intro (Nat.le_of_ble_eq_true rfl) ?_)
  | (with_reducible refine q_boxT ?_)
  | (with_reducible refine p_mkDct' ?_)
  | (with_reducible refine e_chkC ?_)
  | ((with_reducible apply e_chkV); exact rfl)
  | dsimp only))
def tailS : List S := [.ite (.prim .gt [.prim .idx [.var 0, .con (.int 1)], .con (.int 0)]) [.asg 3 (.prim .mod [.prim .int [.prim .idx [.var 0, .con (.int 1)]], .var 1]), .setIx (.var 0) (.con (.int 1)) (.prim .fdiv [.prim .idx [.var 0, .con (.int 1)], .var 1]), .ret (.var 3)] [], .setIx (.var 0) (.con (.int 2)) (.prim .mod [.prim .int [.prim .add [.prim .mul [.prim .idx [.var 0, .con (.int 2)], .con (.int 48271)], .con (.int 13)]], .con (.int 2147483647)]), .ret (.prim .mod [.prim .int [.prim .fdiv [.prim .mod [.prim .int [.prim .mul [.prim .idx [.var 0, .con (.int 2)], .prim .idx [.var 0, .con (.int 2)]]], .con (.int 2147483629)], .con (.int 7)]], .var 1])]
theorem tail_ok (F : FE) (ns gs : List Int) (y x : Int) (rest : List DO) (many : Int) (c : Option SV) (h1 : 1 ≤ many) (hdv : divOk many = true) (hz : gs.length ≤ 63) (hc : NL c) (H0 : List DO) (hH : H0.length = rest.length + 3) :
    Ev (evSs F tailS) ⟨[some (.pv (.ref 2)), some (.pv (.int many)), c, none], D ns gs y x rest⟩ fun f s' => ∃ r gs' y' x', 0 ≤ r ∧ r < many ∧ gs'.length ≤ 63 ∧ finC H0 (.ok f s') = .ok (.pv (.int r)) (D ns gs' y' x' rest) := by
  unfold tailS D
  have h0 : 0 < many := by omega
  k_steps
  refine ⟨fun hy => ?_, fun hy => ?_⟩
  · k_steps
    refine q_setIx (j := 1) rfl rfl rfl rfl (put_ref rfl rfl) ?_
    k_steps
    exact ⟨_, gs, y / many, x, Int.emod_nonneg _ (by omega), Int.emod_lt_of_pos _ h0, hz, finc_pv (by simp [hH])⟩
  · k_steps
    refine q_setIx (j := 2) rfl rfl rfl rfl (put_ref rfl rfl) ?_
    k_steps
    exact ⟨_, gs, y, _, Int.emod_nonneg _ (by omega), Int.emod_lt_of_pos _ h0, hz, finc_pv (by simp [hH])⟩
theorem draw_ok (hP : Pf[ix]? = some drawFD) (k : Nat) (ns gs : List Int) (y x : Int) (rest : List DO) (many : Int) (h1 : 1 ≤ many) (h2 : many < 2 ^ 200) (hz : gs.length ≤ 63) :
    ∃ r gs' y' x', 0 ≤ r ∧ r < many ∧ gs'.length ≤ 63 ∧ callF Pf (k + 1) ix [.pv (.ref 2), .pv (.int many)] (D ns gs y x rest) = .ok (.pv (.int r)) (D ns gs' y' x' rest) := by
  suffices hs : Ev (evSs (callF Pf k) drawFD.body) ⟨startE drawFD [.pv (.ref 2), .pv (.int many)], D ns gs y x rest⟩ fun f s' => ∃ r gs' y' x', 0 ≤ r ∧ r < many ∧ gs'.length ≤ 63 ∧ finC (D ns gs y x rest) (.ok f s') = .ok (.pv (.int r)) (D ns gs' y' x' rest) by
    obtain ⟨f, s', e, r, gs', y', x', a, b, c, q⟩ := hs
    exact ⟨r, gs', y', x', a, b, c, call_of (d := drawFD) hP rfl ⟨f, s', e, q⟩⟩
  show Ev (evSs _ drawFD.body) ⟨[some (.pv (.ref 2)), some (.pv (.int many)), none, none], D ns gs y x rest⟩ _
  unfold drawFD
  dsimp only
  have h0 : 0 < many := by omega
  have hdv : divOk many = true := by
    unfold divOk
    rw [decide_eq_true h0, Bool.true_and]
    refine decide_eq_true ?_
    have h3 : many.natAbs < 2 ^ 200 := by omega
    have := (Nat.log2_lt (show many.natAbs ≠ 0 by omega)).mpr h3
    omega
  refine s_wh ?_
  refine wh_inv (I := fun n s => ∃ (gs' : List Int) (y' : Int) (c : Option SV), n = gs'.length ∧ gs'.length ≤ 63 ∧ NL c ∧ s = ⟨[some (.pv (.ref 2)), some (.pv (.int many)), c, none], D ns gs' y' x rest⟩) gs.length ?_ ⟨gs, y, none, rfl, hz, (fun _ z => nomatch z), rfl⟩ fun n s hI => ?_
  · exact Nat.lt_of_le_of_lt hz (by unfold wFuel; decide)
  · obtain ⟨gs', y', c, rfl, hz', hc, rfl⟩ := hI
    unfold D
    refine t_and ?_
    k_steps
    refine ⟨fun hy => ?_, fun hy => ?_⟩
    · k_steps
      refine p_neNil (gs := gs') ?_ rfl ?_
      · show ((gs'.map PV.int).mapM (datF _ 39)).map PyData.list = _
        rw [mapM_int]; rfl
      k_steps
      refine ⟨fun hg => ?_, fun hg => ?_⟩
      · refine k_nx (s' := ⟨[some (.pv (.ref 2)), some (.pv (.int many)), c, none], D ns gs' y' x rest⟩) rfl ?_
        exact tail_ok (callF Pf k) ns gs' y' x rest many c h1 hdv hz' hc (D ns gs y x rest) rfl
      · k_steps
        obtain ⟨gs0, g, rfl⟩ : ∃ gs0 g, gs' = gs0 ++ [g] := by
          rcases List.eq_nil_or_concat gs' with rfl | ⟨gs0, g, rfl⟩
          · simp at hg
          · exact ⟨gs0, g, List.concat_eq_append⟩
        have hz0 : gs0.length ≤ 62 := by simp at hz'; omega
        have e : (gs0 ++ [g]).map PV.int = gs0.map PV.int ++ [PV.int g] := by simp
        refine p_pop (v := .int g) rfl (by rw [e]; simp) (by rw [e, List.dropLast_concat]; exact put_ref rfl (und_ints 1 gs0)) ?_
        k_steps
        refine ⟨fun hb => ?_, fun hb => ?_⟩
        · k_steps
          refine q_setIx (j := 1) rfl rfl rfl rfl (put_ref rfl rfl) ?_
          k_steps
          exact ⟨gs0.length, by simp, gs0, g, some (.pv (.int g)), rfl, by omega, (fun _ z => nomatch z), rfl⟩
        · k_steps
          refine q_setIx (j := 1) rfl rfl rfl rfl (put_ref rfl rfl) ?_
          k_steps
          exact ⟨gs0.length, by simp, gs0, 0, some (.pv (.int g)), rfl, by omega, (fun _ z => nomatch z), rfl⟩
    · k_steps
      refine ⟨fun _ => ?_, fun z => nomatch z⟩
      refine k_nx (s' := ⟨[some (.pv (.ref 2)), some (.pv (.int many)), c, none], D ns gs' y' x rest⟩) rfl ?_
      exact tail_ok (callF Pf k) ns gs' y' x rest many c h1 hdv hz' hc (D ns gs y x rest) rfl
theorem map_int_at {ns : List Int} {y : PV} (h : y ∈ ns.map PV.int) : ∃ n ∈ ns, y = .int n := by
  obtain ⟨n, hn, e⟩ := List.mem_map.mp h
  exact ⟨n, hn, e.symm⟩
def cel (n : Int) : Int := if n < 0 then -n else n
theorem bag_ok (hP : Pf[ix]? = some bagFD) (k : Nat) (ns : List Int) (hn : ns.length ≤ 63) : ∃ (gs : List Int) (x : Int), gs.length ≤ 63 ∧ callF Pf (k + 1) ix [.pv (.ref 0)] (scriptH ns) = .ok (.tmp (.lst [.ref 1, .int 0, .int x])) [.fz (ns.map PV.int), .rw (.lst (gs.map PV.int))] := by
  suffices hs : Ev (evSs (callF Pf k) bagFD.body) ⟨startE bagFD [.pv (.ref 0)], scriptH ns⟩ fun f s' => ∃ (gs : List Int) (x : Int), gs.length ≤ 63 ∧ finC (scriptH ns) (.ok f s') = .ok (.tmp (.lst [.ref 1, .int 0, .int x])) [.fz (ns.map PV.int), .rw (.lst (gs.map PV.int))] by
    obtain ⟨f, s', e, gs, x, a, q⟩ := hs
    exact ⟨gs, x, a, call_of (d := bagFD) hP rfl ⟨f, s', e, q⟩⟩
  show Ev (evSs _ bagFD.body) ⟨[some (.pv (.ref 0)), none, none, none], [.fz (ns.map PV.int)]⟩ _
  unfold bagFD
  dsimp only
  k_steps
  refine e_comp ?_
  k_steps
  refine Seal.p_cutL (xs := ns.map PV.int) (k := 63) rfl rfl ?_
  k_steps
  refine i_seq rfl ⟨by rw [List.length_take, List.length_map]; show _ ≤ 16777216; omega, ?_⟩
  k_steps
  refine comp_fm ⟨[some (.pv (.ref 0)), none, none, none], [.fz (ns.map PV.int)]⟩ (fun v => match v with | .int n => some (.int (cel n)) | _ => none) rfl rfl (fun y hy => ?_) ?_
  · obtain ⟨n, _, rfl⟩ := map_int_at (List.mem_of_mem_take hy)
    k_steps
    refine c_none ?_
    refine ⟨fun _ => ?_, fun z => (nomatch z)⟩
    k_steps
    refine ⟨_, rfl, ?_⟩
    k_steps
    exact ⟨by first | rfl | trivial, rfl, rfl⟩
  rw [← List.map_take, fm_map (mk := PV.int) (g := fun n => .int (cel n)) (fun n => rfl)]
  have hl : (ns.take 63).length ≤ 63 := by rw [List.length_take]; omega
  generalize ns.take 63 = ms at hl
  show Ev _ ⟨[some (.pv (.ref 0)), none, none, none], [.fz (ns.map PV.int)]⟩ _
  rw [show (ms.map fun n => PV.int (cel n)) = (ms.map cel).map PV.int by rw [List.map_map]; rfl]
  have hl : (ms.map cel).length ≤ 63 := by rw [List.length_map]; exact hl
  generalize ms.map cel = cs at hl
  k_steps
  refine p_len (xs := cs.map PV.int) rfl ?_
  k_steps
  refine s_for ?_
  k_steps
  refine i_seq rfl ?_
  refine l_own rfl ?_
  k_steps
  refine for_inv (I := fun i s => ∃ (y : Int) (a : Option SV), s = ⟨[some (.pv (.ref 0)), some (.lk (.lst (cs.map PV.int))), some (.pv (.int y)), a], [.fz (ns.map PV.int)]⟩ ∧ NL a) ⟨_, none, rfl, (fun _ z => nomatch z)⟩ (fun i p s hp hI => ?_) fun s hI => ?_
  · obtain ⟨y, a, rfl, ha⟩ := hI
    obtain ⟨n, _, rfl⟩ := map_int_at (List.mem_of_getElem? hp)
    k_steps
    exact ⟨_, some (.pv (.int n)), rfl, fun _ z => nomatch z⟩
  · obtain ⟨y, a, rfl, ha⟩ := hI
    refine k_nx (s' := ⟨[some (.pv (.ref 0)), some (.own (.lst (cs.map PV.int))), some (.pv (.int y)), a], [.fz (ns.map PV.int)]⟩) rfl ?_
    k_steps
    refine Seal.p_rev rfl ?_
    k_steps
    rw [show (cs.map PV.int).reverse = cs.reverse.map PV.int by rw [List.map_reverse]]
    exact ⟨cs.reverse, y, by rw [List.length_reverse]; omega, rfl⟩
theorem pick_own (hD : Pf[dr]? = some drawFD) (hP : Pf[ix]? = some (pickFD dr)) (k : Nat) (ns gs : List Int) (y x : Int) (rest : List DO) (xs : List PV) (h1 : 1 ≤ xs.length) (h2 : xs.length < 2 ^ 64) (hz : gs.length ≤ 63) :
    ∃ v gs' y' x', v ∈ xs ∧ gs'.length ≤ 63 ∧ callF Pf (k + 2) ix [.pv (.ref 2), .own (.lst xs)] (D ns gs y x rest) = .ok (.pv v) (D ns gs' y' x' rest) := by
  obtain ⟨r, gs', y', x', a, b, c, hcall⟩ := draw_ok hD k ns gs y x rest xs.length (by omega) (by omega) hz
  obtain ⟨v, hv, hm⟩ := atI_some a b
  refine ⟨v, gs', y', x', hm, c, call_of (d := pickFD dr) hP rfl ?_⟩
  show Ev (evSs _ (pickFD dr).body) ⟨[some (.pv (.ref 2)), some (.own (.lst xs))], D ns gs y x rest⟩ _
  unfold pickFD
  dsimp only
  k_steps
  refine p_len rfl ?_
  k_steps
  refine ev_call hcall ?_
  k_steps
  refine p_idx rfl hv ?_
  k_steps
  exact finc_pv rfl
theorem pick_tup (hD : Pf[dr]? = some drawFD) (hP : Pf[ix]? = some (pickFD dr)) (k : Nat) (ns gs : List Int) (y x : Int) (rest : List DO) (xs : List PV) (h1 : 1 ≤ xs.length) (h2 : xs.length < 2 ^ 64) (hz : gs.length ≤ 63) :
    ∃ v gs' y' x', v ∈ xs ∧ gs'.length ≤ 63 ∧ callF Pf (k + 2) ix [.pv (.ref 2), .pv (.tup xs)] (D ns gs y x rest) = .ok (.pv v) (D ns gs' y' x' rest) := by
  obtain ⟨r, gs', y', x', a, b, c, hcall⟩ := draw_ok hD k ns gs y x rest xs.length (by omega) (by omega) hz
  obtain ⟨v, hv, hm⟩ := atI_some a b
  refine ⟨v, gs', y', x', hm, c, call_of (d := pickFD dr) hP rfl ?_⟩
  show Ev (evSs _ (pickFD dr).body) ⟨[some (.pv (.ref 2)), some (.pv (.tup xs))], D ns gs y x rest⟩ _
  unfold pickFD
  dsimp only
  k_steps
  refine p_len rfl ?_
  k_steps
  refine ev_call hcall ?_
  k_steps
  refine p_idx rfl hv ?_
  k_steps
  exact finc_pv rfl
theorem pick_ref (hD : Pf[dr]? = some drawFD) (hP : Pf[ix]? = some (pickFD dr)) (k : Nat) (ns gs : List Int) (y x : Int) (rest : List DO) (n : Nat) (xs : List PV) (hr : rest[n]? = some (.rw (.lst xs))) (h1 : 1 ≤ xs.length) (h2 : xs.length < 2 ^ 64) (hz : gs.length ≤ 63) :
    ∃ v gs' y' x', v ∈ xs ∧ gs'.length ≤ 63 ∧ callF Pf (k + 2) ix [.pv (.ref 2), .pv (.ref (n + 3))] (D ns gs y x rest) = .ok (.pv v) (D ns gs' y' x' rest) := by
  obtain ⟨r, gs', y', x', a, b, c, hcall⟩ := draw_ok hD k ns gs y x rest xs.length (by omega) (by omega) hz
  obtain ⟨v, hv, hm⟩ := atI_some a b
  have it : ∀ env gs y x, itemsOf ⟨env, D ns gs y x rest⟩ (.pv (.ref (n + 3))) = some (true, xs) := fun env gs y x => by
    have : (D ns gs y x rest)[n + 3]? = some (.rw (.lst xs)) := by unfold D; simpa using hr
    unfold itemsOf coOf
    simp only [this]; rfl
  refine ⟨v, gs', y', x', hm, c, call_of (d := pickFD dr) hP rfl ?_⟩
  show Ev (evSs _ (pickFD dr).body) ⟨[some (.pv (.ref 2)), some (.pv (.ref (n + 3)))], D ns gs y x rest⟩ _
  unfold pickFD
  dsimp only
  k_steps
  refine p_len (it _ _ _ _) ?_
  k_steps
  refine ev_call hcall ?_
  k_steps
  refine p_idx (it _ _ _ _) hv ?_
  k_steps
  exact finc_pv rfl
end
end DV.Bag
namespace DV
open PySem PySem.Spec PyProof.Rows L2
def kz (zs : List (Int × Int)) : List (Key × PV) := zs.map fun z => (Sum.inl z.1, PV.int z.2)
theorem kz_len (zs : List (Int × Int)) : (kz zs).length = zs.length := List.length_map _
theorem kz_items : ∀ zs, pairsOf (itemsD (kz zs)) = some zs
  | [] => rfl
  | z :: zs => by
    show (pairsOf (itemsD (kz zs))).map ((z.1, z.2) :: ·) = _
    rw [kz_items zs]; rfl
theorem kz_put (p v : Int) (zs : List (Int × Int)) : ∃ zs', put (kz zs) (.inl p) (.int v) = kz zs' ∧ zs'.length ≤ zs.length + 1 := by
  unfold put
  split
  · refine ⟨zs.map fun z => if (Sum.inl z.1 : Key) = .inl p then (z.1, v) else z, ?_, by rw [List.length_map]; omega⟩
    unfold kz
    rw [List.map_map, List.map_map]
    refine List.map_congr_left fun z _ => ?_
    show (if (Sum.inl z.1 : Key) = .inl p then _ else _) = _
    simp only [Function.comp]
    split <;> rfl
  · exact ⟨zs ++ [(p, v)], by unfold kz; rw [List.map_append]; rfl, by simp⟩
theorem kz_get (p : Int) : ∀ zs, ∃ c : Int, (look (kz zs) (.inl p)).getD (.int 0) = .int c
  | [] => ⟨0, rfl⟩
  | z :: zs => by
    by_cases hz : (Sum.inl z.1 : Key) = .inl p
    · refine ⟨z.2, ?_⟩
      show (look ((Sum.inl z.1, PV.int z.2) :: kz zs) _).getD _ = _
      rw [hz, look_hd]; rfl
    · obtain ⟨c, hc⟩ := kz_get p zs
      refine ⟨c, ?_⟩
      show (look ((Sum.inl z.1, PV.int z.2) :: kz zs) _).getD _ = _
      rw [look_tl hz]; exact hc
theorem p_get2 {s : DS} {a b c : EV} {kvs : List (Key × PV)} {k : Key} {w : PV} {Q : EV → DS → Prop} (h : coOf s a = some (.dct kvs)) (hk : (pvOf s b).bind keyOf = some k) (hw : pvOf s c = some w) (q : Q (.pv ((look kvs k).getD w)) s) : Ev (primF .get2 [a, b, c]) s Q :=
  .eq (a := .pv ((look kvs k).getD w)) (s' := s) (by
    show get2F a b c s = _
    unfold get2F
    rw [h, hk]
    simp only [hw]
    cases look kvs k <;> rfl) q
theorem p_sortIt {s : DS} {a : EV} {kvs : List (Key × PV)} {zs : List (Int × Int)} {Q : EV → DS → Prop} (h : coOf s a = some (.dct kvs)) (hz : pairsOf (itemsD kvs) = some zs) (hl : zs.length ≤ sizeLine) (q : Q (.tmp (.lst ((sortP zs).map mkP))) s) : Ev (primF .sortIt [a]) s Q :=
  .conv (d := M.bnd (M.opt (pairsOf (itemsD kvs))) (fun zs => newL ((sortP zs).map mkP))) (by show sortItF a s = _; simp only [sortItF, h]) (.bnd (.opt hz (.bnd (.chk (decide_eq_true (by rw [List.length_map, sortP_length]; exact hl)) (.ret q)))))
end DV
namespace DV.Num
open PySem PySem.Spec PyProof.Rows L2 DV
def IsPr (p : Nat) : Prop := 2 ≤ p ∧ ∀ d, d ∣ p → d = 1 ∨ d = p
theorem pr_cop {p a : Nat} (hp : IsPr p) (h : ¬ p ∣ a) : Nat.Coprime p a := by
  rcases hp.2 _ (Nat.gcd_dvd_left p a) with e | e
  · exact e
  · exact (h (e ▸ Nat.gcd_dvd_right p a)).elim
theorem pr_mul {p a b : Nat} (hp : IsPr p) (h : p ∣ a * b) : p ∣ a ∨ p ∣ b := by
  by_cases z : p ∣ a
  · exact .inl z
  · exact .inr ((pr_cop hp z).dvd_of_dvd_mul_left h)
theorem pr_pow {p a : Nat} (hp : IsPr p) : ∀ k : Nat, p ∣ a ^ k → p ∣ a
  | 0, h => by
    rw [Nat.pow_zero] at h
    have := Nat.le_of_dvd (by decide) h
    have := hp.1
    omega
  | k + 1, h => by
    rw [Nat.pow_succ] at h
    rcases pr_mul hp h with h | h
    · exact pr_pow hp k h
    · exact h
theorem pr_eq {p q : Nat} (hp : IsPr p) (hq : IsPr q) (h : p ∣ q) : p = q := by
  rcases hq.2 p h with e | e
  · have := hp.1; omega
  · exact e
abbrev PL := List (Nat × Nat)
def prodL : PL → Nat
  | [] => 1
  | z :: r => z.1 ^ z.2 * prodL r
def Asc : Nat → PL → Prop
  | _, [] => True
  | lo, z :: r => lo < z.1 ∧ IsPr z.1 ∧ 1 ≤ z.2 ∧ Asc z.1 r
def Fc (n : Nat) (L : PL) : Prop := Asc 1 L ∧ prodL L = n
theorem prodL_app : ∀ F T : PL, prodL (F ++ T) = prodL F * prodL T
  | [], T => by simp [prodL]
  | z :: F, T => by simp only [List.cons_append, prodL, prodL_app F T, Nat.mul_assoc]
theorem prodL_pos : ∀ {lo : Nat} {L : PL}, Asc lo L → 1 ≤ prodL L
  | _, [], _ => Nat.le_refl _
  | _, z :: r, h => Nat.mul_pos (Nat.pow_pos (by have := h.2.1.1; omega)) (prodL_pos h.2.2.2)
theorem asc_low {p : Nat} (hp : IsPr p) : ∀ {lo : Nat} {L : PL}, Asc lo L → p ∣ prodL L → lo < p
  | _, [], _, h => by
    have := Nat.le_of_dvd (by decide) h
    have := hp.1
    simp only [prodL] at this h
    have := Nat.le_of_dvd (by decide) h
    omega
  | lo, z :: r, a, h => by
    rcases pr_mul hp h with h | h
    · have := pr_eq hp a.2.1 (pr_pow hp _ h)
      rw [this]; exact a.1
    · exact Nat.lt_trans a.1 (asc_low hp a.2.2.2 h)
theorem asc_head {p : Nat} (hp : IsPr p) {lo : Nat} {z : Nat × Nat} {r : PL} (a : Asc lo (z :: r)) (h : p ∣ prodL (z :: r)) : z.1 ≤ p := by
  rcases pr_mul hp h with h | h
  · exact Nat.le_of_eq (pr_eq hp a.2.1 (pr_pow hp _ h)).symm
  · exact Nat.le_of_lt (asc_low hp a.2.2.2 h)
theorem head_dvd {lo : Nat} {z : Nat × Nat} {r : PL} (a : Asc lo (z :: r)) : z.1 ∣ prodL (z :: r) := by
  have h := a.2.2.1
  show z.1 ∣ z.1 ^ z.2 * prodL r
  obtain ⟨k, hk⟩ : ∃ k, z.2 = k + 1 := ⟨z.2 - 1, by omega⟩
  rw [hk, Nat.pow_succ]
  exact Nat.dvd_trans (Nat.dvd_mul_left _ _) (Nat.dvd_mul_right _ _)
theorem pow_split {p a b R R' : Nat} (hp : 1 ≤ p) (hab : a < b) (h : p ^ a * R = p ^ b * R') : p ∣ R := by
  have e : p ^ b = p ^ a * (p * p ^ (b - a - 1)) := by
    rw [← Nat.pow_succ', ← Nat.pow_add]
    congr 1; omega
  rw [e, Nat.mul_assoc] at h
  have h := Nat.eq_of_mul_eq_mul_left (Nat.pow_pos hp) h
  rw [h, Nat.mul_assoc]
  exact Nat.dvd_mul_right _ _
theorem asc_uniq : ∀ {L L' : PL} {lo lo' : Nat}, Asc lo L → Asc lo' L' → prodL L = prodL L' → L = L'
  | [], [], _, _, _, _, _ => rfl
  | [], z :: r, _, _, _, b, h => by
    have d := head_dvd b
    rw [← h] at d
    have := Nat.le_of_dvd (by decide) (show z.1 ∣ 1 from d)
    have := b.2.1.1
    omega
  | z :: r, [], _, _, a, _, h => by
    have d := head_dvd a
    rw [h] at d
    have := Nat.le_of_dvd (by decide) (show z.1 ∣ 1 from d)
    have := a.2.1.1
    omega
  | z :: r, z' :: r', lo, lo', a, b, h => by
    have e1 : z.1 ≤ z'.1 := asc_head b.2.1 a (h ▸ head_dvd b)
    have e2 : z'.1 ≤ z.1 := asc_head a.2.1 b (h ▸ head_dvd a)
    have e : z.1 = z'.1 := Nat.le_antisymm e1 e2
    have h' : z.1 ^ z.2 * prodL r = z.1 ^ z'.2 * prodL r' := by
      have := h
      simp only [prodL] at this
      rw [← e] at this; exact this
    have hp : 1 ≤ z.1 := by have := a.2.1.1; omega
    have k : z.2 = z'.2 := by
      rcases Nat.lt_trichotomy z.2 z'.2 with g | g | g
      · exact absurd (asc_low a.2.1 a.2.2.2 (pow_split hp g h')) (Nat.lt_irrefl _)
      · exact g
      · have b2 : Asc z.1 r' := by rw [e]; exact b.2.2.2
        exact absurd (asc_low a.2.1 b2 (pow_split hp g h'.symm)) (Nat.lt_irrefl _)
    have hr : prodL r = prodL r' := by
      rw [k] at h'
      exact Nat.eq_of_mul_eq_mul_left (Nat.pow_pos hp) h'
    have := asc_uniq a.2.2.2 b.2.2.2 hr
    rw [this, show z = z' from Prod.ext e k]
def Rough (p n : Nat) : Prop := ∀ d, 2 ≤ d → d < p → ¬ d ∣ n
theorem Rough.two (n : Nat) : Rough 2 n := fun d h1 h2 => by omega
theorem Rough.next {p n : Nat} (h : Rough p n) (h2 : ¬ p ∣ n) : Rough (p + 1) n := fun d h1 h3 z => by
  by_cases e : d = p
  · subst e; exact h2 z
  · exact h d h1 (by omega) z
theorem Rough.down {p q n m : Nat} (h : Rough p n) (hq : q ≤ p) (hm : m ∣ n) : Rough q m := fun d h1 h2 z => h d h1 (by omega) (Nat.dvd_trans z hm)
theorem Rough.prime {p n : Nat} (h : Rough p n) (h1 : 1 < n) (h2 : n < p * p) : IsPr n := by
  refine ⟨h1, fun d hd => ?_⟩
  obtain ⟨e, he⟩ := hd
  by_cases d1 : d = 1
  · exact .inl d1
  by_cases dn : d = n
  · exact .inr dn
  have d0 : d ≠ 0 := fun z => by subst z; simp at he; omega
  have e0 : e ≠ 0 := fun z => by subst z; simp at he; omega
  have e1 : e ≠ 1 := fun z => by subst z; simp at he; omega
  have hd : ¬ d < p := fun z => h d (by omega) z ⟨e, he⟩
  have hee : ¬ e < p := fun z => h e (by omega) z ⟨d, by rw [he, Nat.mul_comm]⟩
  have := Nat.mul_le_mul (show p ≤ d by omega) (show p ≤ e by omega)
  omega
theorem Rough.self {p n : Nat} (h : Rough p n) (h1 : 1 < n) : p ≤ n := by
  by_cases z : p ≤ n
  · exact z
  · exact (h n h1 (by omega) (Nat.dvd_refl n)).elim
theorem Rough.pr {p n : Nat} (h : Rough p n) (hp : 2 ≤ p) (hd : p ∣ n) : IsPr p := by
  refine ⟨hp, fun d hdp => ?_⟩
  have hl := Nat.le_of_dvd (by omega) hdp
  have hpos := Nat.pos_of_dvd_of_pos hdp (by omega)
  by_cases d1 : d = 1
  · exact .inl d1
  by_cases dn : d = p
  · exact .inr dn
  · exact (h d (by omega) (by omega) (Nat.dvd_trans hdp hd)).elim
def Pre (p : Nat) (F : PL) : Prop := ∀ T, Asc (p - 1) T → Asc 1 (F ++ T)
theorem Asc.mono {a b : Nat} {L : PL} (h : Asc b L) (hab : a ≤ b) : Asc a L := by
  cases L with
  | nil => trivial
  | cons z r => exact ⟨Nat.lt_of_le_of_lt hab h.1, h.2⟩
theorem Pre.nil : Pre 2 [] := fun T h => h
theorem Pre.up {p q : Nat} {F : PL} (h : Pre p F) (hpq : p ≤ q) : Pre q F := fun T a => h T (a.mono (by omega))
theorem Pre.snoc {p o : Nat} {F : PL} (h : Pre p F) (hp : IsPr p) (ho : 1 ≤ o) : Pre (p + 1) (F ++ [(p, o)]) := fun T a => by
  rw [List.append_assoc]
  have := hp.1
  exact h ((p, o) :: T) ⟨by show p - 1 < p; omega, hp, ho, a⟩
theorem Pre.fin {p : Nat} {F : PL} (h : Pre p F) : Asc 1 F := by
  have := h [] trivial
  rwa [List.append_nil] at this
def tailL (m : Nat) : PL := if 1 < m then [(m, 1)] else []
theorem Pre.tail {p m n : Nat} {F : PL} (h : Pre p F) (hp : 2 ≤ p) (hm : 1 < m → IsPr m ∧ p ≤ m) (h1 : 1 ≤ m) (hn : prodL F * m = n) : Fc n (F ++ tailL m) := by
  unfold tailL
  split
  · rename_i g
    obtain ⟨a, b⟩ := hm g
    refine ⟨h _ ⟨by show p - 1 < m; omega, a, Nat.le_refl _, trivial⟩, ?_⟩
    rw [prodL_app]
    show prodL F * (m ^ 1 * 1) = n
    rw [Nat.pow_one, Nat.mul_one]; exact hn
  · have e : m = 1 := by omega
    rw [List.append_nil]
    refine ⟨h.fin, ?_⟩
    rw [← hn, e, Nat.mul_one]
def tk (p : Nat) : Nat → Nat → Nat × Nat
  | 0, d => (0, d)
  | f + 1, d => if d % p = 0 then ((tk p f (d / p)).1 + 1, (tk p f (d / p)).2) else (0, d)
theorem tk_ok {p d : Nat} (hp : 1 ≤ p) (hd : ¬ p ∣ d) : ∀ o f : Nat, o ≤ f → tk p f (p ^ o * d) = (o, d)
  | 0, 0, _ => by simp [tk]
  | 0, f + 1, _ => by
    unfold tk
    rw [Nat.pow_zero, Nat.one_mul, if_neg (fun z => hd (Nat.dvd_of_mod_eq_zero z))]
  | o + 1, 0, h => by omega
  | o + 1, f + 1, h => by
    have e : p ^ (o + 1) * d = p * (p ^ o * d) := by rw [Nat.pow_succ, Nat.mul_comm (p ^ o) p, Nat.mul_assoc]
    unfold tk
    rw [e, if_pos (Nat.mul_mod_right _ _), Nat.mul_div_cancel_left _ hp, tk_ok hp hd o f (by omega)]
theorem out_of {p : Nat} (hp : 2 ≤ p) : ∀ n : Nat, 1 ≤ n → ∃ o d : Nat, n = p ^ o * d ∧ ¬ p ∣ d := by
  intro n
  induction n using Nat.strongRecOn with
  | ind n ih =>
    intro h1
    by_cases h : p ∣ n
    · obtain ⟨m, rfl⟩ := h
      have hm : 1 ≤ m := Nat.pos_of_ne_zero fun z => by subst z; omega
      obtain ⟨o, d, e, k⟩ := ih m (by have := Nat.mul_le_mul_right m hp; omega) hm
      exact ⟨o + 1, d, by rw [Nat.pow_succ, Nat.mul_comm (p ^ o) p, Nat.mul_assoc, ← e], k⟩
    · exact ⟨0, n, by simp, h⟩
theorem pow_lt60 {p o d n : Nat} (hp : 2 ≤ p) (hd : 1 ≤ d) (h : n = p ^ o * d) (hn : n < 2 ^ 60) : o < 60 := by
  have a : 2 ^ o ≤ p ^ o := Nat.pow_le_pow_left hp o
  have b : p ^ o ≤ n := by rw [h]; exact Nat.le_mul_of_pos_right _ hd
  exact (Nat.pow_lt_pow_iff_right (by decide : 1 < 2)).mp (by omega)
def facF : Nat → Nat → Nat → PL
  | 0, _, _ => []
  | f + 1, p, n => if n < p * p then tailL n else
    if n % p = 0 then (p, (tk p 64 n).1) :: facF f (p + 1) (tk p 64 n).2 else facF f (p + 1) n
def fac (n : Nat) : PL := facF n 2 n
theorem facF_ok : ∀ f p n : Nat, 2 ≤ p → 1 ≤ n → n < 2 ^ 60 → Rough p n → 1 ≤ f → n + 1 ≤ f + p → Asc (p - 1) (facF f p n) ∧ prodL (facF f p n) = n
  | 0, p, n, _, _, _, _, h, _ => by omega
  | f + 1, p, n, hp, h1, hb, hr, _, hf => by
    unfold facF
    by_cases hc : n < p * p
    · rw [if_pos hc]
      unfold tailL
      by_cases g : 1 < n
      · rw [if_pos g]
        have := hr.self g
        exact ⟨⟨by show p - 1 < n; omega, hr.prime g hc, Nat.le_refl _, trivial⟩, by simp [prodL]⟩
      · rw [if_neg g]
        exact ⟨trivial, by simp [prodL]; omega⟩
    · rw [if_neg hc]
      have hpn : p + p ≤ n := by
        have := Nat.mul_le_mul_right p hp
        omega
      by_cases hd : n % p = 0
      · rw [if_pos hd]
        obtain ⟨o, d, e, k⟩ := out_of hp n h1
        have hd1 : 1 ≤ d := Nat.pos_of_ne_zero fun z => by subst z; exact k (Nat.dvd_zero _)
        have ho := pow_lt60 hp hd1 e hb
        have et : tk p 64 n = (o, d) := by rw [e]; exact tk_ok (by omega) k o 64 (by omega)
        rw [et]
        have ho1 : 1 ≤ o := Nat.pos_of_ne_zero fun z => by
          subst z
          rw [Nat.pow_zero, Nat.one_mul] at e
          exact k (e ▸ Nat.dvd_of_mod_eq_zero hd)
        have hdn : d ∣ n := ⟨p ^ o, by rw [e, Nat.mul_comm]⟩
        have hdl := Nat.le_of_dvd h1 hdn
        obtain ⟨q1, q2⟩ := facF_ok f (p + 1) d (by omega) hd1 (by omega) ((hr.down (Nat.le_refl _) hdn).next k) (by omega) (by omega)
        exact ⟨⟨by show p - 1 < p; omega, hr.pr hp (Nat.dvd_of_mod_eq_zero hd), ho1, q1⟩, by simp only [prodL]; rw [q2, ← e]⟩
      · rw [if_neg hd]
        obtain ⟨q1, q2⟩ := facF_ok f (p + 1) n (by omega) h1 hb (hr.next fun z => hd (Nat.mod_eq_zero_of_dvd z)) (by omega) (by omega)
        exact ⟨q1.mono (by omega), q2⟩
theorem fac_ok {n : Nat} (h1 : 1 ≤ n) (hb : n < 2 ^ 60) : Fc n (fac n) := facF_ok n 2 n (by decide) h1 hb (Rough.two n) h1 (by omega)
theorem fac_is {n : Nat} {L : PL} (h1 : 1 ≤ n) (hb : n < 2 ^ 60) (h : Fc n L) : fac n = L := by
  obtain ⟨a, b⟩ := fac_ok h1 hb
  exact asc_uniq a h.1 (b.trans h.2.symm)
end DV.Num
namespace DV.Num
open PySem PySem.Spec PyProof.Rows L2 DV
def takenFD : FD := ⟨2, 3, [.asg 2 (.con (.int 0)), .wh (.prim .eq [.prim .mod [.var 0, .var 1], .con (.int 0)]) [.par [2, 0] [.prim .add [.var 2, .con (.int 1)], .prim .fdiv [.var 0, .var 1]]], .ret (.prim .mkTup [.var 2, .var 0])]⟩
def primeFD (t dp : Nat) : FD := ⟨1, 5, [.ite (.prim .lt [.var 0, .con (.int 2)]) [.ret (.con (.bl false))] [], .asg 1 (.prim .mkTup [.con (.int 2), .con (.int 3), .con (.int 5), .con (.int 7), .con (.int 11), .con (.int 13), .con (.int 17), .con (.int 19), .con (.int 23), .con (.int 29), .con (.int 31), .con (.int 37)]), .forS (.one 2) .seq [.var 1] [.ite (.prim .eq [.prim .mod [.var 0, .var 2], .con (.int 0)]) [.ret (.prim .eq [.var 0, .var 2])] []], .unp [3, 4] (.call t [.prim .sub [.var 0, .con (.int 1)], .con (.int 2)] []), .ret (.prim .all [.comp (.one 2) .seq [.var 1] none (.call dp [.var 0, .var 2, .var 3, .var 4] []) [2]])]⟩
def powerFD : FD := ⟨3, 4, [.par [3, 0] [.con (.int 1), .prim .mod [.var 0, .var 2]], .wh (.prim .gt [.var 1, .con (.int 0)]) [.ite (.prim .eq [.prim .mod [.var 1, .con (.int 2)], .con (.int 1)]) [.asg 3 (.prim .mod [.prim .mul [.var 3, .var 0], .var 2])] [], .par [0, 1] [.prim .mod [.prim .mul [.var 0, .var 0], .var 2], .prim .fdiv [.var 1, .con (.int 2)]]], .ret (.var 3)]⟩
def passFD (pw : Nat) : FD := ⟨4, 6, [.asg 4 (.call pw [.var 1, .var 3, .var 0] []), .ite (.prim .inn [.var 4, .prim .mkTup [.con (.int 1), .prim .sub [.var 0, .con (.int 1)]]]) [.ret (.con (.bl true))] [], .forS (.one 5) .rng1 [.prim .sub [.var 2, .con (.int 1)]] [.asg 4 (.prim .mod [.prim .mul [.var 4, .var 4], .var 0]), .ite (.prim .eq [.var 4, .prim .sub [.var 0, .con (.int 1)]]) [.ret (.con (.bl true))] []], .ret (.con (.bl false))]⟩
def primesFD (t ip : Nat) : FD := ⟨1, 4, [.par [1, 2] [.prim .mkLst [], .con (.int 2)], .wh (.prim .le [.prim .mul [.var 2, .var 2], .var 0]) [.ite (.prim .eq [.prim .mod [.var 0, .var 2], .con (.int 0)]) [.unp [3, 0] (.call t [.var 0, .var 2] []), .expr (.meth .append (.var 1) [.prim .mkTup [.var 2, .var 3]]), .ite (.call ip [.var 0] []) [.brk] []] [], .ite (.andE (.prim .eq [.var 2, .con (.int 1009)]) (.call ip [.var 0] [])) [.brk] [], .asg 2 (.prim .add [.var 2, .iff (.prim .eq [.var 2, .con (.int 2)]) (.con (.int 1)) (.iff (.orE (.prim .eq [.var 2, .con (.int 3)]) (.prim .eq [.prim .mod [.var 2, .con (.int 6)], .con (.int 5)])) (.con (.int 2)) (.con (.int 4)))])], .ret (.prim .tuple [.prim .add [.var 1, .iff (.prim .gt [.var 0, .con (.int 1)]) (.prim .mkLst [.prim .mkTup [.var 0, .con (.int 1)]]) (.prim .mkLst [])]])]⟩
section
variable {Pf : List FD} {ix t pw dp ip : Nat}
local macro_rules | `(tactic| k_steps) => `(tactic| repeat (first
  | (with_reducible refine e_con ?_)
  | ((with_reducible apply e_var); exact rfl)
  | ((with_reducible apply e_varO); exact rfl)
  | (with_reducible refine e_prim ?_)
  | (with_reducible refine e_nil ?_)
  | (with_reducible refine e_cons ?_)
  | (with_reducible refine e_call ?_)
  | (with_reducible refine e_meth ?_)
  | (with_reducible refine e_iff ?_)
  | (with_reducible refine t_prim ?_)
  | (with_reducible refine t_var ?_)
  | (with_reducible refine t_not ?_)
  | (with_reducible refine tr_bl ?_)
  | (with_reducible refine tr_int ?_)
  | (with_reducible refine p_add ?_)
  | (with_reducible refine p_sub ?_)
  | ((with_reducible apply p_mul); (focus (first | exact rfl | assumption | exact mulOk_r (by decide) | exact mulOk_mod (by decide) (by decide))))
  | ((with_reducible apply p_fdiv); (focus (first | exact rfl | assumption | exact mulOk_r (by decide) | exact mulOk_mod (by decide) (by decide))))
  | ((with_reducible apply p_mod); (focus (first | decide | assumption)))
  | ((with_reducible apply p_pow); (focus (first | exact rfl | assumption | exact mulOk_r (by decide) | exact mulOk_mod (by decide) (by decide))))
  | (with_reducible refine p_neg ?_)
  | (with_reducible refine p_lt ?_)
  | (with_reducible refine p_le ?_)
  | (with_reducible refine p_gt ?_)
  | (with_reducible refine p_ge ?_)
  | (with_reducible refine p_eq ?_)
  | (with_reducible refine p_ne ?_)
  | (with_reducible refine p_int ?_)
  | (with_reducible refine p_intB ?_)
  | (with_reducible refine p_abs ?_)
  | (with_reducible refine p_min2 ?_)
  | (with_reducible refine p_max2 ?_)
  | (with_reducible refine p_mkTup' ?_)
  | (with_reducible refine p_mkLst' ?_)
  | (with_reducible refine q_bnil ?_)
  | (with_reducible refine q_bcons ?_)
  | (with_reducible refine q_boxP ?_)
  | (with_reducible refine q_toP ?_)
  | (with_reducible refine q_toT ?_)
  | (with_reducible refine q_nil ?_)
  | (with_reducible refine q_cons ?_)
  | (with_reducible refine q_pnil ?_)
  | (with_reducible refine q_pcons ?_)
  | (with_reducible refine q_snil ?_)
  | (with_reducible refine q_scons ?_)
  | (with_reducible refine q_one ?_)
  | ((with_reducible apply q_put); exact rfl; (focus (first | assumption | exact fun _ z => nomatch z)); dsimp only [List.set])
  | (with_reducible refine s_asg ?_)
  | (with_reducible refine s_par ?_)
  | (with_reducible refine s_expr ?_)
  | (with_reducible refine s_ret ?_)
  | (with_reducible refine s_retN ?_)
  | (with_reducible refine s_pass ?_)
  | (with_reducible refine s_ite ?_)
  | (with_reducible refine s_setKey ?_)
  | (with_reducible refine s_setIx ?_)
  | (with_reducible refine s_wh ?_)
  | (with_reducible refine s_nil ?_)
  | ((with_reducible apply k_ok); exact rfl)
  | ((with_reducible apply p_idxD); exact rfl; exact rfl; (focus (first | exact Seal.lG | exact Seal.lM | exact Seal.lT | exact Pot.lG | exact Pot.lM | exact Pot.lT | exact Deck.lG | exact Deck.lM | exact Deck.lT)))
  | ((with_reducible apply q_setKey); exact rfl; exact rfl; (focus (show 3 < 16777216; omega)); exact rfl; (focus (first | (rw [Seal.pM]; exact put_ref rfl rfl) | (rw [Seal.pT]; exact put_ref rfl rfl) | (rw [Pot.pM]; exact put_ref rfl rfl) | (rw [Pot.pT]; exact put_ref rfl rfl) | (rw [Deck.pM]; exact put_ref rfl rfl) | (rw [Deck.pT]; exact put_ref rfl rfl) | (rw [Deck.pM]; exact rfl) | (rw [Deck.pT]; exact rfl))))
  | (simp only [List.cons_append, List.nil_append])
  | ((with_reducible apply p_idx); exact rfl; exact rfl)
  | ((with_reducible apply q_toR); exact rfl)
  | ((with_reducible apply q_boxR); exact rfl)
  | (with_reducible refine l_int ?_)
  | (with_reducible refine l_tup ?_)
  | (with_reducible refine l_tmp ?_)
  | (with_reducible refine l_nil ?_)
  | (with_reducible refine p_isN ?_)
  | (with_reducible refine p_notN ?_)
  | (with_reducible refine p_neB ?_)
  | (with_reducible refine p_eqB ?_)
  | (with_reducible refine p_band ?_)
  | (refine And.intro (Nat.le_of_ble_eq_true rfl) ?_)
  | (with_reducible refine q_boxT ?_)
  | (with_reducible refine p_mkDct' ?_)
  | (with_reducible refine e_chkC ?_)
  | ((with_reducible apply e_chkV); exact rfl)
  | dsimp only))
local macro_rules | `(tactic| k_go) => `(tactic| repeat (first
  | (with_reducible refine e_con ?_)
  | ((with_reducible apply e_var); exact rfl)
  | ((with_reducible apply e_varO); exact rfl)
  | (with_reducible refine e_prim ?_)
  | (with_reducible refine e_nil ?_)
  | (with_reducible refine e_cons ?_)
  | (with_reducible refine e_call ?_)
  | (with_reducible refine e_meth ?_)
  | (with_reducible refine e_iff ?_)
  | (with_reducible refine t_prim ?_)
  | (with_reducible refine t_var ?_)
  | (with_reducible refine t_not ?_)
  | (with_reducible refine tr_bl ?_)
  | (with_reducible refine tr_int ?_)
  | (with_reducible refine p_add ?_)
  | (with_reducible refine p_sub ?_)
  | ((with_reducible apply p_mul); (focus (first | exact rfl | assumption | exact mulOk_r (by decide) | exact mulOk_mod (by decide) (by decide))))
  | ((with_reducible apply p_fdiv); (focus (first | exact rfl | assumption | exact mulOk_r (by decide) | exact mulOk_mod (by decide) (by decide))))
  | ((with_reducible apply p_mod); (focus (first | decide | assumption)))
  | ((with_reducible apply p_pow); (focus (first | exact rfl | assumption | exact mulOk_r (by decide) | exact mulOk_mod (by decide) (by decide))))
  | (with_reducible refine p_neg ?_)
  | (with_reducible refine p_lt ?_)
  | (with_reducible refine p_le ?_)
  | (with_reducible refine p_gt ?_)
  | (with_reducible refine p_ge ?_)
  | (with_reducible refine p_eq ?_)
  | (with_reducible refine p_ne ?_)
  | (with_reducible refine p_int ?_)
  | (with_reducible refine p_intB ?_)
  | (with_reducible refine p_abs ?_)
  | (with_reducible refine p_min2 ?_)
  | (with_reducible refine p_max2 ?_)
  | (with_reducible refine p_mkTup' ?_)
  | (with_reducible refine p_mkLst' ?_)
  | (with_reducible refine q_bnil ?_)
  | (with_reducible refine q_bcons ?_)
  | (with_reducible refine q_boxP ?_)
  | (with_reducible refine q_toP ?_)
  | (with_reducible refine q_toT ?_)
  | (with_reducible refine q_nil ?_)
  | (with_reducible refine q_cons ?_)
  | (with_reducible refine q_pnil ?_)
  | (with_reducible refine q_pcons ?_)
  | (with_reducible refine q_snil ?_)
  | (with_reducible refine q_scons ?_)
  | (with_reducible refine q_one ?_)
  | ((with_reducible apply q_put); exact rfl; (focus (first | assumption | exact fun _ z => nomatch z)); dsimp only [List.set])
  | ((with_reducible apply k_ok); exact rfl)
  | ((with_reducible apply p_idxD); exact rfl; exact rfl; (focus (first | exact Seal.lG | exact Seal.lM | exact Seal.lT | exact Pot.lG | exact Pot.lM | exact Pot.lT | exact Deck.lG | exact Deck.lM | exact Deck.lT)))
  | ((with_reducible apply q_setKey); exact rfl; exact rfl; (focus (show 3 < 16777216; omega)); exact rfl; (focus (first | (rw [Seal.pM]; exact put_ref rfl rfl) | (rw [Seal.pT]; exact put_ref rfl rfl) | (rw [Pot.pM]; exact put_ref rfl rfl) | (rw [Pot.pT]; exact put_ref rfl rfl) | (rw [Deck.pM]; exact put_ref rfl rfl) | (rw [Deck.pT]; exact put_ref rfl rfl) | (rw [Deck.pM]; exact rfl) | (rw [Deck.pT]; exact rfl))))
  | (simp only [List.cons_append, List.nil_append])
  | ((with_reducible apply p_idx); exact rfl; exact rfl)
  | ((with_reducible apply q_toR); exact rfl)
  | ((with_reducible apply q_boxR); exact rfl)
  | (with_reducible refine l_int ?_)
  | (with_reducible refine l_tup ?_)
  | (with_reducible refine l_tmp ?_)
  | (with_reducible refine l_nil ?_)
  | (with_reducible refine p_isN ?_)
  | (with_reducible refine p_notN ?_)
  | (with_reducible refine p_neB ?_)
  | (with_reducible refine p_eqB ?_)
  | (with_reducible refine p_band ?_)
  | (refine And.intro (Nat.le_of_ble_eq_true rfl) ?_)
  | (with_reducible refine q_boxT ?_)
  | (with_reducible refine p_mkDct' ?_)
  | (with_reducible refine e_chkC ?_)
  | ((with_reducible apply e_chkV); exact rfl)
  | dsimp only))
theorem mulOk_big {i j : Int} (h : i.natAbs < 2 ^ 1000) (h2 : j.natAbs < 2 ^ 1000) : mulOk i j = true := by
  unfold mulOk
  have a : i.natAbs.log2 < 1001 := by
    by_cases z : i.natAbs = 0
    · rw [z]; decide
    · have := (Nat.log2_lt z).mpr h; omega
  have b : j.natAbs.log2 < 1001 := by
    by_cases z : j.natAbs = 0
    · rw [z]; decide
    · have := (Nat.log2_lt z).mpr h2; omega
  rw [decide_eq_true (show i.natAbs.log2 + j.natAbs.log2 < 1000000 by omega), Bool.or_true]
def pl (B E n : Nat) : Nat := if E = 0 then 1 else B ^ E % n
theorem pl_ok (hW : Pf[pw]? = some powerFD) (k : Nat) (h : List DO) (B E n : Nat) (h1 : 1 ≤ n) (h2 : n < 2 ^ 60) (hE : E < 2 ^ 60) : callF Pf (k + 1) pw [.pv (.int B), .pv (.int E), .pv (.int n)] h = .ok (.pv (.int (pl B E n))) h := by
  refine call_of (d := powerFD) hW rfl ?_
  show Ev (evSs _ powerFD.body) ⟨[some (.pv (.int B)), some (.pv (.int E)), some (.pv (.int n)), none], h⟩ _
  unfold powerFD
  dsimp only
  have hp : (0 : Int) < n := by omega
  k_steps
  refine wh_inv (I := fun m s => ∃ f b e : Nat, s = ⟨[some (.pv (.int b)), some (.pv (.int e)), some (.pv (.int n)), some (.pv (.int f))], h⟩ ∧ f * b ^ e % n = B ^ E % n ∧ b < n ∧ (f < n ∨ f = 1) ∧ (e = 0 → f = pl B E n) ∧ e ≤ E ∧ e = m) E (by unfold wFuel; omega)
    ⟨1, B % n, E, ?_, ?_, Nat.mod_lt _ h1, .inr rfl, ?_, Nat.le_refl _, rfl⟩ ?_
  · rw [Int.natCast_emod]; rfl
  · rw [Nat.one_mul, ← Nat.pow_mod]
  · intro z; unfold pl; rw [if_pos z]
  rintro m s ⟨f, b, e, rfl, hi, hb, hf, h0, hle, rfl⟩
  k_steps
  refine ⟨fun hc => ?_, fun hc => ?_⟩
  · refine k_nx rfl ?_
    have z : e = 0 := by simp at hc; omega
    rw [h0 z]
    k_steps
    exact finc_pv rfl
  · have he : 0 < e := by simp at hc; omega
    have hmb : mulOk (b : Int) (b : Int) = true := mulOk_l (by omega)
    have hmf : mulOk (f : Int) (b : Int) = true := mulOk_r (by omega)
    have cb : (b : Int) * b % n = ((b * b % n : Nat) : Int) := by rw [Int.natCast_emod, Int.natCast_mul]
    have cf : (f : Int) * b % n = ((f * b % n : Nat) : Int) := by rw [Int.natCast_emod, Int.natCast_mul]
    have ce : (e : Int) / 2 = ((e / 2 : Nat) : Int) := by rw [Int.natCast_ediv]; rfl
    have dbl : ∀ g : Nat, g * (b * b % n) ^ (e / 2) % n = g * b ^ (2 * (e / 2)) % n := fun g => by
      rw [Nat.mul_mod, ← Nat.pow_mod, ← Nat.mul_mod, Nat.pow_mul]
      congr 2
      rw [Nat.pow_succ, Nat.pow_one]
    have hE0 : E ≠ 0 := by omega
    k_steps
    refine ⟨fun ho => ?_, fun ho => ?_⟩
    · have ho : e % 2 = 1 := by simp at ho; omega
      k_steps
      rw [cb, cf, ce]
      refine ⟨e / 2, by omega, f * b % n, b * b % n, e / 2, rfl, ?_, Nat.mod_lt _ h1, .inl (Nat.mod_lt _ h1), fun z => ?_, by omega, rfl⟩
      · rw [dbl, Nat.mod_mul_mod, Nat.mul_assoc, ← Nat.pow_succ', show (2 * (e / 2)).succ = e by omega]; exact hi
      · have z1 : e = 1 := by omega
        unfold pl
        rw [if_neg hE0, ← hi, z1, Nat.pow_one]
    · have ho : e % 2 = 0 := by simp at ho; omega
      k_steps
      rw [cb, ce]
      refine ⟨e / 2, by omega, f, b * b % n, e / 2, rfl, ?_, Nat.mod_lt _ h1, hf, fun z => by omega, by omega, rfl⟩
      rw [dbl, show 2 * (e / 2) = e by omega]; exact hi
theorem divOk_n {p : Nat} (h1 : 1 ≤ p) (h2 : p < 2 ^ 62) : divOk (p : Int) = true := by
  unfold divOk
  rw [decide_eq_true (show (0 : Int) < p by omega), Bool.true_and]
  refine decide_eq_true ?_
  have e : (p : Int).natAbs = p := Int.natAbs_natCast p
  rw [e]
  have := (Nat.log2_lt (show p ≠ 0 by omega)).mpr h2
  omega
theorem taken_ok (hT : Pf[t]? = some takenFD) (k : Nat) (h : List DO) (n p : Nat) (h1 : 1 ≤ n) (h2 : n < 2 ^ 60) (hp : 2 ≤ p) (hp2 : p < 2 ^ 62) : ∃ o d : Nat, n = p ^ o * d ∧ ¬ p ∣ d ∧ callF Pf (k + 1) t [.pv (.int n), .pv (.int p)] h = .ok (.pv (.tup [.int o, .int d])) h := by
  suffices hs : Ev (evSs (callF Pf k) takenFD.body) ⟨startE takenFD [.pv (.int n), .pv (.int p)], h⟩ fun f s' => ∃ o d : Nat, n = p ^ o * d ∧ ¬ p ∣ d ∧ finC h (.ok f s') = .ok (.pv (.tup [.int o, .int d])) h by
    obtain ⟨f, s', e, o, d, q1, q2, q⟩ := hs
    exact ⟨o, d, q1, q2, call_of (d := takenFD) hT rfl ⟨f, s', e, q⟩⟩
  show Ev (evSs _ takenFD.body) ⟨[some (.pv (.int n)), some (.pv (.int p)), none], h⟩ _
  unfold takenFD
  dsimp only
  have hpos : (0 : Int) < p := by omega
  have hdiv : divOk (p : Int) = true := divOk_n (by omega) hp2
  k_steps
  refine wh_inv (I := fun m s => ∃ o d : Nat, s = ⟨[some (.pv (.int d)), some (.pv (.int p)), some (.pv (.int o))], h⟩ ∧ n = p ^ o * d ∧ 1 ≤ d ∧ d ≤ n ∧ d = m) n (by unfold wFuel; omega) ⟨0, n, rfl, by simp, h1, Nat.le_refl _, rfl⟩ ?_
  rintro m s ⟨o, d, rfl, hn, hd, hle, rfl⟩
  have e0 : (d : Int) % p = ((d % p : Nat) : Int) := by rw [Int.natCast_emod]
  k_steps
  rw [e0]
  refine ⟨fun hc => ?_, fun hc => ?_⟩
  · have hc : ¬ p ∣ d := fun z => by
      have := Nat.mod_eq_zero_of_dvd z
      rw [this] at hc
      exact absurd hc (by decide)
    refine k_nx (s' := ⟨[some (.pv (.int d)), some (.pv (.int p)), some (.pv (.int o))], h⟩) rfl ?_
    k_steps
    exact ⟨o, d, hn, hc, finc_pv rfl⟩
  · have hc : d % p = 0 := by
      have := of_decide_eq_true hc
      omega
    k_steps
    have e1 : (d : Int) / p = ((d / p : Nat) : Int) := by rw [Int.natCast_ediv]
    have e2 : (o : Int) + 1 = ((o + 1 : Nat) : Int) := by rw [Int.natCast_add]; rfl
    rw [e1, e2]
    have hm : p * (d / p) = d := Nat.mul_div_cancel' (Nat.dvd_of_mod_eq_zero hc)
    have hq : 1 ≤ d / p := Nat.div_pos (Nat.le_of_dvd hd (Nat.dvd_of_mod_eq_zero hc)) (by omega)
    have hlt : d / p < d := Nat.div_lt_self hd (by omega)
    refine ⟨d / p, hlt, o + 1, d / p, rfl, ?_, hq, by omega, rfl⟩
    rw [hn, Nat.pow_succ, Nat.mul_assoc, hm]
theorem p_inn {s : DS} {a b : EV} {x : PV} {bb : Bool} {xs : List PV} {Q : EV → DS → Prop} (h0 : pvOf s a = some x) (h : itemsOf s b = some (bb, xs)) (hf : (flatP x && xs.all flatP) = true) (q : Q (.pv (.bl (inP x xs))) s) : Ev (primF .inn [a, b]) s Q :=
  .conv (d := M.bnd (M.chk (flatP x && xs.all flatP)) (fun _ => vbl (inP x xs))) (by show innF a b s = _; unfold innF; rw [h0, h]) (.bnd (.chk hf (.ret q)))
def hq (n v : Nat) : Nat → Nat
  | 0 => v
  | i + 1 => hq n v i * hq n v i % n
def dpB (n v o : Nat) : Bool := v == 1 || v == n - 1 || (List.range (o - 1)).any fun i => hq n v (i + 1) == n - 1
theorem hq_bd {n v : Nat} (h : 1 ≤ n) (hv : v ≤ n) : ∀ i, hq n v i ≤ n
  | 0 => hv
  | i + 1 => by unfold hq; exact Nat.le_of_lt (Nat.mod_lt _ h)
theorem pass_ok (hW : Pf[pw]? = some powerFD) (hD : Pf[dp]? = some (passFD pw)) (k : Nat) (h : List DO) (n b o d : Nat) (h1 : 2 ≤ n) (h2 : n < 2 ^ 60) (hd : d < 2 ^ 60) (ho : o < 2 ^ 60) : callF Pf (k + 2) dp [.pv (.int n), .pv (.int b), .pv (.int o), .pv (.int d)] h = .ok (.pv (.bl (dpB n (pl b d n) o))) h := by
  refine call_of (d := passFD pw) hD rfl ?_
  show Ev (evSs _ (passFD pw).body) ⟨[some (.pv (.int n)), some (.pv (.int b)), some (.pv (.int o)), some (.pv (.int d)), none, none], h⟩ _
  unfold passFD
  dsimp only
  k_steps
  refine ev_call (pl_ok hW k h b d n (by omega) h2 hd) ?_
  have hv : pl b d n ≤ n := by
    unfold pl
    split
    · omega
    · exact Nat.le_of_lt (Nat.mod_lt _ (by omega))
  generalize pl b d n = v at hv
  k_steps
  refine p_inn rfl rfl rfl ?_
  have e1 : inP (.int (v : Int)) [.int 1, .int ((n : Int) - 1)] = (v == 1 || v == n - 1) := by
    unfold inP
    simp only [List.any_cons, List.any_nil, eqP, Bool.or_false]
    have a : ((1 : Int) == (v : Int)) = (v == 1) := by rw [Bool.eq_iff_iff]; simp; omega
    have c : ((n : Int) - 1 == (v : Int)) = (v == n - 1) := by rw [Bool.eq_iff_iff]; simp; omega
    rw [a, c]
  rw [e1]
  k_steps
  refine ⟨fun hc => ?_, fun hc => ?_⟩
  · k_steps
    unfold dpB
    rw [hc, Bool.true_or]
    exact finc_pv rfl
  · refine s_for ?_
    k_steps
    refine i_rng1 (rngOk_of (by omega) (by omega)) ?_
    have hn : ((o : Int) - 1).toNat = o - 1 := by omega
    rw [hn]
    refine l_int (l_nil ?_)
    refine for_inv (I := fun i s => ∃ a, s = ⟨[some (.pv (.int n)), some (.pv (.int b)), some (.pv (.int o)), some (.pv (.int d)), some (.pv (.int (hq n v i))), a], h⟩ ∧ NL a ∧ ∀ j, j < i → (hq n v (j + 1) == n - 1) = false) ⟨none, rfl, (fun _ z => nomatch z), fun j hj => absurd hj (by omega)⟩ (fun i x s hp hI => ?_) fun s hI => ?_
    · obtain ⟨a, rfl, ha, hno⟩ := hI
      obtain ⟨hi, rfl⟩ := rangeL_at hp
      have hb := hq_bd (show 1 ≤ n by omega) hv i
      have hm : mulOk (hq n v i : Int) (hq n v i : Int) = true := mulOk_l (by omega)
      have hpos : (0 : Int) < n := by omega
      have e2 : (hq n v i : Int) * (hq n v i : Int) % n = ((hq n v (i + 1) : Nat) : Int) := by rw [show hq n v (i + 1) = hq n v i * hq n v i % n from rfl, Int.natCast_emod, Int.natCast_mul]
      k_steps
      rw [e2]
      refine ⟨fun hd => ?_, fun hd => ?_⟩
      · k_steps
        have hd : ((hq n v (i + 1) : Nat) : Int) = n - 1 := by simpa using hd
        refine k_rt (s' := ⟨_, h⟩) rfl ?_
        have : dpB n v o = true := by
          unfold dpB
          rw [hc, Bool.false_or, List.any_eq_true]
          exact ⟨i, List.mem_range.mpr hi, by simp; omega⟩
        rw [this]
        exact finc_pv rfl
      · have hd : ¬ ((hq n v (i + 1) : Nat) : Int) = n - 1 := by simpa using hd
        k_steps
        refine ⟨some (.pv (.int (0 + i))), rfl, (fun _ z => nomatch z), fun j hj => ?_⟩
        by_cases z : j < i
        · exact hno j z
        · have : j = i := by omega
          subst this
          simp; omega
    · obtain ⟨a, rfl, ha, hno⟩ := hI
      rw [rangeL_length] at hno
      refine k_nx (s' := ⟨[some (.pv (.int n)), some (.pv (.int b)), some (.pv (.int o)), some (.pv (.int d)), some (.pv (.int (hq n v (rangeL 0 (o - 1)).length))), a], h⟩) rfl ?_
      k_steps
      have : dpB n v o = false := by
        unfold dpB
        rw [hc, Bool.false_or, List.any_eq_false]
        intro j hj
        rw [hno j (List.mem_range.mp hj)]; decide
      rw [this]
      exact finc_pv rfl
def smallN : List Nat := [2, 3, 5, 7, 11, 13, 17, 19, 23, 29, 31, 37]
def smallP : List PV := smallN.map fun (s : Nat) => PV.int (s : Int)
def ipn (p : Nat) : Bool := if p < 2 then false else match smallN.find? (fun s => p % s == 0) with
  | some s => p == s
  | none => smallN.all fun s => dpB p (pl s (tk 2 64 (p - 1)).2 p) (tk 2 64 (p - 1)).1
theorem p_all {s : DS} {a : EV} {bs : List Bool} {xs : List PV} {Q : EV → DS → Prop} (h : coOf s a = some (.lst xs)) (h2 : boolsOf xs = some bs) (q : Q (.pv (.bl (bs.all id))) s) : Ev (primF .all [a]) s Q :=
  .conv (d := allF a) rfl (.conv (d := M.bnd (M.opt (boolsOf xs)) (fun bs => vbl (bs.all id))) (by unfold allF; rw [h]) (.bnd (.opt h2 (.ret q))))
theorem bools_map : ∀ bs : List Bool, boolsOf (bs.map PV.bl) = some bs
  | [] => rfl
  | b :: bs => by simp only [List.map_cons, boolsOf, bools_map bs]; rfl
theorem small_at {i : Nat} {x : PV} (h : smallP[i]? = some x) : ∃ s : Nat, smallN[i]? = some s ∧ x = .int s ∧ 2 ≤ s ∧ s ≤ 37 := by
  unfold smallP at h
  rw [List.getElem?_map] at h
  cases q : smallN[i]? with
  | none => rw [q] at h; cases h
  | some s =>
    rw [q] at h; cases h
    have hm := List.mem_of_getElem? q
    have : ∀ s ∈ smallN, 2 ≤ s ∧ s ≤ 37 := by decide
    exact ⟨s, rfl, rfl, this s hm⟩
theorem find_first {α : Type} {f : α → Bool} : ∀ {xs : List α} {i : Nat} {x : α}, xs[i]? = some x → f x = true → (∀ (j : Nat) (y : α), j < i → xs[j]? = some y → f y = false) → xs.find? f = some x
  | [], _, _, h, _, _ => by simp at h
  | y :: ys, 0, x, h, hf, _ => by simp at h; subst h; rw [List.find?_cons_of_pos hf]
  | y :: ys, i + 1, x, h, hf, hn => by
    rw [List.find?_cons_of_neg (by rw [hn 0 y (by omega) rfl]; decide)]
    exact find_first (i := i) (by simpa using h) hf fun j z hj hz => hn (j + 1) z (by omega) (by simpa using hz)
theorem prime_ok (hT : Pf[t]? = some takenFD) (hW : Pf[pw]? = some powerFD) (hD : Pf[dp]? = some (passFD pw)) (hI : Pf[ip]? = some (primeFD t dp)) (k : Nat) (h : List DO) (p : Nat) (h0 : 1 ≤ p) (h2 : p < 2 ^ 60) : callF Pf (k + 3) ip [.pv (.int p)] h = .ok (.pv (.bl (ipn p))) h := by
  refine call_of (d := primeFD t dp) hI rfl ?_
  show Ev (evSs _ (primeFD t dp).body) ⟨[some (.pv (.int p)), none, none, none, none], h⟩ _
  unfold primeFD
  dsimp only
  k_steps
  refine ⟨fun hc => ?_, fun hc => ?_⟩
  · k_steps
    have z : p < 2 := by simp at hc; omega
    unfold ipn
    rw [if_pos z]
    exact finc_pv rfl
  have h1 : 2 ≤ p := by simp at hc; omega
  clear hc
  k_steps
  refine s_for ?_
  k_steps
  refine i_seq rfl ?_
  refine l_tup (l_nil ?_)
  show Ev (forF _ _ smallP) _ _
  refine for_inv (I := fun i s => ∃ a, s = ⟨[some (.pv (.int p)), some (.pv (.tup smallP)), a, none, none], h⟩ ∧ NL a ∧ ∀ (j s : Nat), j < i → smallN[j]? = some s → (p % s == 0) = false) ⟨none, rfl, (fun _ z => nomatch z), fun j s hj => absurd hj (by omega)⟩ (fun i x s hp hI => ?_) fun s hI => ?_
  · obtain ⟨a, rfl, ha, hno⟩ := hI
    obtain ⟨q, hq1, rfl, q2, q3⟩ := small_at hp
    have hpos : (0 : Int) < q := by omega
    have e : (p : Int) % q = ((p % q : Nat) : Int) := by rw [Int.natCast_emod]
    k_steps
    rw [e]
    refine ⟨fun hd => ?_, fun hd => ?_⟩
    · have hd : p % q = 0 := Int.ofNat_eq_zero.mp (of_decide_eq_true hd)
      k_steps
      refine k_rt (s' := ⟨_, h⟩) rfl ?_
      have : ipn p = decide ((p : Int) = q) := by
        unfold ipn
        rw [if_neg (show ¬ p < 2 by omega), find_first hq1 (by rw [hd]; rfl) fun j y hj hy => hno j y hj hy]
        show (p == q) = _
        rw [Bool.eq_iff_iff]; simp; omega
      rw [this]
      exact finc_pv rfl
    · have hd : ¬ p % q = 0 := fun z => of_decide_eq_false hd (by rw [z]; rfl)
      k_steps
      refine ⟨some (.pv (.int q)), rfl, (fun _ z => nomatch z), fun j s hj hs => ?_⟩
      by_cases z : j < i
      · exact hno j s z hs
      · have : j = i := by omega
        subst this
        rw [hq1] at hs; cases hs
        simpa using hd
  · obtain ⟨a, rfl, ha, hno⟩ := hI
    refine k_nx (s' := ⟨[some (.pv (.int p)), some (.pv (.tup smallP)), a, none, none], h⟩) rfl ?_
    obtain ⟨o, d, hod, hd1, hcall⟩ := taken_ok hT (k + 1) h (p - 1) 2 (by omega) (by omega) (by decide) (by decide)
    have hd0 : 1 ≤ d := Nat.pos_of_ne_zero fun z => by subst z; exact hd1 (Nat.dvd_zero _)
    have ho : o < 60 := pow_lt60 (by decide) hd0 hod (by omega)
    have hdl : d ≤ p - 1 := by rw [hod]; exact Nat.le_mul_of_pos_left _ (Nat.two_pow_pos o)
    have ht : tk 2 64 (p - 1) = (o, d) := by rw [hod]; exact tk_ok (by decide) hd1 o 64 (by omega)
    have em : (p : Int) - 1 = ((p - 1 : Nat) : Int) := by omega
    refine s_unp ?_
    k_steps
    rw [em]
    refine ev_call hcall ?_
    refine ⟨_, rfl, rfl, ?_⟩
    k_steps
    refine e_comp ?_
    k_steps
    refine i_seq rfl ⟨by show 12 ≤ 16777216; omega, ?_⟩
    refine l_tup (l_nil ?_)
    have hown : ∀ e : List (Option SV), e[2]? = some a → [2].all (notLk e) = true := fun e he => by
      simp only [List.all_cons, List.all_nil, Bool.and_true]
      unfold notLk
      rw [he]
      cases a with
      | none => rfl
      | some v => cases v with
        | lk c => exact (ha c rfl).elim
        | pv _ => rfl
        | own _ => rfl
    refine comp_inv (I := fun i acc s => s = ⟨[some (.pv (.int p)), some (.pv (.tup smallP)), none, some (.pv (.int o)), some (.pv (.int d))], h⟩ ∧ acc = ((smallN.take i).map fun s => dpB p (pl s d p) o).map PV.bl) (hown _ rfl) ⟨rfl, rfl⟩ (fun i x acc s hp hI => ?_) fun acc s1 hI => ?_
    · obtain ⟨rfl, rfl⟩ := hI
      obtain ⟨q, hq1, rfl, q2, q3⟩ := small_at hp
      k_steps
      refine c_none ⟨fun _ => ?_, fun z => nomatch z⟩
      k_steps
      refine ev_call (pass_ok hW hD k h p q o d h1 (by omega) (by omega) (by omega)) ?_
      k_steps
      refine ⟨rfl, rfl, ?_⟩
      rw [List.take_add_one, hq1, List.map_append, List.map_append]; rfl
    · obtain ⟨rfl, rfl⟩ := hI
      show Ev _ ⟨[some (.pv (.int p)), some (.pv (.tup smallP)), a, some (.pv (.int o)), some (.pv (.int d))], h⟩ _
      k_steps
      refine p_all rfl (bools_map _) ?_
      have : ipn p = (((smallN.take smallP.length).map fun s => dpB p (pl s d p) o).all id) := by
        unfold ipn
        rw [if_neg (show ¬ p < 2 by omega)]
        have none : smallN.find? (fun s => p % s == 0) = none := by
          rw [List.find?_eq_none]
          intro s hs
          obtain ⟨j, hj⟩ := List.mem_iff_getElem?.mp hs
          have hjl : j < smallP.length := by
            have := (List.getElem?_eq_some_iff.mp hj).1
            simpa [smallP] using this
          rw [hno j s hjl hj]; decide
        rw [none, ht]
        show smallN.all _ = _
        rw [show smallP.length = smallN.length by simp [smallP], List.take_length, List.all_map]; rfl
      rw [this]
      exact finc_pv rfl
def pn (z : Nat × Nat) : PV := .tup [.int (z.1 : Int), .int (z.2 : Int)]
def Wh (p : Nat) : Prop := p = 2 ∨ p = 3 ∨ (5 ≤ p ∧ (p % 6 = 5 ∨ p % 6 = 1))
def stp (p : Nat) : Nat := if p = 2 then 1 else if p = 3 ∨ p % 6 = 5 then 2 else 4
theorem Wh.next {p : Nat} (h : Wh p) : Wh (p + stp p) := by
  unfold stp
  split
  · unfold Wh; omega
  · split
    · unfold Wh at h ⊢; omega
    · unfold Wh at h ⊢; omega
theorem Wh.rough {p m : Nat} (hw : Wh p) (h : Rough (p + 1) m) : Rough (p + stp p) m := by
  intro d h1 h2 hd
  by_cases z : d ≤ p
  · exact h d h1 (by omega) hd
  · have k : d % 2 = 0 ∨ (d % 3 = 0 ∧ 3 ≤ p) := by
      unfold stp at h2
      unfold Wh at hw
      split at h2
      · omega
      · split at h2 <;> omega
    have hp2 : 2 ≤ p := by unfold Wh at hw; omega
    rcases k with k | ⟨k, k2⟩
    · exact h 2 (Nat.le_refl _) (by omega) (Nat.dvd_trans (Nat.dvd_of_mod_eq_zero k) hd)
    · exact h 3 (by decide) (by omega) (Nat.dvd_trans (Nat.dvd_of_mod_eq_zero k) hd)
theorem stp_pos (p : Nat) : 1 ≤ stp p ∧ stp p ≤ 4 := by
  unfold stp
  split
  · omega
  · split <;> omega
theorem prodL_len : ∀ {lo : Nat} {L : PL}, Asc lo L → 2 ^ L.length ≤ prodL L
  | _, [], _ => Nat.le_refl _
  | lo, z :: r, a => by
    have h1 := prodL_len a.2.2.2
    have h2 : 2 ≤ z.1 ^ z.2 := Nat.le_trans a.2.1.1 (Nat.le_self_pow (by have := a.2.2.1; omega) _)
    rw [List.length_cons, Nat.pow_succ, Nat.mul_comm]
    exact Nat.mul_le_mul h2 h1
theorem s_brk {F : FE} {sts : List S} {s : DS} {Q : Fl → DS → Prop} (h : Q .bk s) : Ev (evSs F (.brk :: sts)) s Q := s_cons (.eq (s' := s) (a := .bk) (by simp only [evS]) h)
abbrev turnTail (ip : Nat) : List S := [.ite (.andE (.prim .eq [.var 2, .con (.int 1009)]) (.call ip [.var 0] [])) [.brk] [], .asg 2 (.prim .add [.var 2, .iff (.prim .eq [.var 2, .con (.int 2)]) (.con (.int 1)) (.iff (.orE (.prim .eq [.var 2, .con (.int 3)]) (.prim .eq [.prim .mod [.var 2, .con (.int 6)], .con (.int 5)])) (.con (.int 2)) (.con (.int 4)))])]
theorem stp_ok {G : FE} {h : List DO} {x0 x1 x3 : Option SV} {p : Nat} {Q : Fl → DS → Prop} (q : Q .nx ⟨[x0, x1, some (.pv (.int ((p + stp p : Nat) : Int))), x3], h⟩) :
    Ev (evSs G [.asg 2 (.prim .add [.var 2, .iff (.prim .eq [.var 2, .con (.int 2)]) (.con (.int 1)) (.iff (.orE (.prim .eq [.var 2, .con (.int 3)]) (.prim .eq [.prim .mod [.var 2, .con (.int 6)], .con (.int 5)])) (.con (.int 2)) (.con (.int 4)))])]) ⟨[x0, x1, some (.pv (.int p)), x3], h⟩ Q := by
  k_steps
  refine ⟨fun hc => ?_, fun hc => ?_⟩
  · have hc : p = 2 := by have := of_decide_eq_true hc; omega
    k_steps
    have e : (p : Int) + 1 = ((p + stp p : Nat) : Int) := by unfold stp; rw [if_pos hc]; omega
    rw [e]; exact q
  · have hc : ¬ p = 2 := fun z => of_decide_eq_false hc (by rw [z]; rfl)
    have e6 : (p : Int) % 6 = ((p % 6 : Nat) : Int) := by rw [Int.natCast_emod]; rfl
    k_steps
    refine t_or ?_
    k_steps
    refine ⟨fun hd => ?_, fun hd => ?_⟩
    · have hd : p = 3 := by have := of_decide_eq_true hd; omega
      refine ⟨fun _ => ?_, fun z => nomatch z⟩
      k_steps
      have e : (p : Int) + 2 = ((p + stp p : Nat) : Int) := by unfold stp; rw [if_neg hc, if_pos (.inl hd)]; omega
      rw [e]; exact q
    · have hd : ¬ p = 3 := fun z => of_decide_eq_false hd (by rw [z]; rfl)
      k_steps
      rw [e6]
      refine ⟨fun he => ?_, fun he => ?_⟩
      · have he : p % 6 = 5 := by have := of_decide_eq_true he; omega
        k_steps
        have e : (p : Int) + 2 = ((p + stp p : Nat) : Int) := by unfold stp; rw [if_neg hc, if_pos (.inr he)]; omega
        rw [e]; exact q
      · have he : ¬ p % 6 = 5 := fun z => of_decide_eq_false he (by rw [z]; rfl)
        k_steps
        have e : (p : Int) + 4 = ((p + stp p : Nat) : Int) := by unfold stp; rw [if_neg hc, if_neg (by omega)]; omega
        rw [e]; exact q
theorem turn_tail (hT : Pf[t]? = some takenFD) (hW : Pf[pw]? = some powerFD) (hD : Pf[dp]? = some (passFD pw)) (hI : Pf[ip]? = some (primeFD t dp)) {k : Nat} {h : List DO} {x1 x3 : Option SV} {m p : Nat} {Q : Fl → DS → Prop} (h1 : 1 ≤ m) (h2 : m < 2 ^ 60)
    (qb : ipn m = true → Q .bk ⟨[some (.pv (.int m)), x1, some (.pv (.int p)), x3], h⟩) (q : Q .nx ⟨[some (.pv (.int m)), x1, some (.pv (.int ((p + stp p : Nat) : Int))), x3], h⟩) :
    Ev (evSs (callF Pf (k + 3)) (turnTail ip)) ⟨[some (.pv (.int m)), x1, some (.pv (.int p)), x3], h⟩ Q := by
  unfold turnTail
  refine s_ite ?_
  refine t_and ?_
  k_steps
  refine ⟨fun hc => ?_, fun hc => ⟨fun z => (nomatch z), fun _ => stp_ok q⟩⟩
  refine t_call ?_
  k_steps
  refine ev_call (prime_ok hT hW hD hI k h m h1 h2) ?_
  k_steps
  refine ⟨fun hd => s_brk (qb hd), fun hd => stp_ok q⟩
theorem fin_primes {G : FE} {h : List DO} {F : PL} {m n : Nat} {x2 x3 : Option SV} (hl : F.length < 60) (hf : fac n = F ++ tailL m) :
    Ev (evSs G [.ret (.prim .tuple [.prim .add [.var 1, .iff (.prim .gt [.var 0, .con (.int 1)]) (.prim .mkLst [.prim .mkTup [.var 0, .con (.int 1)]]) (.prim .mkLst [])]])]) ⟨[some (.pv (.int m)), some (.own (.lst (F.map pn))), x2, x3], h⟩
      fun f s' => finC h (.ok f s') = .ok (.pv (.tup ((fac n).map pn))) h := by
  k_steps
  refine ⟨fun hc => ?_, fun hc => ?_⟩
  · have hc : 1 < m := by have := of_decide_eq_true hc; omega
    k_steps
    refine p_addL rfl rfl rfl (by simp; show F.length + 1 ≤ 16777216; omega) ?_
    k_steps
    refine p_tupleL rfl ?_
    have e : (fac n).map pn = F.map pn ++ [.tup [.int (m : Int), .int 1]] := by
      rw [hf, List.map_append]
      unfold tailL
      rw [if_pos hc]; rfl
    rw [e]
    exact finc_pv rfl
  · have hc : ¬ 1 < m := by have := of_decide_eq_false hc; omega
    k_steps
    refine p_addL rfl rfl rfl (by simp; show F.length ≤ 16777216; omega) ?_
    k_steps
    refine p_tupleL rfl ?_
    have e : (fac n).map pn = F.map pn ++ [] := by
      rw [hf, List.map_append]
      unfold tailL
      rw [if_neg hc]; rfl
    rw [e]
    exact finc_pv rfl
theorem primes_ok (hT : Pf[t]? = some takenFD) (hW : Pf[pw]? = some powerFD) (hD : Pf[dp]? = some (passFD pw)) (hI : Pf[ip]? = some (primeFD t dp)) (hP : Pf[ix]? = some (primesFD t ip)) (k : Nat) (h : List DO) (n : Nat) (h1 : 1 ≤ n) (h2 : n < 2 ^ 60)
    (hs : ∀ m, m ∣ n → ipn m = true → IsPr m) : callF Pf (k + 4) ix [.pv (.int n)] h = .ok (.pv (.tup ((fac n).map pn))) h := by
  refine call_of (d := primesFD t ip) hP rfl ?_
  show Ev (evSs _ (primesFD t ip).body) ⟨[some (.pv (.int n)), none, none, none], h⟩ _
  unfold primesFD
  dsimp only
  k_steps
  refine wh_inv (I := fun μ s => ∃ (m : Nat) (F : PL) (p : Nat) (a : Option SV), s = ⟨[some (.pv (.int m)), some (.own (.lst (F.map pn))), some (.pv (.int p)), a], h⟩ ∧ NL a ∧ Pre p F ∧ prodL F * m = n ∧ 1 ≤ m ∧ Rough p m ∧ Wh p ∧ p ≤ n + 4 ∧ m - p = μ) (n - 2) (by unfold wFuel; omega)
    ⟨n, [], 2, none, rfl, (fun _ z => nomatch z), Pre.nil, by simp [prodL], h1, Rough.two n, .inl rfl, by omega, rfl⟩ ?_
  rintro μ s ⟨m, F, p, a, rfl, ha, hpre, hn, hm, hr, hw, hpn, rfl⟩
  have hp2 : 2 ≤ p := by unfold Wh at hw; omega
  have hmn : m ∣ n := ⟨prodL F, by rw [← hn, Nat.mul_comm]⟩
  have hml := Nat.le_of_dvd h1 hmn
  have hpos : (0 : Int) < p := by omega
  have hpp : mulOk (p : Int) (p : Int) = true := mulOk_l (by omega)
  have hlen : ∀ {q : Nat} {F : PL} {m : Nat}, Pre q F → 1 ≤ m → prodL F * m = n → F.length < 60 := fun {q F m} a b c => by
    have := prodL_len a.fin
    have : prodL F ≤ n := by rw [← c]; exact Nat.le_mul_of_pos_right _ b
    exact (Nat.pow_lt_pow_iff_right (by decide : 1 < 2)).mp (by omega)
  have e0 : (m : Int) % p = ((m % p : Nat) : Int) := by rw [Int.natCast_emod]
  have epp : (p : Int) * p = ((p * p : Nat) : Int) := by rw [Int.natCast_mul]
  k_steps
  rw [epp]
  refine ⟨fun hc => ?_, fun hc => ?_⟩
  · have hc : m < p * p := by have := of_decide_eq_false hc; omega
    refine k_nx (s' := ⟨[some (.pv (.int m)), some (.own (.lst (F.map pn))), some (.pv (.int p)), a], h⟩) rfl ?_
    exact fin_primes (hlen hpre hm hn) (fac_is h1 h2 (hpre.tail hp2 (fun g => ⟨hr.prime g hc, hr.self g⟩) hm hn))
  · have hc : p * p ≤ m := by have := of_decide_eq_true hc; omega
    have hpm : p + p ≤ m := by
      have := Nat.mul_le_mul_right p hp2
      omega
    refine s_ite ?_
    k_steps
    rw [e0]
    refine ⟨fun hd => ?_, fun hd => ?_⟩
    · have hd : m % p = 0 := by have := of_decide_eq_true hd; omega
      obtain ⟨o, d, hod, hnd, hcall⟩ := taken_ok hT (k + 2) h m p hm (by omega) hp2 (by omega)
      have hd1 : 1 ≤ d := Nat.pos_of_ne_zero fun z => by subst z; exact hnd (Nat.dvd_zero _)
      have ho1 : 1 ≤ o := Nat.pos_of_ne_zero fun z => by
        subst z
        rw [Nat.pow_zero, Nat.one_mul] at hod
        exact hnd (hod ▸ Nat.dvd_of_mod_eq_zero hd)
      have hdm : d ∣ m := ⟨p ^ o, by rw [hod, Nat.mul_comm]⟩
      have hdl := Nat.le_of_dvd hm hdm
      have hpr : IsPr p := hr.pr hp2 (Nat.dvd_of_mod_eq_zero hd)
      have hr' : Rough (p + 1) d := (hr.down (Nat.le_refl _) hdm).next hnd
      have hpre' : Pre (p + 1) (F ++ [(p, o)]) := hpre.snoc hpr ho1
      have hn' : prodL (F ++ [(p, o)]) * d = n := by
        rw [prodL_app]
        show prodL F * (p ^ o * 1) * d = n
        rw [Nat.mul_one, Nat.mul_assoc, ← hod]; exact hn
      have eF : (F ++ [(p, o)]).map pn = F.map pn ++ [.tup [.int (p : Int), .int (o : Int)]] := by rw [List.map_append]; rfl
      refine s_unp ?_
      k_steps
      refine ev_call hcall ?_
      refine ⟨_, rfl, rfl, ?_⟩
      k_steps
      refine p_append rfl (by rw [List.length_map]; have := hlen hpre hm hn; show F.length < 16777216; omega) rfl rfl ?_
      dsimp only [List.set]
      rw [← eF]
      refine s_ite ?_
      refine t_call ?_
      k_steps
      refine ev_call (prime_ok hT hW hD hI k h d hd1 (by omega)) ?_
      k_steps
      refine ⟨fun he => s_brk ?_, fun he => ?_⟩
      · refine k_nx (s' := ⟨[some (.pv (.int d)), some (.own (.lst ((F ++ [(p, o)]).map pn))), some (.pv (.int p)), some (.pv (.int o))], h⟩) rfl ?_
        exact fin_primes (hlen hpre' hd1 hn') (fac_is h1 h2 (hpre'.tail (by omega) (fun g => ⟨hs d (Nat.dvd_trans hdm hmn) he, hr'.self g⟩) hd1 hn'))
      · refine turn_tail hT hW hD hI hd1 (by omega) (fun z => by rw [he] at z; cases z) ?_
        have sp := stp_pos p
        exact ⟨d - (p + stp p), by omega, d, F ++ [(p, o)], p + stp p, some (.pv (.int o)), rfl, (fun _ z => nomatch z), hpre'.up (by omega), hn', hd1, hw.rough hr', hw.next, by omega, rfl⟩
    · have hd : ¬ p ∣ m := fun z => of_decide_eq_false hd (by rw [Nat.mod_eq_zero_of_dvd z]; rfl)
      have hr' := hr.next hd
      refine turn_tail hT hW hD hI hm (by omega) (fun he => ?_) ?_
      · refine k_nx (s' := ⟨[some (.pv (.int m)), some (.own (.lst (F.map pn))), some (.pv (.int p)), a], h⟩) rfl ?_
        exact fin_primes (hlen hpre hm hn) (fac_is h1 h2 (hpre.tail hp2 (fun g => ⟨hs m hmn he, hr.self g⟩) hm hn))
      · have sp := stp_pos p
        exact ⟨m - (p + stp p), by omega, m, F, p + stp p, a, rfl, ha, hpre.up (by omega), hn, hm, hw.rough hr', hw.next, by omega, rfl⟩
end
end DV.Num
namespace DV
open PySem PySem.Spec PyProof.Rows L2
section
variable {s s' : DS} {a b : EV} {Q : EV → DS → Prop}
theorem p_extend {xs ys : List PV} (h : liOf s a = some xs) (h2 : liOf s b = some ys) (hl : xs.length + ys.length ≤ sizeLine) (h3 : putCO a (.lst (xs ++ ys)) s = .ok () s') (q : Q (.pv .non) s') : Ev (primF .extend [a, b]) s Q :=
  .conv (d := M.bnd (M.chk (decide (xs.length + ys.length ≤ sizeLine))) (fun _ => M.bnd (putCO a (.lst (xs ++ ys))) fun _ => val .non)) (by show extendF a b s = _; unfold extendF; rw [h, h2]) (.bnd (.chk (decide_eq_true hl) (.bnd (.eq h3 (.ret q)))))
theorem p_borN {x y : Nat} (q : Q (.pv (.int ((x ||| y : Nat) : Int))) s) : Ev (primF .bor [.pv (.int (x : Int)), .pv (.int (y : Int))]) s Q :=
  .eq (a := .pv (.int (Builtin.bitOr x y))) (s' := s) rfl (by rw [_root_.Bits.bitOr_pp (Int.natCast_nonneg _) (Int.natCast_nonneg _), Int.toNat_natCast, Int.toNat_natCast]; exact q)
theorem and1 (z : Nat) : Builtin.bitAnd (z : Int) 1 = ((z % 2 : Nat) : Int) := by
  show Int.ofNat (Nat.land z 1) = _
  rw [show Nat.land z 1 = z &&& 1 from rfl, Nat.and_one_is_mod]
  rfl
theorem p_and1 {x : Nat} (q : Q (.pv (.int ((x % 2 : Nat) : Int))) s) : Ev (primF .band [.pv (.int (x : Int)), .pv (.int 1)]) s Q := p_band (by rw [and1]; exact q)
theorem p_shlN {x d : Nat} (h : x.log2 + 1 + d ≤ 134217728) (q : Q (.pv (.int ((x <<< d : Nat) : Int))) s) : Ev (primF .shl [.pv (.int (x : Int)), .pv (.int (d : Int))]) s Q := by
  refine p_shlW ?_ ?_
  · unfold shlOk
    rw [decide_eq_true (Int.natCast_nonneg d), Bool.true_and, Int.natAbs_natCast, Int.toNat_natCast, decide_eq_true h, Bool.or_true]
  · rw [Int.toNat_natCast, show (x : Int) * 2 ^ d = ((x <<< d : Nat) : Int) by rw [Nat.shiftLeft_eq, Int.natCast_mul, Int.natCast_pow]; rfl]
    exact q
theorem p_shr {i j : Int} (h : 0 ≤ j) (q : Q (.pv (.int (i / 2 ^ j.toNat))) s) : Ev (primF .shr [.pv (.int i), .pv (.int j)]) s Q := .conv (d := M.bnd (M.chk (decide (0 ≤ j))) fun _ => vint (i / 2 ^ j.toNat)) rfl (.bnd (.chk (decide_eq_true h) (.ret q)))
theorem p_shrN {x d : Nat} (q : Q (.pv (.int ((x >>> d : Nat) : Int))) s) : Ev (primF .shr [.pv (.int (x : Int)), .pv (.int (d : Int))]) s Q := by
  refine p_shr (Int.natCast_nonneg d) ?_
  rw [Int.toNat_natCast, show (x : Int) / 2 ^ d = ((x >>> d : Nat) : Int) by rw [Nat.shiftRight_eq_div_pow, Int.natCast_ediv, Int.natCast_pow]; rfl]
  exact q
theorem p_sorted {xs : List PV} {ns : List Int} (h : coOf s a = some (.lst xs)) (h2 : intsOf xs = some ns) (hl : ns.length ≤ sizeLine) (q : Q (.tmp (.lst ((sortI ns).map .int))) s) : Ev (primF .sorted [a]) s Q :=
  .conv (d := newL ((sortI ns).map .int)) (by show sortedF a s = _; unfold sortedF; rw [h]; show sortL xs s = _; unfold sortL; rw [h2]) (.bnd (.chk (decide_eq_true (by rw [List.length_map, (sortI_perm ns).length_eq]; exact hl)) (.ret q)))
theorem cutM1 {α : Type} (xs : List α) : cut xs none (some (-1)) = xs.dropLast := by
  unfold cut
  have e1 : HT.sIx xs.length 0 none = 0 := rfl
  have e2 : HT.sIx xs.length xs.length (some (-1)) = xs.length - 1 := by
    show (if (-1 : Int) < 0 then ((-1 : Int) + (xs.length : Int)).toNat else min (-1 : Int).toNat xs.length) = _
    rw [if_pos (by decide)]; omega
  rw [e1, e2, List.drop_zero, Nat.sub_zero, List.dropLast_eq_take]
theorem p_cutM {xs : List PV} (h : itemsOf s a = some (true, xs)) (hb : optI s b = some (-1)) (q : Q (.tmp (.lst xs.dropLast)) s) : Ev (primF (.slice false true) [a, b]) s Q :=
  .conv (d := cutF a none (some (-1))) (by show sliceFTF a b s = _; unfold sliceFTF; rw [hb]) (.eq (a := .tmp (.lst xs.dropLast)) (s' := s) (by unfold cutF; rw [h]; simp only [cutM1]) q)
theorem p_rev {xs : List PV} (h : coOf s a = some (.lst xs)) (q : Q (.tmp (.lst xs.reverse)) s) : Ev (primF .rev [a]) s Q :=
  .eq (a := .tmp (.lst xs.reverse)) (s' := s) (by show revF a s = _; unfold revF; rw [h]) q
theorem e_chk {F : FE} {e : E} {i : Int} (h : Ev (evE F e) s fun v s1 => optI s1 v = some i ∧ Q (.pv (.int i)) s1) : Ev (evE F (.chkI e)) s Q := e_chkI (h.mono fun v s1 ⟨a, b⟩ => ⟨i, a, b⟩)
end
theorem stepN_down (n : Nat) : stepN ((n : Int) - 1) (-1) (-1) = n := by
  unfold stepN Builtin.Range.rangeSize
  rw [if_neg (by decide)]
  split
  · rw [show - (-1 : Int) = 1 from rfl, Int.ediv_one]; omega
  · omega
theorem stepOk_down {n : Nat} (h : n < 2 ^ 40) : stepOk ((n : Int) - 1) (-1) (-1) = true := by
  unfold stepOk Builtin.Range.small
  have hn : Builtin.Range.rangeSize ((n : Int) - 1) (-1) (-1) = n := by
    unfold Builtin.Range.rangeSize
    rw [if_neg (by decide)]
    split
    · rw [show - (-1 : Int) = 1 from rfl, Int.ediv_one]; omega
    · omega
  rw [hn]
  simp only [Builtin.Range.rangeFitsLong, Bool.and_eq_true, Bool.or_eq_true, decide_eq_true_eq, beq_iff_eq, show ¬ ((-1 : Int) > 0) by decide, if_false]
  omega
namespace Num
def geo (p : Nat) : Nat → Nat
  | 0 => 1
  | k + 1 => geo p k * p + 1
def sg : PL → Nat
  | [] => 1
  | z :: r => geo z.1 z.2 * sg r
theorem sg_app : ∀ F T : PL, sg (F ++ T) = sg F * sg T
  | [], T => by simp [sg]
  | z :: F, T => by simp only [List.cons_append, sg, sg_app F T, Nat.mul_assoc]
theorem geo_pow {p : Nat} (hp : 2 ≤ p) : ∀ k, geo p k * (p - 1) + 1 = p ^ (k + 1)
  | 0 => by simp [geo]; omega
  | k + 1 => by
    have ih := geo_pow hp k
    have e : (geo p k * p + 1) * (p - 1) + 1 = (geo p k * (p - 1) + 1) * p := by
      rw [Nat.add_mul, Nat.add_mul, Nat.mul_right_comm]; omega
    show (geo p k * p + 1) * (p - 1) + 1 = p ^ (k + 1 + 1)
    rw [e, ih, ← Nat.pow_succ]
theorem geo_div {p : Nat} (hp : 2 ≤ p) (k : Nat) : (p ^ (k + 1) - 1) / (p - 1) = geo p k := by
  have h := geo_pow hp k
  rw [← h, Nat.add_sub_cancel, Nat.mul_div_cancel _ (by omega)]
theorem geo_lt {p : Nat} (hp : 2 ≤ p) (k : Nat) : geo p k < 2 * p ^ k := by
  induction k with
  | zero => simp [geo]
  | succ k ih =>
    show geo p k * p + 1 < 2 * p ^ (k + 1)
    have e : 2 * p ^ (k + 1) = 2 * p ^ k * p := by rw [Nat.pow_succ, Nat.mul_assoc]
    have := Nat.mul_le_mul_right p (show geo p k + 1 ≤ 2 * p ^ k by omega)
    rw [Nat.add_mul] at this
    omega
theorem asc_mem : ∀ {lo : Nat} {L : PL} {z : Nat × Nat}, Asc lo L → z ∈ L → IsPr z.1 ∧ 1 ≤ z.2 ∧ z.1 ^ z.2 ∣ prodL L
  | _, [], _, _, h => by cases h
  | lo, y :: r, z, a, h => by
    rcases List.mem_cons.mp h with rfl | h
    · exact ⟨a.2.1, a.2.2.1, Nat.dvd_mul_right _ _⟩
    · obtain ⟨q1, q2, q3⟩ := asc_mem a.2.2.2 h
      exact ⟨q1, q2, Nat.dvd_trans q3 (Nat.dvd_mul_left _ _)⟩
def dv1 (F : List Nat) (p : Nat) : Nat → List Nat
  | 0 => []
  | k + 1 => dv1 F p k ++ F.map (· * p ^ k)
def dvF : List Nat → PL → List Nat
  | F, [] => F
  | F, z :: r => dvF (dv1 F z.1 (z.2 + 1)) r
def dvs (L : PL) : List Nat := dvF [1] L
theorem dv1_length (F : List Nat) (p : Nat) : ∀ k, (dv1 F p k).length = k * F.length
  | 0 => by simp [dv1]
  | k + 1 => by simp only [dv1, List.length_append, List.length_map, dv1_length F p k, Nat.add_mul, Nat.one_mul]
theorem dv1_mem {F : List Nat} {p d : Nat} : ∀ {k : Nat}, d ∈ dv1 F p k → ∃ c j, c ∈ F ∧ j < k ∧ d = c * p ^ j
  | 0, h => by cases h
  | k + 1, h => by
    rcases List.mem_append.mp h with h | h
    · obtain ⟨c, j, a, b, e⟩ := dv1_mem h
      exact ⟨c, j, a, by omega, e⟩
    · obtain ⟨c, a, e⟩ := List.mem_map.mp h
      exact ⟨c, k, a, by omega, e.symm⟩
theorem dvF_app : ∀ (F : List Nat) (L : PL) (z : Nat × Nat), dvF F (L ++ [z]) = dv1 (dvF F L) z.1 (z.2 + 1)
  | F, [], z => rfl
  | F, y :: r, z => dvF_app _ r z
theorem succ_le_pow {p : Nat} (hp : 2 ≤ p) (k : Nat) : k + 1 ≤ p ^ k := Nat.lt_of_lt_of_le Nat.lt_two_pow_self (Nat.pow_le_pow_left hp k)
theorem dvF_bd : ∀ {lo : Nat} {L : PL} {F : List Nat} {n : Nat}, Asc lo L → (∀ d ∈ F, 1 ≤ d ∧ d ≤ n) → F.length ≤ n → (∀ d ∈ dvF F L, 1 ≤ d ∧ d ≤ n * prodL L) ∧ (dvF F L).length ≤ n * prodL L
  | _, [], F, n, _, hF, hl => by simp only [prodL, Nat.mul_one]; exact ⟨hF, hl⟩
  | lo, z :: r, F, n, a, hF, hl => by
    have e : n * prodL (z :: r) = n * z.1 ^ z.2 * prodL r := by simp only [prodL, Nat.mul_assoc]
    rw [e]
    refine dvF_bd a.2.2.2 (fun d hd => ?_) ?_
    · obtain ⟨c, j, hc, hj, rfl⟩ := dv1_mem hd
      obtain ⟨c1, c2⟩ := hF c hc
      have := a.2.1.1
      exact ⟨Nat.mul_pos c1 (Nat.pow_pos (by omega)), Nat.mul_le_mul c2 (Nat.pow_le_pow_right (by omega) (by omega))⟩
    · rw [dv1_length, Nat.mul_comm n]
      exact Nat.mul_le_mul (succ_le_pow a.2.1.1 _) hl
theorem dvs_bd {L : PL} {lo n : Nat} (a : Asc lo L) (h : prodL L = n) : (∀ d ∈ dvs L, 1 ≤ d ∧ d ≤ n) ∧ (dvs L).length ≤ n := by
  have := dvF_bd (F := [1]) (n := 1) a (fun d hd => by rw [List.mem_singleton.mp hd]; decide) (Nat.le_refl _)
  rw [Nat.one_mul, h] at this
  exact this
def insN (x : Nat) : List Nat → List Nat
  | [] => [x]
  | y :: r => if Nat.ble x y = true then x :: y :: r else y :: insN x r
def sortN : List Nat → List Nat
  | [] => []
  | x :: r => insN x (sortN r)
theorem insN_eq (x : Nat) : ∀ l : List Nat, insI (x : Int) (l.map fun d : Nat => (d : Int)) = (insN x l).map fun d : Nat => (d : Int)
  | [] => rfl
  | y :: r => by
    simp only [List.map_cons, insI, insN, Nat.ble_eq]
    by_cases h : x ≤ y
    · rw [if_pos h, if_pos (by omega)]; rfl
    · rw [if_neg h, if_neg (by omega), insN_eq x r]; rfl
theorem sortN_eq : ∀ l : List Nat, sortI (l.map fun d : Nat => (d : Int)) = (sortN l).map fun d : Nat => (d : Int)
  | [] => rfl
  | x :: r => by simp only [List.map_cons, sortI, sortN, sortN_eq r, insN_eq]
theorem insN_perm (x : Nat) : ∀ l : List Nat, (insN x l).Perm (x :: l)
  | [] => .refl _
  | y :: r => by
    unfold insN
    split
    · exact .refl _
    · exact ((insN_perm x r).cons y).trans (.swap x y r)
theorem sortN_perm : ∀ l : List Nat, (sortN l).Perm l
  | [] => .refl _
  | x :: r => (insN_perm x _).trans ((sortN_perm r).cons x)
end Num
end DV
namespace DV
open PySem PySem.Spec PyProof.Rows L2
mutual
theorem small_lay : ∀ d : PyData, small d = true → d.canLay0 = true
  | .none, _ => by simp only [PyData.canLay0]
  | .bool b, _ => by simp only [PyData.canLay0]
  | .int i, _ => by simp only [PyData.canLay0]
  | .list xs, h => by
    simp only [small] at h
    simp only [PyData.canLay0]
    exact smallAll_lay xs h
  | .tuple xs, h => by
    simp only [small] at h
    simp only [PyData.canLay0]
    exact smallAll_lay xs h
  | .str _, h => by simp only [small] at h; cases h
  | .dict _, h => by simp only [small] at h; cases h
theorem smallAll_lay : ∀ ds : List PyData, smallAll ds = true → PyData.canLayAll0 ds = true
  | [], _ => by simp only [PyData.canLayAll0]
  | d :: ds, h => by
    simp only [smallAll, Bool.and_eq_true] at h
    simp only [PyData.canLayAll0, small_lay d h.1, smallAll_lay ds h.2, Bool.and_self]
end
mutual
theorem small_eqv : ∀ d : PyData, small d = true → PyData.eqv d d = true
  | .none, _ => by simp [PyData.eqv]
  | .bool b, _ => by simp [PyData.eqv]
  | .int i, _ => by simp [PyData.eqv]
  | .list xs, h => by
    simp only [small] at h
    simp only [PyData.eqv]
    exact smallAll_eqv xs h
  | .tuple xs, h => by
    simp only [small] at h
    simp only [PyData.eqv]
    exact smallAll_eqv xs h
  | .str _, h => by simp only [small] at h; cases h
  | .dict _, h => by simp only [small] at h; cases h
theorem smallAll_eqv : ∀ ds : List PyData, smallAll ds = true → PyData.eqvAll ds ds = true
  | [], _ => by simp only [PyData.eqvAll]
  | d :: ds, h => by
    simp only [smallAll, Bool.and_eq_true] at h
    simp only [PyData.eqvAll, small_eqv d h.1, smallAll_eqv ds h.2, Bool.and_self]
end
theorem small_shaped {d : PyData} (h : small d = true) (hd : d.depth ≤ 64) : SeqAt.shaped d = true := by
  unfold SeqAt.shaped
  rw [small_lay d h, decide_eq_true hd]; rfl
section
variable {s : DS} {a b : EV} {Q : EV → DS → Prop}
theorem p_eqD {d : PyData} (h1 : datOf s a = some d) (h2 : datOf s b = some d) (hs : small d = true) (hd : d.depth ≤ 64) (q : Q (.pv (.bl true)) s) : Ev (primF .eq [a, b]) s Q :=
  .conv (d := M.bnd (M.chk (SeqAt.shaped d && SeqAt.shaped d)) (fun _ => vbl (PyData.eqv d d))) (by show eqF a b s = _; unfold eqF; rw [h1, h2]) (.bnd (.chk (by rw [small_shaped hs hd]; rfl) (.ret (by rw [small_eqv d hs]; exact q))))
theorem p_neD {d : PyData} (h1 : datOf s a = some d) (h2 : datOf s b = some d) (hs : small d = true) (hd : d.depth ≤ 64) (q : Q (.pv (.bl false)) s) : Ev (primF .ne [a, b]) s Q :=
  .conv (d := M.bnd (M.chk (SeqAt.shaped d && SeqAt.shaped d)) (fun _ => vbl (!PyData.eqv d d))) (by show neF a b s = _; unfold neF; rw [h1, h2]) (.bnd (.chk (by rw [small_shaped hs hd]; rfl) (.ret (by rw [small_eqv d hs]; exact q))))
end
namespace Num
def dn (z : Nat × Nat) : PyData := .tuple [.int (z.1 : Int), .int (z.2 : Int)]
def dPL (L : PL) : PyData := .tuple (L.map dn)
theorem nat_small {n : Nat} (h : n < 2 ^ 64) : small (.int (n : Int)) = true := by
  simp only [small]
  refine decide_eq_true ?_
  rw [Int.natAbs_natCast]
  by_cases z : n = 0
  · subst z; decide
  · have := (Nat.log2_lt z).mpr h; omega
theorem dn_all : ∀ {L : PL}, (∀ z ∈ L, z.1 < 2 ^ 64 ∧ z.2 < 2 ^ 64) → smallAll (L.map dn) = true ∧ nodesAll (L.map dn) = 4 * L.length ∧ PyData.depthAll (L.map dn) ≤ 2
  | [], _ => ⟨rfl, rfl, by decide⟩
  | z :: L, h => by
    obtain ⟨a, b, c⟩ := dn_all (L := L) fun y hy => h y (List.mem_cons_of_mem _ hy)
    obtain ⟨h1, h2⟩ := h z List.mem_cons_self
    rw [List.map_cons, List.length_cons]
    generalize L.map dn = ds at a b c
    refine ⟨?_, ?_, ?_⟩
    · unfold smallAll dn
      simp only [small, smallAll]
      have s1 := nat_small h1
      have s2 := nat_small h2
      simp only [small] at s1 s2
      simp only [s1, s2, a, Bool.and_self]
    · unfold nodesAll dn
      simp only [nodes, nodesAll]; omega
    · unfold PyData.depthAll dn
      simp only [PyData.depth, PyData.depthAll]
      omega
theorem dPL_ok {L : PL} (h : ∀ z ∈ L, z.1 < 2 ^ 64 ∧ z.2 < 2 ^ 64) : small (dPL L) = true ∧ nodes (dPL L) = 2 + 4 * L.length ∧ (dPL L).depth ≤ 3 := by
  obtain ⟨a, b, c⟩ := dn_all h
  unfold dPL
  refine ⟨by simp only [small, a], by simp only [nodes]; omega, ?_⟩
  simp only [PyData.depth]; omega
theorem dPL_dat {h : List DO} {k : Nat} (L : PL) : datF h (k + 3) (.tup (L.map pn)) = some (dPL L) := by
  refine DV.mapM_datas ?_
  have : ∀ L : PL, (L.map pn).mapM (datF h (k + 2)) = some (L.map dn) := fun L => by
    induction L with
    | nil => rfl
    | cons z L ih =>
      rw [List.map_cons, List.mapM_cons, ih]; rfl
  exact this L
theorem ipn_small {m : Nat} (h : ipn m = true) : 2 ≤ m ∧ (m ∈ smallN ∨ ∀ s ∈ smallN, ¬ s ∣ m) := by
  unfold ipn at h
  by_cases z : m < 2
  · rw [if_pos z] at h; cases h
  · rw [if_neg z] at h
    refine ⟨by omega, ?_⟩
    split at h
    · rename_i s hs
      left
      have : m = s := by simpa using h
      rw [this]; exact List.mem_of_find?_eq_some hs
    · rename_i hs
      right
      intro s hm hd
      have := List.find?_eq_none.mp hs s hm
      exact this (by rw [Nat.mod_eq_zero_of_dvd hd]; rfl)
theorem ipn_pass {m s : Nat} (h : ipn m = true) (hn : m ∉ smallN) (hs : s ∈ smallN) : dpB m (pl s (tk 2 64 (m - 1)).2 m) (tk 2 64 (m - 1)).1 = true := by
  unfold ipn at h
  by_cases z : m < 2
  · rw [if_pos z] at h; cases h
  · rw [if_neg z] at h
    split at h
    · rename_i s hs
      have : m = s := by simpa using h
      exact (hn (this ▸ List.mem_of_find?_eq_some hs)).elim
    · exact List.all_eq_true.mp h s hs
def pwF : Nat → Nat → Nat → Nat → Nat → Nat
  | 0, f, _, _, _ => f
  | k + 1, f, b, e, m => if e = 0 then f else pwF k (if e % 2 = 1 then f * b % m else f) (b * b % m) (e / 2) m
theorem pwF_ok : ∀ (k f b e m : Nat), e < 2 ^ k → pwF k f b e m % m = f * b ^ e % m
  | 0, f, b, e, m, h => by
    have : e = 0 := by simpa using h
    subst this
    simp [pwF]
  | k + 1, f, b, e, m, h => by
    unfold pwF
    by_cases z : e = 0
    · subst z; simp
    · rw [if_neg z, pwF_ok k _ _ _ _ (by rw [Nat.pow_succ] at h; omega)]
      have dbl : ∀ g : Nat, g * (b * b % m) ^ (e / 2) % m = g * b ^ (2 * (e / 2)) % m := fun g => by
        rw [Nat.mul_mod, ← Nat.pow_mod, ← Nat.mul_mod, Nat.pow_mul]
        congr 2
        rw [Nat.pow_succ, Nat.pow_one]
      rw [dbl]
      by_cases o : e % 2 = 1
      · rw [if_pos o, Nat.mod_mul_mod, Nat.mul_assoc, ← Nat.pow_succ', show (2 * (e / 2)).succ = e by omega]
      · rw [if_neg o, show 2 * (e / 2) = e by omega]
def pas (m s : Nat) : Bool := dpB m (pwF 64 1 s (tk 2 64 (m - 1)).2 m % m) (tk 2 64 (m - 1)).1
theorem tk_le (p : Nat) : ∀ f d : Nat, (tk p f d).2 ≤ d
  | 0, d => Nat.le_refl _
  | f + 1, d => by
    unfold tk
    split
    · exact Nat.le_trans (tk_le p f _) (Nat.div_le_self _ _)
    · exact Nat.le_refl _
theorem ipn_pas {m s : Nat} (h : ipn m = true) (hm : m < 2 ^ 64) (hn : m ∉ smallN) (hs : s ∈ smallN) : pas m s = true := by
  have q := ipn_pass h hn hs
  have h2 := (ipn_small h).1
  unfold pas
  have e : pwF 64 1 s (tk 2 64 (m - 1)).2 m % m = pl s (tk 2 64 (m - 1)).2 m := by
    have hl := tk_le 2 64 (m - 1)
    rw [pwF_ok 64 _ _ _ _ (by omega), Nat.one_mul]
    unfold pl
    split
    · rename_i z
      rw [z, Nat.pow_zero, Nat.mod_eq_of_lt (by omega)]
    · rfl
  rw [e]; exact q
def gE (g : Nat → List Nat) (p B : Nat) : Nat → Nat → List Nat
  | 0, _ => []
  | f + 1, a => if a ≤ B then (g (B / a)).map (a * ·) ++ gE g p B f (a * p) else []
def gens : List Nat → Nat → List Nat
  | [], _ => [1]
  | p :: ps, B => gE (gens ps) p B 64 1
theorem gE_mem {g : Nat → List Nat} {p B x : Nat} (hp : 2 ≤ p) : ∀ {f a e : Nat}, 1 ≤ a → e < f → a * p ^ e ≤ B → x ∈ g (B / (a * p ^ e)) → a * p ^ e * x ∈ gE g p B f a
  | 0, a, e, _, h, _, _ => by omega
  | f + 1, a, 0, ha, _, h2, h3 => by
    rw [Nat.pow_zero, Nat.mul_one] at h2 h3 ⊢
    unfold gE
    rw [if_pos h2]
    exact List.mem_append_left _ (List.mem_map.mpr ⟨x, h3, rfl⟩)
  | f + 1, a, e + 1, ha, h1, h2, h3 => by
    have e1 : a * p ^ (e + 1) = a * p * p ^ e := by rw [Nat.pow_succ', Nat.mul_assoc]
    rw [e1] at h2 h3 ⊢
    have hpp : 1 ≤ p ^ e := Nat.pow_pos (by omega)
    have : a ≤ B := Nat.le_trans (Nat.le_trans (Nat.le_mul_of_pos_right a (by omega)) (Nat.le_mul_of_pos_right _ hpp)) h2
    unfold gE
    rw [if_pos this]
    exact List.mem_append_right _ (gE_mem hp (Nat.mul_pos ha (by omega)) (by omega) h2 h3)
theorem gens_mem : ∀ {ps : List Nat} {L : PL} {lo B : Nat}, Asc lo L → ps.Pairwise (· < ·) → (∀ p ∈ ps, 2 ≤ p) → (∀ z ∈ L, z.1 ∈ ps) → prodL L ≤ B → B < 2 ^ 60 → prodL L ∈ gens ps B
  | [], [], _, _, _, _, _, _, _, _ => List.mem_singleton.mpr rfl
  | [], z :: L, _, _, _, _, _, h, _, _ => by
    have := h z List.mem_cons_self
    cases this
  | p :: ps, [], lo, B, a, hs, h2, h, hB, hb => by
    have r := gens_mem (ps := ps) (L := []) (lo := lo) (B := B / (1 * p ^ 0)) a (List.pairwise_cons.mp hs).2 (fun q hq => h2 q (List.mem_cons_of_mem _ hq)) (fun z hz => by cases hz) (by rw [Nat.pow_zero, Nat.mul_one, Nat.div_one]; exact hB) (by rw [Nat.pow_zero, Nat.mul_one, Nat.div_one]; exact hb)
    have := gE_mem (g := gens ps) (p := p) (B := B) (x := prodL []) (h2 p List.mem_cons_self) (f := 64) (a := 1) (e := 0) (by decide) (by decide) (by simpa [prodL] using hB) r
    simp only [Nat.pow_zero, Nat.one_mul] at this
    exact this
  | p :: ps, z :: L, lo, B, a, hs, h2, h, hB, hb => by
    obtain ⟨s1, s2⟩ := List.pairwise_cons.mp hs
    by_cases e : z.1 = p
    · have hz : z.1 ^ z.2 * prodL L ≤ B := hB
      have pos : 1 ≤ prodL L := prodL_pos a.2.2.2
      have zpos : 1 ≤ z.1 ^ z.2 := Nat.pow_pos (by have := a.2.1.1; omega)
      have le : z.1 ^ z.2 ≤ B := Nat.le_trans (Nat.le_mul_of_pos_right _ pos) hz
      have hzl : ∀ y ∈ L, y.1 ∈ ps := fun y hy => by
        rcases List.mem_cons.mp (h y (List.mem_cons_of_mem _ hy)) with q | q
        · have : z.1 < y.1 := by
            have : ∀ {lo : Nat} {L : PL}, Asc lo L → ∀ y ∈ L, lo < y.1 := fun {lo L} => by
              induction L generalizing lo with
              | nil => intro _ y hy; cases hy
              | cons w L ih =>
                intro a y hy
                rcases List.mem_cons.mp hy with rfl | hy
                · exact a.1
                · exact Nat.lt_trans a.1 (ih a.2.2.2 y hy)
            exact this a.2.2.2 y hy
          omega
        · exact q
      have hd : prodL L ≤ B / (1 * z.1 ^ z.2) := by
        rw [Nat.one_mul, Nat.le_div_iff_mul_le zpos, Nat.mul_comm]; exact hz
      have r := gens_mem (ps := ps) (L := L) (lo := z.1) (B := B / (1 * z.1 ^ z.2)) a.2.2.2 s2 (fun q hq => h2 q (List.mem_cons_of_mem _ hq)) hzl hd (Nat.lt_of_le_of_lt (Nat.div_le_self _ _) hb)
      have ez : z.2 < 64 := by
        have : 2 ^ z.2 ≤ z.1 ^ z.2 := Nat.pow_le_pow_left a.2.1.1 _
        have := (Nat.pow_lt_pow_iff_right (by decide : 1 < 2)).mp (show 2 ^ z.2 < 2 ^ 60 by omega)
        omega
      rw [← e]
      have := gE_mem (g := gens ps) (p := z.1) (B := B) (x := prodL L) a.2.1.1 (f := 64) (a := 1) (e := z.2) (by decide) ez (by rw [Nat.one_mul]; exact le) r
      rw [Nat.one_mul] at this
      exact this
    · have hzp : ∀ y ∈ z :: L, y.1 ∈ ps := fun y hy => by
        rcases List.mem_cons.mp (h y hy) with q | q
        · have hzm : z.1 ∈ ps := (List.mem_cons.mp (h z List.mem_cons_self)).resolve_left e
          have l1 := s1 z.1 hzm
          have l2 : z.1 ≤ y.1 := by
            rcases List.mem_cons.mp hy with rfl | hy
            · exact Nat.le_refl _
            · have : ∀ {lo : Nat} {L : PL}, Asc lo L → ∀ y ∈ L, lo < y.1 := fun {lo L} => by
                induction L generalizing lo with
                | nil => intro _ y hy; cases hy
                | cons w L ih =>
                  intro a y hy
                  rcases List.mem_cons.mp hy with rfl | hy
                  · exact a.1
                  · exact Nat.lt_trans a.1 (ih a.2.2.2 y hy)
              exact Nat.le_of_lt (this a.2.2.2 y hy)
          omega
        · exact q
      have r := gens_mem (ps := ps) (L := z :: L) (lo := lo) (B := B / (1 * p ^ 0)) a s2 (fun q hq => h2 q (List.mem_cons_of_mem _ hq)) hzp (by rw [Nat.pow_zero, Nat.mul_one, Nat.div_one]; exact hB) (by rw [Nat.pow_zero, Nat.mul_one, Nat.div_one]; exact hb)
      have pos : 1 ≤ B := Nat.le_trans (prodL_pos a) hB
      have := gE_mem (g := gens ps) (p := p) (B := B) (x := prodL (z :: L)) (h2 p List.mem_cons_self) (f := 64) (a := 1) (e := 0) (by decide) (by decide) (by rw [Nat.pow_zero, Nat.mul_one]; exact pos) r
      simp only [Nat.pow_zero, Nat.one_mul] at this
      exact this
def isPt (m : Nat) : Bool := match fac m with
  | [z] => z.2 == 1
  | _ => false
theorem isPt_ok {m : Nat} (h1 : 1 ≤ m) (h2 : m < 2 ^ 60) (h : isPt m = true) : IsPr m := by
  obtain ⟨a, b⟩ := fac_ok h1 h2
  unfold isPt at h
  split at h
  · rename_i z e
    rw [e] at a b
    have k : z.2 = 1 := by simpa using h
    have : z.1 = m := by rw [← b]; simp [prodL, k]
    rw [← this]; exact a.2.1
  · cases h
theorem asc_mem_dvd {L : PL} {lo : Nat} {z : Nat × Nat} (a : Asc lo L) (h : z ∈ L) : z.1 ∣ prodL L := by
  obtain ⟨_, h1, h2⟩ := asc_mem a h
  refine Nat.dvd_trans ?_ h2
  obtain ⟨k, hk⟩ : ∃ k, z.2 = k + 1 := ⟨z.2 - 1, by omega⟩
  rw [hk, Nat.pow_succ]
  exact Nat.dvd_mul_left _ _
theorem pr_dvd_prod {p : Nat} (hp : IsPr p) : ∀ {lo : Nat} {L : PL}, Asc lo L → p ∣ prodL L → ∃ z ∈ L, z.1 = p
  | _, [], _, h => by
    have := hp.1
    have := Nat.le_of_dvd (by decide) (show p ∣ 1 from h)
    omega
  | lo, y :: r, a, h => by
    rcases pr_mul hp h with h | h
    · exact ⟨y, List.mem_cons_self, (pr_eq hp a.2.1 (pr_pow hp _ h)).symm⟩
    · obtain ⟨z, hz, e⟩ := pr_dvd_prod hp a.2.2.2 h
      exact ⟨z, List.mem_cons_of_mem _ hz, e⟩
def Snd (n : Nat) : Prop := ∀ m, m ∣ n → ipn m = true → IsPr m
theorem small_pr : ∀ s ∈ smallN, IsPr s := by
  have : (smallN.all fun s => isPt s) = true := by decide +kernel
  intro s hs
  have b : 1 ≤ s ∧ s < 2 ^ 60 := by
    have : ∀ s ∈ smallN, 1 ≤ s ∧ s < 2 ^ 60 := by decide
    exact this s hs
  exact isPt_ok b.1 b.2 (List.all_eq_true.mp this s hs)
theorem snd_gens {T : List Nat} {B n : Nat} (hT : T.Pairwise (· < ·)) (hT2 : ∀ p ∈ T, IsPr p) (hB : B < 2 ^ 60) (hg : (gens T B).all (fun m => m == 1 || T.contains m || !(pas m 2 && pas m 3)) = true)
    (h1 : 1 ≤ n) (hn : n ≤ B) (hp : ∀ p, IsPr p → p ∣ n → p ∈ smallN ∨ p ∈ T) : Snd n := by
  intro m hm hi
  have hmn := Nat.le_of_dvd h1 hm
  obtain ⟨m2, hs⟩ := ipn_small hi
  by_cases hms : m ∈ smallN
  · exact small_pr m hms
  · have hs := hs.resolve_left hms
    obtain ⟨a, b⟩ := fac_ok (n := m) (by omega) (by omega)
    have mem : m ∈ gens T B := by
      rw [← b]
      refine gens_mem a hT (fun p hp => (hT2 p hp).1) (fun z hz => ?_) (by omega) hB
      obtain ⟨zp, _, _⟩ := asc_mem a hz
      have zd := asc_mem_dvd a hz
      rw [b] at zd
      exact (hp z.1 zp (Nat.dvd_trans zd hm)).resolve_left fun q => hs z.1 q zd
    have c := List.all_eq_true.mp hg m mem
    rw [ipn_pas hi (by omega) hms (show 2 ∈ smallN by decide), ipn_pas hi (by omega) hms (show 3 ∈ smallN by decide)] at c
    have c : m = 1 ∨ m ∈ T := by simpa using c
    rcases c with c | c
    · omega
    · exact hT2 m c
end Num
end DV
namespace DV.Num
open PySem PySem.Spec PyProof.Rows L2 DV
def cz (z : Nat × Nat) : Int × Int := ((z.1 : Int), (z.2 : Int))
def kzN (zs : PL) : List (DV.Key × PV) := kz (zs.map cz)
theorem kzN_len (zs : PL) : (kzN zs).length = zs.length := by unfold kzN; rw [kz_len, List.length_map]
theorem key_iff (a b : Nat) : (Sum.inl (a : Int) : DV.Key) = Sum.inl (b : Int) ↔ a = b := by
  constructor
  · intro h
    have h : (a : Int) = (b : Int) := Sum.inl.inj h
    omega
  · rintro rfl; rfl
def cnt (p : Nat) : PL → Nat
  | [] => 0
  | z :: r => if z.1 = p then z.2 else cnt p r
def bump (p : Nat) : PL → PL
  | [] => [(p, 1)]
  | z :: r => if z.1 = p then (z.1, z.2 + 1) :: r else z :: bump p r
theorem look_kzN (p : Nat) : ∀ zs : PL, (look (kzN zs) (.inl (p : Int))).getD (.int 0) = .int ((cnt p zs : Nat) : Int)
  | [] => rfl
  | z :: zs => by
    unfold cnt
    by_cases h : z.1 = p
    · rw [if_pos h]
      show (look ((Sum.inl (z.1 : Int), PV.int (z.2 : Int)) :: kzN zs) _).getD _ = _
      rw [(key_iff z.1 p).mpr h, look_hd]; rfl
    · rw [if_neg h]
      show (look ((Sum.inl (z.1 : Int), PV.int (z.2 : Int)) :: kzN zs) _).getD _ = _
      rw [look_tl (fun e => h ((key_iff z.1 p).mp e))]
      exact look_kzN p zs
theorem map_same (p : Nat) (v : PV) : ∀ zs : PL, p ∉ zs.map (·.1) → (kzN zs).map (fun kv => if kv.1 = (Sum.inl (p : Int) : DV.Key) then (kv.1, v) else kv) = kzN zs
  | [], _ => rfl
  | z :: zs, h => by
    have hz : z.1 ≠ p := fun e => h (by rw [List.map_cons, e]; exact List.mem_cons_self)
    show (if (Sum.inl (z.1 : Int) : DV.Key) = Sum.inl (p : Int) then _ else _) :: (kzN zs).map _ = _
    rw [if_neg (fun e => hz ((key_iff z.1 p).mp e)), map_same p v zs fun e => h (by rw [List.map_cons]; exact List.mem_cons_of_mem _ e)]; rfl
theorem map_bump (p : Nat) : ∀ zs : PL, (zs.map (·.1)).Nodup → p ∈ zs.map (·.1) → (kzN zs).map (fun kv => if kv.1 = (Sum.inl (p : Int) : DV.Key) then (kv.1, PV.int (((cnt p zs : Nat) : Int) + 1)) else kv) = kzN (bump p zs)
  | [], _, h => by cases h
  | z :: zs, hn, h => by
    rw [List.map_cons, List.nodup_cons] at hn
    unfold cnt bump
    by_cases e : z.1 = p
    · rw [if_pos e, if_pos e]
      show (if (Sum.inl (z.1 : Int) : DV.Key) = Sum.inl (p : Int) then _ else _) :: (kzN zs).map _ = _
      rw [if_pos ((key_iff z.1 p).mpr e), map_same p _ zs (e ▸ hn.1)]; rfl
    · rw [if_neg e, if_neg e]
      show (if (Sum.inl (z.1 : Int) : DV.Key) = Sum.inl (p : Int) then _ else _) :: (kzN zs).map _ = _
      have hp : p ∈ zs.map (·.1) := by
        rw [List.map_cons] at h
        exact (List.mem_cons.mp h).resolve_left fun q => e q.symm
      rw [if_neg (fun q => e ((key_iff z.1 p).mp q)), map_bump p zs hn.2 hp]; rfl
theorem bump_new (p : Nat) : ∀ zs : PL, p ∉ zs.map (·.1) → bump p zs = zs ++ [(p, 1)] ∧ cnt p zs = 0
  | [], _ => ⟨rfl, rfl⟩
  | z :: zs, h => by
    have hz : z.1 ≠ p := fun e => h (by rw [List.map_cons, e]; exact List.mem_cons_self)
    obtain ⟨a, b⟩ := bump_new p zs fun e => h (by rw [List.map_cons]; exact List.mem_cons_of_mem _ e)
    unfold bump cnt
    rw [if_neg hz, if_neg hz, a, b]; exact ⟨rfl, rfl⟩
theorem put_kzN (p : Nat) (zs : PL) (hn : (zs.map (·.1)).Nodup) : put (kzN zs) (.inl (p : Int)) (.int (((cnt p zs : Nat) : Int) + 1)) = kzN (bump p zs) := by
  unfold put
  by_cases h : p ∈ zs.map (·.1)
  · have : ((kzN zs).any fun kv => decide (kv.1 = (Sum.inl (p : Int) : DV.Key))) = true := by
      obtain ⟨z, hz, rfl⟩ := List.mem_map.mp h
      refine List.any_eq_true.mpr ⟨(Sum.inl (z.1 : Int), PV.int (z.2 : Int)), ?_, decide_eq_true rfl⟩
      unfold kzN kz
      rw [List.map_map]
      exact List.mem_map.mpr ⟨z, hz, rfl⟩
    rw [if_pos this]
    exact map_bump p zs hn h
  · have : ¬ ((kzN zs).any fun kv => decide (kv.1 = (Sum.inl (p : Int) : DV.Key))) = true := fun g => by
      obtain ⟨kv, h1, h2⟩ := List.any_eq_true.mp g
      unfold kzN kz at h1
      rw [List.map_map] at h1
      obtain ⟨z, hz, rfl⟩ := List.mem_map.mp h1
      have := (key_iff z.1 p).mp (of_decide_eq_true h2)
      exact h (List.mem_map.mpr ⟨z, hz, this⟩)
    rw [if_neg this]
    obtain ⟨a, b⟩ := bump_new p zs h
    rw [a, b]
    unfold kzN kz
    rw [List.map_append, List.map_append]; rfl
theorem bump_prod (p : Nat) : ∀ zs : PL, prodL (bump p zs) = prodL zs * p
  | [] => by simp [bump, prodL]
  | z :: zs => by
    unfold bump
    by_cases e : z.1 = p
    · rw [if_pos e]
      simp only [prodL]
      rw [Nat.pow_succ, e, Nat.mul_right_comm]
    · rw [if_neg e]
      simp only [prodL]
      rw [bump_prod p zs, Nat.mul_assoc]
theorem bump_keys (p : Nat) : ∀ (zs : PL) (q : Nat), q ∈ (bump p zs).map (·.1) ↔ q = p ∨ q ∈ zs.map (·.1)
  | [], q => by simp [bump]
  | z :: zs, q => by
    unfold bump
    by_cases e : z.1 = p
    · rw [if_pos e]
      simp only [List.map_cons, List.mem_cons]
      constructor
      · intro h; exact .inr h
      · rintro (rfl | h)
        · exact .inl e.symm
        · exact h
    · rw [if_neg e]
      simp only [List.map_cons, List.mem_cons, bump_keys p zs q]
      constructor
      · rintro (h | h | h)
        · exact .inr (.inl h)
        · exact .inl h
        · exact .inr (.inr h)
      · rintro (h | h | h)
        · exact .inr (.inl h)
        · exact .inl h
        · exact .inr (.inr h)
theorem bump_nodup (p : Nat) : ∀ zs : PL, (zs.map (·.1)).Nodup → ((bump p zs).map (·.1)).Nodup
  | [], _ => by simp [bump]
  | z :: zs, h => by
    rw [List.map_cons, List.nodup_cons] at h
    unfold bump
    by_cases e : z.1 = p
    · rw [if_pos e, List.map_cons, List.nodup_cons]
      exact h
    · rw [if_neg e, List.map_cons, List.nodup_cons]
      refine ⟨fun q => ?_, bump_nodup p zs h.2⟩
      rcases (bump_keys p zs z.1).mp q with q | q
      · exact e q
      · exact h.1 q
theorem bump_exp (p : Nat) : ∀ zs : PL, (∀ z ∈ zs, 1 ≤ z.2) → ∀ z ∈ bump p zs, 1 ≤ z.2
  | [], _, z, hz => by
    rw [List.mem_singleton.mp hz]; exact Nat.le_refl 1
  | y :: zs, h, z, hz => by
    unfold bump at hz
    by_cases e : y.1 = p
    · rw [if_pos e] at hz
      rcases List.mem_cons.mp hz with rfl | hz
      · show 1 ≤ y.2 + 1; omega
      · exact h z (List.mem_cons_of_mem _ hz)
    · rw [if_neg e] at hz
      rcases List.mem_cons.mp hz with rfl | hz
      · exact h z List.mem_cons_self
      · exact bump_exp p zs (fun w hw => h w (List.mem_cons_of_mem _ hw)) z hz
theorem bump_len (p : Nat) : ∀ zs : PL, (bump p zs).length ≤ zs.length + 1
  | [] => Nat.le_refl _
  | z :: zs => by
    unfold bump
    split
    · simp
    · have := bump_len p zs
      simp only [List.length_cons]; omega
def insQ (z : Nat × Nat) : PL → PL
  | [] => [z]
  | y :: r => if z.1 < y.1 ∨ (z.1 = y.1 ∧ z.2 ≤ y.2) then z :: y :: r else y :: insQ z r
def sortQ : PL → PL
  | [] => []
  | z :: r => insQ z (sortQ r)
theorem insQ_eq (z : Nat × Nat) : ∀ L : PL, insP (cz z) (L.map cz) = (insQ z L).map cz
  | [] => rfl
  | y :: r => by
    have e : (leP (cz z) (cz y) = true) ↔ (z.1 < y.1 ∨ (z.1 = y.1 ∧ z.2 ≤ y.2)) := by
      unfold leP cz
      simp only [Bool.or_eq_true, Bool.and_eq_true, decide_eq_true_eq]
      omega
    rw [List.map_cons]
    unfold insP insQ
    by_cases h : z.1 < y.1 ∨ (z.1 = y.1 ∧ z.2 ≤ y.2)
    · rw [if_pos h, if_pos (e.mpr h)]; rfl
    · rw [if_neg h, if_neg (fun q => h (e.mp q)), insQ_eq z r]; rfl
theorem sortQ_eq : ∀ L : PL, sortP (L.map cz) = (sortQ L).map cz
  | [] => rfl
  | z :: r => by
    show insP (cz z) (sortP (r.map cz)) = (insQ z (sortQ r)).map cz
    rw [sortQ_eq r, insQ_eq]
theorem insQ_mem (z : Nat × Nat) : ∀ (L : PL) (y : Nat × Nat), y ∈ insQ z L ↔ y = z ∨ y ∈ L
  | [], y => by simp [insQ]
  | w :: r, y => by
    unfold insQ
    split
    · simp
    · simp only [List.mem_cons, insQ_mem z r y]
      constructor
      · rintro (h | h | h)
        · exact .inr (.inl h)
        · exact .inl h
        · exact .inr (.inr h)
      · rintro (h | h | h)
        · exact .inr (.inl h)
        · exact .inl h
        · exact .inr (.inr h)
theorem insQ_prod (z : Nat × Nat) : ∀ L : PL, prodL (insQ z L) = z.1 ^ z.2 * prodL L
  | [] => rfl
  | w :: r => by
    unfold insQ
    split
    · rfl
    · simp only [prodL, insQ_prod z r]
      rw [Nat.mul_left_comm]
theorem insQ_asc {z : Nat × Nat} (hp : IsPr z.1) (he : 1 ≤ z.2) : ∀ {L : PL} {lo : Nat}, Asc lo L → lo < z.1 → z.1 ∉ L.map (·.1) → Asc lo (insQ z L)
  | [], lo, _, hl, _ => ⟨hl, hp, he, trivial⟩
  | w :: r, lo, a, hl, hn => by
    have hw : z.1 ≠ w.1 := fun e => hn (by rw [List.map_cons, e]; exact List.mem_cons_self)
    unfold insQ
    split
    · rename_i c
      have : z.1 < w.1 := by omega
      exact ⟨hl, hp, he, this, a.2⟩
    · rename_i c
      have : w.1 < z.1 := by omega
      exact ⟨a.1, a.2.1, a.2.2.1, insQ_asc hp he a.2.2.2 this fun q => hn (by rw [List.map_cons]; exact List.mem_cons_of_mem _ q)⟩
theorem sortQ_mem : ∀ (L : PL) (y : Nat × Nat), y ∈ sortQ L ↔ y ∈ L
  | [], y => Iff.rfl
  | z :: r, y => by
    show y ∈ insQ z (sortQ r) ↔ _
    rw [insQ_mem, sortQ_mem r y, List.mem_cons]
theorem sortQ_prod : ∀ L : PL, prodL (sortQ L) = prodL L
  | [] => rfl
  | z :: r => by
    show prodL (insQ z (sortQ r)) = _
    rw [insQ_prod, sortQ_prod r]; rfl
theorem sortQ_asc : ∀ L : PL, (L.map (·.1)).Nodup → (∀ z ∈ L, IsPr z.1 ∧ 1 ≤ z.2) → Asc 1 (sortQ L)
  | [], _, _ => trivial
  | z :: r, hn, h => by
    rw [List.map_cons, List.nodup_cons] at hn
    obtain ⟨a, b⟩ := h z List.mem_cons_self
    refine insQ_asc a b (sortQ_asc r hn.2 fun w hw => h w (List.mem_cons_of_mem _ hw)) (by have := a.1; omega) fun q => hn.1 ?_
    obtain ⟨w, hw, e⟩ := List.mem_map.mp q
    exact List.mem_map.mpr ⟨w, (sortQ_mem r w).mp hw, e⟩
theorem mkP_cz (L : PL) : (L.map cz).map mkP = L.map pn := by rw [List.map_map]; rfl
theorem Fc.fac {n : Nat} {L : PL} (a : Asc 1 L) (h : prodL L = n) (hb : n < 2 ^ 60) : fac n = L := fac_is (h ▸ prodL_pos a) hb ⟨a, h⟩
def S15 : List Nat := [2, 3, 5, 7, 11, 13, 17, 19, 23, 31, 41, 97, 101, 499, 997]
theorem S15_pr : ∀ p ∈ S15, IsPr p := by
  have : (S15.all fun s => isPt s) = true := by decide +kernel
  intro s hs
  have b : 1 ≤ s ∧ s < 2 ^ 60 := by
    have : ∀ s ∈ S15, 1 ≤ s ∧ s < 2 ^ 60 := by decide
    exact this s hs
  exact isPt_ok b.1 b.2 (List.all_eq_true.mp this s hs)
def T6 : List Nat := [41, 43, 97, 101, 499, 997]
theorem T6_pr : ∀ p ∈ T6, IsPr p := by
  have : (T6.all fun s => isPt s) = true := by decide +kernel
  intro s hs
  have b : 1 ≤ s ∧ s < 2 ^ 60 := by
    have : ∀ s ∈ T6, 1 ≤ s ∧ s < 2 ^ 60 := by decide
    exact this s hs
  exact isPt_ok b.1 b.2 (List.all_eq_true.mp this s hs)
theorem T6_fail : (gens T6 (10 ^ 12)).all (fun m => m == 1 || T6.contains m || !(pas m 2 && pas m 3)) = true := by decide +kernel
theorem snd_built {n : Nat} (h1 : 1 ≤ n) (hn : n ≤ 10 ^ 12) (hp : ∀ p, IsPr p → p ∣ n → p ∈ smallN ∨ p ∈ T6) : Snd n :=
  snd_gens (by decide) T6_pr (by decide) T6_fail h1 hn hp
theorem S15_T6 : ∀ p ∈ S15, p ∈ smallN ∨ p ∈ T6 := by decide
theorem snd_S15 {L : PL} (a : Asc 1 L) (hS : ∀ z ∈ L, z.1 ∈ S15) (hn : prodL L ≤ 10 ^ 12) : Snd (prodL L) :=
  snd_built (prodL_pos a) hn fun p hp hd => by
    obtain ⟨z, hz, rfl⟩ := pr_dvd_prod hp a hd
    exact S15_T6 _ (hS z hz)
def builtFD (dr pk : Nat) : FD := ⟨2, 9, [.par [2, 3, 4] [.prim .mkLst [.con (.int 2), .con (.int 3), .con (.int 5), .con (.int 7), .con (.int 11), .con (.int 13), .con (.int 17), .con (.int 19), .con (.int 23), .con (.int 31), .con (.int 41), .con (.int 97), .con (.int 101), .con (.int 499), .con (.int 997)], .prim (.mkDct []) [], .con (.int 1)], .asg 5 (.call pk [.var 0, .prim .mkLst [.con (.int 2), .con (.int 4), .con (.int 8), .con (.int 15)]] []), .forS (.one 6) .rng1 [.call dr [.var 0, .con (.int 14)] []] [.asg 7 (.prim .idx [.var 2, .call dr [.var 0, .var 5] []]), .forS (.one 8) .rng1 [.prim .add [.con (.int 1), .call dr [.var 0, .con (.int 3)] []]] [.ite (.prim .le [.prim .mul [.var 4, .var 7], .var 1]) [.parK 4 (.var 3) (.var 7) [.prim .mul [.var 4, .var 7], .prim .add [.meth .get2 (.var 3) [.var 7, .con (.int 0)], .con (.int 1)]]] []]], .ret (.prim .tuple [.prim .sortIt [.var 3]])]⟩
def madeFD : FD := ⟨1, 5, [.asg 1 (.con (.int 1)), .forS (.many [2, 3]) .seq [.var 0] [.forS (.one 4) .rng1 [.var 3] [.asg 1 (.prim .mul [.var 1, .var 2])]], .ret (.var 1)]⟩
section
variable {Pf : List FD} {ix dr pk : Nat}
local macro_rules | `(tactic| k_steps) => `(tactic| repeat (first
  | (with_reducible refine e_con ?_)
  | ((with_reducible apply e_var); exact rfl)
  | ((with_reducible apply e_varO); exact rfl)
  | (with_reducible refine e_prim ?_)
  | (with_reducible refine e_nil ?_)
  | (with_reducible refine e_cons ?_)
  | (with_reducible refine e_call ?_)
  | (with_reducible refine e_meth ?_)
  | (with_reducible refine e_iff ?_)
  | (with_reducible refine t_prim ?_)
  | (with_reducible refine t_var ?_)
  | (with_reducible refine t_not ?_)
  | (with_reducible refine tr_bl ?_)
  | (with_reducible refine tr_int ?_)
  | (with_reducible refine p_add ?_)
  | (with_reducible refine p_sub ?_)
  | ((with_reducible apply p_mul); (focus (first | exact rfl | assumption | exact mulOk_r (by decide) | exact mulOk_mod (by decide) (by decide))))
  | ((with_reducible apply p_fdiv); (focus (first | exact rfl | assumption | exact mulOk_r (by decide) | exact mulOk_mod (by decide) (by decide))))
  | ((with_reducible apply p_mod); (focus (first | decide | assumption)))
  | ((with_reducible apply p_pow); (focus (first | exact rfl | assumption | exact mulOk_r (by decide) | exact mulOk_mod (by decide) (by decide))))
  | (with_reducible refine p_neg ?_)
  | (with_reducible refine p_lt ?_)
  | (with_reducible refine p_le ?_)
  | (with_reducible refine p_gt ?_)
  | (with_reducible refine p_ge ?_)
  | (with_reducible refine p_eq ?_)
  | (with_reducible refine p_ne ?_)
  | (with_reducible refine p_int ?_)
  | (with_reducible refine p_intB ?_)
  | (with_reducible refine p_abs ?_)
  | (with_reducible refine p_min2 ?_)
  | (with_reducible refine p_max2 ?_)
  | (with_reducible refine p_mkTup' ?_)
  | (with_reducible refine p_mkLst' ?_)
  | (with_reducible refine q_bnil ?_)
  | (with_reducible refine q_bcons ?_)
  | (with_reducible refine q_boxP ?_)
  | (with_reducible refine q_toP ?_)
  | (with_reducible refine q_toT ?_)
  | (with_reducible refine q_nil ?_)
  | (with_reducible refine q_cons ?_)
  | (with_reducible refine q_pnil ?_)
  | (with_reducible refine q_pcons ?_)
  | (with_reducible refine q_snil ?_)
  | (with_reducible refine q_scons ?_)
  | (with_reducible refine q_one ?_)
  | ((with_reducible apply q_put); exact rfl; (focus (first | assumption | exact fun _ z => nomatch z)); dsimp only [List.set])
  | (with_reducible refine s_asg ?_)
  | (with_reducible refine s_par ?_)
  | (with_reducible refine s_expr ?_)
  | (with_reducible refine s_ret ?_)
  | (with_reducible refine s_retN ?_)
  | (with_reducible refine s_pass ?_)
  | (with_reducible refine s_ite ?_)
  | (with_reducible refine s_setKey ?_)
  | (with_reducible refine s_setIx ?_)
  | (with_reducible refine s_wh ?_)
  | (with_reducible refine s_nil ?_)
  | ((with_reducible apply k_ok); exact rfl)
  | ((with_reducible apply p_idxD); exact rfl; exact rfl; (focus (first | exact Seal.lG | exact Seal.lM | exact Seal.lT | exact Pot.lG | exact Pot.lM | exact Pot.lT | exact Deck.lG | exact Deck.lM | exact Deck.lT)))
  | ((with_reducible apply q_setKey); exact rfl; exact rfl; (focus (show 3 < 16777216; omega)); exact rfl; (focus (first | (rw [Seal.pM]; exact put_ref rfl rfl) | (rw [Seal.pT]; exact put_ref rfl rfl) | (rw [Pot.pM]; exact put_ref rfl rfl) | (rw [Pot.pT]; exact put_ref rfl rfl) | (rw [Deck.pM]; exact put_ref rfl rfl) | (rw [Deck.pT]; exact put_ref rfl rfl) | (rw [Deck.pM]; exact rfl) | (rw [Deck.pT]; exact rfl))))
  | (simp only [List.cons_append, List.nil_append])
  | ((with_reducible apply p_idx); exact rfl; exact rfl)
  | ((with_reducible apply q_toR); exact rfl)
  | ((with_reducible apply q_boxR); exact rfl)
  | (with_reducible refine l_int ?_)
  | (with_reducible refine l_tup ?_)
  | (with_reducible refine l_tmp ?_)
  | (with_reducible refine l_nil ?_)
  | (with_reducible refine p_isN ?_)
  | (with_reducible refine p_notN ?_)
  | (with_reducible refine p_neB ?_)
  | (with_reducible refine p_eqB ?_)
  | (with_reducible refine p_band ?_)
  | (refine And.intro (Nat.le_of_ble_eq_true rfl) ?_)
  | (with_reducible refine q_boxT ?_)
  | (with_reducible refine p_mkDct' ?_)
  | (with_reducible refine e_chkC ?_)
  | ((with_reducible apply e_chkV); exact rfl)
  | dsimp only))
local macro_rules | `(tactic| k_go) => `(tactic| repeat (first
  | (with_reducible refine e_con ?_)
  | ((with_reducible apply e_var); exact rfl)
  | ((with_reducible apply e_varO); exact rfl)
  | (with_reducible refine e_prim ?_)
  | (with_reducible refine e_nil ?_)
  | (with_reducible refine e_cons ?_)
  | (with_reducible refine e_call ?_)
  | (with_reducible refine e_meth ?_)
  | (with_reducible refine e_iff ?_)
  | (with_reducible refine t_prim ?_)
  | (with_reducible refine t_var ?_)
  | (with_reducible refine t_not ?_)
  | (with_reducible refine tr_bl ?_)
  | (with_reducible refine tr_int ?_)
  | (with_reducible refine p_add ?_)
  | (with_reducible refine p_sub ?_)
  | ((with_reducible apply p_mul); (focus (first | exact rfl | assumption | exact mulOk_r (by decide) | exact mulOk_mod (by decide) (by decide))))
  | ((with_reducible apply p_fdiv); (focus (first | exact rfl | assumption | exact mulOk_r (by decide) | exact mulOk_mod (by decide) (by decide))))
  | ((with_reducible apply p_mod); (focus (first | decide | assumption)))
  | ((with_reducible apply p_pow); (focus (first | exact rfl | assumption | exact mulOk_r (by decide) | exact mulOk_mod (by decide) (by decide))))
  | (with_reducible refine p_neg ?_)
  | (with_reducible refine p_lt ?_)
  | (with_reducible refine p_le ?_)
  | (with_reducible refine p_gt ?_)
  | (with_reducible refine p_ge ?_)
  | (with_reducible refine p_eq ?_)
  | (with_reducible refine p_ne ?_)
  | (with_reducible refine p_int ?_)
  | (with_reducible refine p_intB ?_)
  | (with_reducible refine p_abs ?_)
  | (with_reducible refine p_min2 ?_)
  | (with_reducible refine p_max2 ?_)
  | (with_reducible refine p_mkTup' ?_)
  | (with_reducible refine p_mkLst' ?_)
  | (with_reducible refine q_bnil ?_)
  | (with_reducible refine q_bcons ?_)
  | (with_reducible refine q_boxP ?_)
  | (with_reducible refine q_toP ?_)
  | (with_reducible refine q_toT ?_)
  | (with_reducible refine q_nil ?_)
  | (with_reducible refine q_cons ?_)
  | (with_reducible refine q_pnil ?_)
  | (with_reducible refine q_pcons ?_)
  | (with_reducible refine q_snil ?_)
  | (with_reducible refine q_scons ?_)
  | (with_reducible refine q_one ?_)
  | ((with_reducible apply q_put); exact rfl; (focus (first | assumption | exact fun _ z => nomatch z)); dsimp only [List.set])
  | ((with_reducible apply k_ok); exact rfl)
  | ((with_reducible apply p_idxD); exact rfl; exact rfl; (focus (first | exact Seal.lG | exact Seal.lM | exact Seal.lT | exact Pot.lG | exact Pot.lM | exact Pot.lT | exact Deck.lG | exact Deck.lM | exact Deck.lT)))
  | ((with_reducible apply q_setKey); exact rfl; exact rfl; (focus (show 3 < 16777216; omega)); exact rfl; (focus (first | (rw [Seal.pM]; exact put_ref rfl rfl) | (rw [Seal.pT]; exact put_ref rfl rfl) | (rw [Pot.pM]; exact put_ref rfl rfl) | (rw [Pot.pT]; exact put_ref rfl rfl) | (rw [Deck.pM]; exact put_ref rfl rfl) | (rw [Deck.pT]; exact put_ref rfl rfl) | (rw [Deck.pM]; exact rfl) | (rw [Deck.pT]; exact rfl))))
  | (simp only [List.cons_append, List.nil_append])
  | ((with_reducible apply p_idx); exact rfl; exact rfl)
  | ((with_reducible apply q_toR); exact rfl)
  | ((with_reducible apply q_boxR); exact rfl)
  | (with_reducible refine l_int ?_)
  | (with_reducible refine l_tup ?_)
  | (with_reducible refine l_tmp ?_)
  | (with_reducible refine l_nil ?_)
  | (with_reducible refine p_isN ?_)
  | (with_reducible refine p_notN ?_)
  | (with_reducible refine p_neB ?_)
  | (with_reducible refine p_eqB ?_)
  | (with_reducible refine p_band ?_)
  | (refine And.intro (Nat.le_of_ble_eq_true rfl) ?_)
  | (with_reducible refine q_boxT ?_)
  | (with_reducible refine p_mkDct' ?_)
  | (with_reducible refine e_chkC ?_)
  | ((with_reducible apply e_chkV); exact rfl)
  | dsimp only))
theorem pn_at {L : PL} {i : Nat} {x : PV} (h : (L.map pn)[i]? = some x) : ∃ z, L[i]? = some z ∧ x = pn z := by
  rw [List.getElem?_map] at h
  cases q : L[i]? with
  | none => rw [q] at h; cases h
  | some z => rw [q] at h; cases h; exact ⟨z, rfl, rfl⟩
theorem asc_bd {L : PL} {lo : Nat} (a : Asc lo L) (h : prodL L < 2 ^ 60) : ∀ z ∈ L, z.1 < 2 ^ 60 ∧ z.2 < 60 := fun z hz => by
  obtain ⟨a1, a2, a3⟩ := asc_mem a hz
  have le := Nat.le_of_dvd (prodL_pos a) a3
  have := Nat.le_self_pow (show z.2 ≠ 0 by omega) z.1
  exact ⟨by omega, pow_lt60 a1.1 (Nat.le_refl 1) (Nat.mul_one _).symm (Nat.lt_of_le_of_lt le h)⟩
theorem made_ok (hP : Pf[ix]? = some madeFD) (k : Nat) (h : List DO) (L : PL) (hb : ∀ z ∈ L, z.1 < 2 ^ 60 ∧ z.2 < 60) : callF Pf (k + 1) ix [.pv (.tup (L.map pn))] h = .ok (.pv (.int ((prodL L : Nat) : Int))) h := by
  refine call_of (d := madeFD) hP rfl ?_
  show Ev (evSs _ madeFD.body) ⟨[some (.pv (.tup (L.map pn))), none, none, none, none], h⟩ _
  unfold madeFD
  dsimp only
  k_steps
  refine s_for ?_
  k_steps
  refine i_seq rfl ?_
  k_steps
  refine for_inv (I := fun i s => ∃ a b c : Option SV, s = ⟨[some (.pv (.tup (L.map pn))), some (.pv (.int ((prodL (L.take i) : Nat) : Int))), a, b, c], h⟩ ∧ NL a ∧ NL b ∧ NL c)
    ⟨none, none, none, rfl, (fun _ z => nomatch z), (fun _ z => nomatch z), (fun _ z => nomatch z)⟩ (fun i x s hp hI => ?_) fun s hI => ?_
  · obtain ⟨a, b, c, rfl, ha, hb', hc⟩ := hI
    obtain ⟨⟨p, e⟩, hz, rfl⟩ := pn_at hp
    obtain ⟨p1, p2⟩ := hb _ (List.mem_of_getElem? hz)
    dsimp only at p1 p2
    refine q_many rfl ?_
    k_steps
    refine s_for ?_
    k_steps
    refine i_rng1 (rngOk_of (by omega) (by omega)) ?_
    rw [Int.toNat_natCast]
    k_steps
    refine for_inv (I := fun j s => ∃ c : Option SV, s = ⟨[some (.pv (.tup (L.map pn))), some (.pv (.int ((prodL (L.take i) * p ^ j : Nat) : Int))), some (.pv (.int p)), some (.pv (.int e)), c], h⟩ ∧ NL c) ⟨c, by rw [Nat.pow_zero, Nat.mul_one], hc⟩ (fun j x s hp hI => ?_) fun s hI => ?_
    · obtain ⟨c, rfl, hc⟩ := hI
      obtain ⟨hj, rfl⟩ := rangeL_at hp
      have hm : mulOk ((prodL (L.take i) * p ^ j : Nat) : Int) (p : Int) = true := mulOk_r (by omega)
      k_steps
      refine ⟨some (.pv (.int (0 + j))), ?_, fun _ z => nomatch z⟩
      rw [← Int.natCast_mul, Nat.mul_assoc, ← Nat.pow_succ]
    · obtain ⟨c, rfl, hc⟩ := hI
      rw [rangeL_length]
      refine k_nx (s' := ⟨[some (.pv (.tup (L.map pn))), some (.pv (.int ((prodL (L.take i) * p ^ e : Nat) : Int))), some (.pv (.int p)), some (.pv (.int e)), c], h⟩) rfl ?_
      k_steps
      refine ⟨some (.pv (.int p)), some (.pv (.int e)), c, ?_, (fun _ z => nomatch z), (fun _ z => nomatch z), hc⟩
      rw [List.take_add_one, hz, Option.toList_some, prodL_app]
      simp only [prodL, Nat.mul_one]
  · obtain ⟨a, b, c, rfl, ha, hb', hc⟩ := hI
    rw [List.length_map, List.take_length]
    refine k_nx (s' := ⟨[some (.pv (.tup (L.map pn))), some (.pv (.int ((prodL L : Nat) : Int))), a, b, c], h⟩) rfl ?_
    k_steps
    exact finc_pv rfl
def S15V : List PV := S15.map fun p : Nat => .int (p : Int)
theorem built_ok (hD : Pf[dr]? = some Seal.drawFD) (hK : Pf[pk]? = some (Seal.pickFD dr)) (hP : Pf[ix]? = some (builtFD dr pk)) (k : Nat) (ns gs : List Int) (x t : Int) (rest : List DO) (top : Nat) (ht : top ≤ 10 ^ 12) (hz : gs.length ≤ 63) :
    ∃ (gs' : List Int) (x' t' : Int) (L : PL), gs'.length ≤ 63 ∧ Asc 1 L ∧ (∀ z ∈ L, z.1 ∈ S15) ∧ prodL L ≤ max top 1 ∧ callF Pf (k + 3) ix [.pv (.ref 2), .pv (.int top)] (Seal.D ns gs x t rest) = .ok (.pv (.tup (L.map pn))) (Seal.D ns gs' x' t' rest) := by
  suffices hs : Ev (evSs (callF Pf (k + 2)) (builtFD dr pk).body) ⟨startE (builtFD dr pk) [.pv (.ref 2), .pv (.int top)], Seal.D ns gs x t rest⟩ fun f s' => ∃ (gs' : List Int) (x' t' : Int) (L : PL), gs'.length ≤ 63 ∧ Asc 1 L ∧ (∀ z ∈ L, z.1 ∈ S15) ∧ prodL L ≤ max top 1 ∧ finC (Seal.D ns gs x t rest) (.ok f s') = .ok (.pv (.tup (L.map pn))) (Seal.D ns gs' x' t' rest) by
    obtain ⟨f, s', e, gs', x', t', L, a, b, c, d, q⟩ := hs
    exact ⟨gs', x', t', L, a, b, c, d, call_of (d := builtFD dr pk) hP rfl ⟨f, s', e, q⟩⟩
  show Ev (evSs _ (builtFD dr pk).body) ⟨[some (.pv (.ref 2)), some (.pv (.int top)), none, none, none, none, none, none, none], Seal.D ns gs x t rest⟩ _
  obtain ⟨v, gs1, x1, t1, hv, c1, hc1⟩ := Seal.pick_own hD hK k ns gs x t rest [PV.int 2, PV.int 4, PV.int 8, PV.int 15] (by show 1 ≤ 4; omega) (by show 4 < 2 ^ 64; omega) hz
  obtain ⟨few, rfl, f1, f2⟩ : ∃ m : Int, v = .int m ∧ 1 ≤ m ∧ m ≤ 15 := by
    simp only [List.mem_cons, List.not_mem_nil, or_false] at hv
    rcases hv with rfl | rfl | rfl | rfl
    · exact ⟨_, rfl, by omega, by omega⟩
    · exact ⟨_, rfl, by omega, by omega⟩
    · exact ⟨_, rfl, by omega, by omega⟩
    · exact ⟨_, rfl, by omega, by omega⟩
  obtain ⟨r2, gs2, x2, t2, a2, b2, c2, hc2⟩ := Seal.draw_ok hD (k + 1) ns gs1 x1 t1 rest 14 (by omega) (by omega) c1
  unfold builtFD
  dsimp only
  k_steps
  refine ⟨⟨rfl, by decide⟩, ?_⟩
  k_steps
  refine ev_call hc1 ?_
  k_steps
  refine s_for ?_
  k_steps
  refine ev_call hc2 ?_
  k_steps
  refine i_rng1 (rngOk_of (by omega) (by omega)) ?_
  k_steps
  refine for_inv (I := fun i s => ∃ (gs' : List Int) (x' t' : Int) (zs : PL) (a b c : Option SV), s = ⟨[some (.pv (.ref 2)), some (.pv (.int top)), some (.own (.lst S15V)), some (.own (.dct (kzN zs))), some (.pv (.int ((prodL zs : Nat) : Int))), some (.pv (.int few)), a, b, c], Seal.D ns gs' x' t' rest⟩ ∧ gs'.length ≤ 63 ∧ NL a ∧ NL b ∧ NL c ∧
      (zs.map (·.1)).Nodup ∧ (∀ z ∈ zs, 1 ≤ z.2) ∧ (∀ q ∈ zs.map (·.1), q ∈ S15) ∧ prodL zs ≤ max top 1 ∧ zs.length ≤ 3 * i)
    ⟨gs2, x2, t2, [], none, none, none, rfl, c2, (fun _ z => nomatch z), (fun _ z => nomatch z), (fun _ z => nomatch z), List.nodup_nil, (fun _ z => by cases z), (fun _ z => by cases z), Nat.le_max_right _ _, Nat.le_refl _⟩ (fun i y s hp hI => ?_) fun s hI => ?_
  · obtain ⟨gs', x', t', zs, a, b, c, rfl, hz', ha, hb, hc, hnd, he, hS, hpr, hlen⟩ := hI
    have hi : i < 14 := by have := (List.getElem?_eq_some_iff.mp hp).1; rw [rangeL_length] at this; omega
    obtain ⟨i', rfl⟩ : ∃ i', y = .int i' := ⟨_, (rangeL_at hp).2⟩
    obtain ⟨r3, gs3, x3, t3, a3, b3, c3, hc3⟩ := Seal.draw_ok hD (k + 1) ns gs' x' t' rest few (by omega) (by omega) hz'
    obtain ⟨r4, gs4, x4, t4, a4, b4, c4, hc4⟩ := Seal.draw_ok hD (k + 1) ns gs3 x3 t3 rest 3 (by omega) (by omega) c3
    obtain ⟨v, hv, hm⟩ := atI_some (xs := S15V) a3 (by show r3 < 15; omega)
    obtain ⟨p, hpS, rfl⟩ := List.mem_map.mp hm
    have hpb : p ≤ 997 := by
      have : ∀ p ∈ S15, p ≤ 997 := by decide
      exact this p hpS
    k_steps
    refine ev_call hc3 ?_
    k_steps
    refine p_idx rfl hv ?_
    k_steps
    refine s_for ?_
    k_steps
    refine ev_call hc4 ?_
    k_steps
    refine i_rng1 (rngOk_of (by omega) (by omega)) ?_
    k_steps
    refine for_inv (I := fun j s => ∃ (zs : PL) (c : Option SV), s = ⟨[some (.pv (.ref 2)), some (.pv (.int top)), some (.own (.lst S15V)), some (.own (.dct (kzN zs))), some (.pv (.int ((prodL zs : Nat) : Int))), some (.pv (.int few)), some (.pv (.int i')), some (.pv (.int p)), c], Seal.D ns gs4 x4 t4 rest⟩ ∧ NL c ∧
        (zs.map (·.1)).Nodup ∧ (∀ z ∈ zs, 1 ≤ z.2) ∧ (∀ q ∈ zs.map (·.1), q ∈ S15) ∧ prodL zs ≤ max top 1 ∧ zs.length ≤ 3 * i + j)
      ⟨zs, c, rfl, hc, hnd, he, hS, hpr, by omega⟩ (fun j y s hp hI => ?_) fun s hI => ?_
    · obtain ⟨zs, c, rfl, hc, hnd, he, hS, hpr, hlen⟩ := hI
      have hj : j < 3 := by have := (List.getElem?_eq_some_iff.mp hp).1; rw [rangeL_length] at this; omega
      obtain ⟨j', rfl⟩ : ∃ j', y = .int j' := ⟨_, (rangeL_at hp).2⟩
      have hmul : mulOk ((prodL zs : Nat) : Int) (p : Int) = true := mulOk_r (by omega)
      have em : ((prodL zs : Nat) : Int) * p = ((prodL zs * p : Nat) : Int) := by rw [Int.natCast_mul]
      k_steps
      rw [em]
      refine ⟨fun hle => ?_, fun hle => ?_⟩
      · have hle : prodL zs * p ≤ top := by have := of_decide_eq_true hle; omega
        refine s_parK ?_
        k_steps
        refine p_get2 (w := .int 0) rfl rfl rfl ?_
        rw [look_kzN, em]
        k_steps
        refine ⟨_, _, rfl, ?_⟩
        k_steps
        refine q_setKey (kvs := kzN zs) (k := .inl (p : Int)) (v := .int (((cnt p zs : Nat) : Int) + 1)) rfl rfl (by rw [kzN_len]; show _ < 16777216; omega) rfl rfl ?_
        rw [put_kzN p zs hnd, ← bump_prod]
        k_steps
        have hln := bump_len p zs
        refine ⟨bump p zs, some (.pv (.int j')), rfl, (fun _ z => nomatch z), bump_nodup p zs hnd, bump_exp p zs he, fun q hq => ?_, by rw [bump_prod]; omega, by omega⟩
        rcases (bump_keys p zs q).mp hq with rfl | hq
        · exact hpS
        · exact hS q hq
      · k_steps
        exact ⟨zs, some (.pv (.int j')), rfl, (fun _ z => nomatch z), hnd, he, hS, hpr, by omega⟩
    · obtain ⟨zs, c, rfl, hc, hnd, he, hS, hpr, hlen⟩ := hI
      rw [rangeL_length] at hlen
      refine k_nx (s' := ⟨[some (.pv (.ref 2)), some (.pv (.int top)), some (.own (.lst S15V)), some (.own (.dct (kzN zs))), some (.pv (.int ((prodL zs : Nat) : Int))), some (.pv (.int few)), some (.pv (.int i')), some (.pv (.int p)), c], Seal.D ns gs4 x4 t4 rest⟩) rfl ?_
      k_steps
      exact ⟨gs4, x4, t4, zs, some (.pv (.int i')), some (.pv (.int p)), c, rfl, c4, (fun _ z => nomatch z), (fun _ z => nomatch z), hc, hnd, he, hS, hpr, by omega⟩
  · obtain ⟨gs', x', t', zs, a, b, c, rfl, hz', ha, hb, hc, hnd, he, hS, hpr, hlen⟩ := hI
    rw [rangeL_length] at hlen
    refine k_nx (s' := ⟨[some (.pv (.ref 2)), some (.pv (.int top)), some (.own (.lst S15V)), some (.own (.dct (kzN zs))), some (.pv (.int ((prodL zs : Nat) : Int))), some (.pv (.int few)), a, b, c], Seal.D ns gs' x' t' rest⟩) rfl ?_
    k_steps
    refine p_sortIt rfl (kz_items (zs.map cz)) (by rw [List.length_map]; show _ ≤ 16777216; omega) ?_
    rw [sortQ_eq, mkP_cz]
    k_steps
    refine p_tupleL rfl ?_
    refine ⟨gs', x', t', sortQ zs, hz', sortQ_asc zs hnd fun z hz => ⟨S15_pr _ (hS _ (List.mem_map.mpr ⟨z, hz, rfl⟩)), he z hz⟩, fun z hz => hS _ (List.mem_map.mpr ⟨z, (sortQ_mem zs z).mp hz, rfl⟩), by rw [sortQ_prod]; exact hpr, finc_pv rfl⟩
end
end DV.Num
set_option maxHeartbeats 4000000
namespace K58
open PySem PySem.Spec PyProof.Rows L2 DV
def topS (i : Nat) : Stmt := PySem.Challenge.pw_divisorways_k58_whole_main_signs_shifted.main.body.getD i (.Pass ⟨0, 0, 0, 0⟩)
abbrev s_signs_row : Stmt := topS 1
abbrev N_signs_row : List Str := ["p", "found", "x"]
abbrev P_signs_row : List Str := ["p"]
def c_signs_row : FD := ⟨1, 3, [.asg 1 (.prim .repL [.prim .mkLst [.prim .neg [.con (.int 1)]], .var 0]), .setIx (.var 1) (.con (.int 0)) (.con (.int 0)), .forS (.one 2) .rng2 [.con (.int 1), .prim .add [.prim .fdiv [.var 0, .con (.int 2)], .con (.int 1)]] [.setIx (.var 1) (.prim .mod [.prim .mul [.var 2, .var 2], .var 0]) (.con (.int 1))], .ret (.var 1)]⟩
abbrev s_sign_at : Stmt := topS 2
abbrev N_sign_at : List Str := ["p", "n"]
abbrev P_sign_at : List Str := ["p", "n"]
def c_sign_at : FD := ⟨2, 2, [.ret (.prim .idx [.call 0 [.var 0] [], .prim .mod [.var 1, .var 0]])]⟩
abbrev s_shifted_sum : Stmt := topS 3
abbrev N_shifted_sum : List Str := ["p", "n", "signs", "x", "sign"]
abbrev P_shifted_sum : List Str := ["p", "n"]
def c_shifted_sum : FD := ⟨2, 5, [.asg 2 (.call 0 [.var 0] []), .ret (.prim .sum [.comp (.many [3, 4]) .enum [.var 2] none (.prim .mul [.var 4, .prim .idx [.var 2, .prim .mod [.prim .add [.var 3, .var 1], .var 0]]]) [3, 4]])]⟩
abbrev s_square_neighbours : Stmt := topS 4
abbrev N_square_neighbours : List Str := ["p", "signs", "x"]
abbrev P_square_neighbours : List Str := ["p"]
def c_square_neighbours : FD := ⟨1, 3, [.asg 1 (.call 0 [.var 0] []), .ret (.prim .len [.comp (.one 2) .rng2 [.con (.int 1), .prim .sub [.var 0, .con (.int 1)]] (some (.andE (.prim .eq [.prim .idx [.var 1, .var 2], .con (.int 1)]) (.prim .eq [.prim .idx [.var 1, .prim .add [.var 2, .con (.int 1)]], .con (.int 1)]))) (.var 2) [2]])]⟩
abbrev s_parts_sum : Stmt := topS 5
abbrev N_parts_sum : List Str := ["p", "m", "k"]
abbrev P_parts_sum : List Str := ["p", "m"]
def c_parts_sum : FD := ⟨2, 3, [.ret (.prim .sum [.comp (.one 2) .rng2 [.con (.int 1), .prim .add [.prim .fdiv [.var 0, .con (.int 2)], .con (.int 1)]] none (.prim .fdiv [.prim .mul [.var 2, .var 1], .var 0]) [2]])]⟩
abbrev s__law_pot : Stmt := topS 7
abbrev N__law_pot : List Str := ["script", "cells", "stirred", "cell"]
abbrev P__law_pot : List Str := ["script"]
def c__law_pot : FD := ⟨1, 4, [.par [1, 2] [.comp (.one 3) .seq [.prim (.slice false true) [.var 0, .chkI (.con (.int 61))]] none (.prim .add [.prim .mul [.con (.int 2), .prim .abs [.var 3]], .prim .int [.prim .lt [.var 3, .con (.int 0)]]]) [3], .prim .add [.con (.int 19592), .prim .mul [.con (.int 3), .prim .len [.var 0]]]], .forS (.one 3) .seq [.var 1] [.asg 2 (.prim .mod [.prim .int [.prim .add [.prim .add [.prim .mul [.var 2, .con (.int 69069)], .var 3], .con (.int 13)]], .con (.int 4294967291)])], .ret (.prim (.mkDct [.inr (Str.ofString "great"), .inr (Str.ofString "stirred"), .inr (Str.ofString "turn")]) [.comp (.one 3) .seq [.var 1] (some (.prim .ge [.var 3, .prim .pow [.con (.int 10), .con (.int 16)]])) (.var 3) [3], .var 2, .con (.int 0)])]⟩
abbrev s__law_draw : Stmt := topS 8
abbrev N__law_draw : List Str := ["pot", "many", "great", "cell", "turn", "churned"]
abbrev P__law_draw : List Str := ["pot", "many"]
def c__law_draw : FD := ⟨2, 6, [.asg 2 (.prim .idxD [.var 0, .con (.str (Str.ofString "great"))]), .ite (.prim .ne [.var 2, .prim .mkLst []]) [.asg 3 (.meth .popAt (.var 2) [.con (.int 0)]), .ite (.prim .ge [.var 3, .var 1]) [.expr (.meth .insert (.var 2) [.con (.int 0), .prim .fdiv [.var 3, .var 1]])] [], .ret (.prim .mod [.prim .int [.var 3], .var 1])] [], .setKey (.var 0) (.con (.str (Str.ofString "turn"))) (.prim .add [.prim .idxD [.var 0, .con (.str (Str.ofString "turn"))], .con (.int 1)]), .asg 4 (.prim .idxD [.var 0, .con (.str (Str.ofString "turn"))]), .asg 5 (.prim .mod [.prim .int [.prim .add [.prim .add [.prim .mul [.prim .idxD [.var 0, .con (.str (Str.ofString "stirred"))], .con (.int 48271)], .prim .mul [.prim .mul [.var 4, .var 4], .con (.int 17)]], .prim .mul [.con (.int 7919), .var 4]]], .con (.int 4294967279)]), .asg 5 (.prim .mod [.prim .int [.prim .add [.prim .mul [.var 5, .con (.int 69621)], .prim .fdiv [.var 5, .con (.int 65536)]]], .con (.int 4294967291)]), .setKey (.var 0) (.con (.str (Str.ofString "stirred"))) (.var 5), .ret (.prim .mod [.prim .int [.prim .fdiv [.var 5, .con (.int 1024)]], .var 1])]⟩
abbrev s__law_pick : Stmt := topS 9
abbrev N__law_pick : List Str := ["pot", "row"]
abbrev P__law_pick : List Str := ["pot", "row"]
def c__law_pick : FD := ⟨2, 2, [.ret (.prim .idx [.var 1, .call 6 [.var 0, .prim .len [.var 1]] []])]⟩
abbrev s__law_is_prime : Stmt := topS 10
abbrev N__law_is_prime : List Str := ["number", "p"]
abbrev P__law_is_prime : List Str := ["number"]
def c__law_is_prime : FD := ⟨1, 2, [.ite (.prim .lt [.var 0, .con (.int 4)]) [.ret (.prim .gt [.var 0, .con (.int 1)])] [], .asg 1 (.con (.int 2)), .wh (.andE (.prim .le [.prim .mul [.var 1, .var 1], .var 0]) (.prim .gt [.prim .mod [.prim .int [.var 0], .var 1], .con (.int 0)])) [.asg 1 (.prim .add [.var 1, .con (.int 1)])], .ret (.prim .gt [.prim .mul [.var 1, .var 1], .var 0])]⟩
abbrev s__law_prime : Stmt := topS 11
abbrev N__law_prime : List Str := ["pot", "most", "p"]
abbrev P__law_prime : List Str := ["pot", "most"]
def c__law_prime : FD := ⟨2, 3, [.asg 2 (.prim .add [.con (.int 3), .prim .mul [.con (.int 2), .call 6 [.var 0, .prim .fdiv [.prim .sub [.var 1, .con (.int 1)], .con (.int 2)]] []]]), .wh (.notE (.call 8 [.var 2] [])) [.asg 2 (.iff (.prim .gt [.var 2, .con (.int 3)]) (.prim .sub [.var 2, .con (.int 2)]) (.con (.int 3)))], .ret (.var 2)]⟩
abbrev s_law : Stmt := topS 12
abbrev N_law : List Str := ["script", "pot", "turn", "p", "squares", "signs", "again", "some", "n", "due", "many", "m", "q", "x", "k"]
abbrev P_law : List Str := ["script"]
def c_law : FD := ⟨1, 15, [.asg 1 (.call 5 [.var 0] []), .forS (.one 2) .rng1 [.con (.int 2)] [.asg 3 (.call 9 [.var 1, .call 7 [.var 1, .prim .mkLst [.con (.int 19), .con (.int 100), .con (.int 997)]] []] []), .asg 3 (.iff (.prim .eq [.call 6 [.var 1, .con (.int 20)] [], .con (.int 0)]) (.con (.int 997)) (.var 3)), .asg 4 (.prim .dictL [.comp (.one 13) .rng2 [.con (.int 1), .prim .fdiv [.prim .add [.var 3, .con (.int 1)], .con (.int 2)]] none (.prim .mkTup [.prim .mod [.prim .mul [.var 13, .var 13], .var 3], .con (.int 1)]) [13]]), .asg 5 (.prim .add [.prim .mkLst [.con (.int 0)], .comp (.one 13) .rng2 [.con (.int 1), .var 3] none (.meth .get2 (.var 4) [.var 13, .prim .neg [.con (.int 1)]]) [13]]), .forS (.one 6) .rng1 [.con (.int 3)] [.asg 7 (.prim .mkLst [.con (.int 0), .con (.int 1), .prim .neg [.con (.int 1)], .var 3, .prim .neg [.var 3], .con (.int 2), .call 6 [.var 1, .var 3] [], .call 6 [.var 1, .prim .pow [.con (.int 10), .con (.int 30)]] []]), .asg 8 (.call 7 [.var 1, .prim .add [.var 7, .prim .mkLst [.prim .neg [.call 6 [.var 1, .prim .pow [.con (.int 10), .con (.int 30)]] []]]]] []), .asg 9 (.prim .idx [.var 5, .prim .mod [.var 8, .var 3]]), .ite (.prim .ne [.prim .repr [.prim .mkLst [.call 1 [.var 3, .var 8] [], .call 1 [.var 8, .var 3] [1, 0]]], .prim .repr [.prim .mkLst [.var 9, .var 9]]]) [.ret (.con (.bl false))] [], .asg 9 (.iff (.prim .eq [.prim .mod [.var 8, .var 3], .con (.int 0)]) (.prim .sub [.var 3, .con (.int 1)]) (.prim .neg [.con (.int 1)])), .ite (.prim .ne [.prim .sum [.comp (.one 13) .rng1 [.var 3] none (.prim .mul [.prim .idx [.var 5, .var 13], .prim .idx [.var 5, .prim .mod [.prim .add [.var 13, .var 8], .var 3]]]) [13]], .var 9]) [.ret (.con (.bl false))] [], .ite (.prim .ne [.prim .repr [.prim .mkLst [.call 2 [.var 3, .var 8] [], .call 2 [.var 8, .var 3] [1, 0]]], .prim .repr [.prim .mkLst [.var 9, .var 9]]]) [.ret (.con (.bl false))] []], .asg 10 (.prim .len [.comp (.one 13) .rng2 [.con (.int 1), .prim .sub [.var 3, .con (.int 1)]] (some (.prim .eq [.prim .add [.prim .idx [.var 5, .var 13], .prim .idx [.var 5, .prim .add [.var 13, .con (.int 1)]]], .con (.int 2)])) (.var 13) [13]]), .ite (.prim .ne [.prim .repr [.prim .mkLst [.call 3 [.var 3] [], .call 3 [.var 3] [0]]], .prim .repr [.prim .mkLst [.var 10, .var 10]]]) [.ret (.con (.bl false))] [], .ite (.prim .ne [.prim .mul [.con (.int 4), .var 10], .prim .sub [.prim .sub [.var 3, .con (.int 4)], .prim .idx [.var 5, .prim .sub [.var 3, .con (.int 1)]]]]) [.ret (.con (.bl false))] [], .asg 11 (.prim .add [.con (.int 1), .call 6 [.var 1, .call 7 [.var 1, .prim .mkLst [.con (.int 9), .con (.int 999), .prim .pow [.con (.int 10), .con (.int 6)]]] []] []]), .asg 9 (.prim .sum [.comp (.one 14) .rng2 [.con (.int 1), .prim .fdiv [.prim .add [.var 3, .con (.int 1)], .con (.int 2)]] none (.prim .fdiv [.prim .mul [.var 14, .var 11], .var 3]) [14]]), .ite (.prim .ne [.prim .repr [.prim .mkLst [.call 4 [.var 3, .var 11] [], .call 4 [.var 11, .var 3] [1, 0]]], .prim .repr [.prim .mkLst [.var 9, .var 9]]]) [.ret (.con (.bl false))] [], .ite (.andE (.prim .eq [.prim .mod [.var 11, .con (.int 2)], .con (.int 1)]) (.andE (.prim .gt [.prim .mod [.var 11, .var 3], .con (.int 0)]) (.prim .ne [.prim .idx [.var 5, .prim .mod [.var 11, .var 3]], .prim .sub [.con (.int 1), .prim .mul [.con (.int 2), .prim .mod [.var 9, .con (.int 2)]]]]))) [.ret (.con (.bl false))] [], .asg 12 (.call 9 [.var 1, .call 7 [.var 1, .prim .mkLst [.con (.int 19), .con (.int 100), .con (.int 997)]] []] []), .ite (.andE (.prim .ne [.var 12, .var 3]) (.prim .ne [.prim .add [.call 4 [.var 3, .var 12] [], .call 4 [.var 12, .var 3] []], .prim .mul [.prim .fdiv [.prim .sub [.var 3, .con (.int 1)], .con (.int 2)], .prim .fdiv [.prim .sub [.var 12, .con (.int 1)], .con (.int 2)]]])) [.ret (.con (.bl false))] []], .ret (.con (.bl true))]⟩
def Pf : List FD := [c_signs_row, c_sign_at, c_shifted_sum, c_square_neighbours, c_parts_sum, c__law_pot, c__law_draw, c__law_pick, c__law_is_prime, c__law_prime, c_law]
theorem sc_signs_row : FnScope N_signs_row P_signs_row (defScope s_signs_row) := ⟨rfl, rfl, rfl, by decide +kernel, rfl, by decide +kernel, by decide +kernel⟩
theorem sc_sign_at : FnScope N_sign_at P_sign_at (defScope s_sign_at) := ⟨rfl, rfl, rfl, by decide +kernel, rfl, by decide +kernel, by decide +kernel⟩
theorem sc_shifted_sum : FnScope N_shifted_sum P_shifted_sum (defScope s_shifted_sum) := ⟨rfl, rfl, rfl, by decide +kernel, rfl, by decide +kernel, by decide +kernel⟩
theorem sc_square_neighbours : FnScope N_square_neighbours P_square_neighbours (defScope s_square_neighbours) := ⟨rfl, rfl, rfl, by decide +kernel, rfl, by decide +kernel, by decide +kernel⟩
theorem sc_parts_sum : FnScope N_parts_sum P_parts_sum (defScope s_parts_sum) := ⟨rfl, rfl, rfl, by decide +kernel, rfl, by decide +kernel, by decide +kernel⟩
theorem sc__law_pot : FnScope N__law_pot P__law_pot (defScope s__law_pot) := ⟨rfl, rfl, rfl, by decide +kernel, rfl, by decide +kernel, by decide +kernel⟩
theorem sc__law_draw : FnScope N__law_draw P__law_draw (defScope s__law_draw) := ⟨rfl, rfl, rfl, by decide +kernel, rfl, by decide +kernel, by decide +kernel⟩
theorem sc__law_pick : FnScope N__law_pick P__law_pick (defScope s__law_pick) := ⟨rfl, rfl, rfl, by decide +kernel, rfl, by decide +kernel, by decide +kernel⟩
theorem sc__law_is_prime : FnScope N__law_is_prime P__law_is_prime (defScope s__law_is_prime) := ⟨rfl, rfl, rfl, by decide +kernel, rfl, by decide +kernel, by decide +kernel⟩
theorem sc__law_prime : FnScope N__law_prime P__law_prime (defScope s__law_prime) := ⟨rfl, rfl, rfl, by decide +kernel, rfl, by decide +kernel, by decide +kernel⟩
theorem sc_law : FnScope N_law P_law (defScope s_law) := ⟨rfl, rfl, rfl, by decide +kernel, rfl, by decide +kernel, by decide +kernel⟩
structure Fx (K : Fg) (mg : Str → Option Value) where
  d_signs_row : FuncData
  f_signs_row : FunD K "signs_row" "signs_row" (defArgs s_signs_row) (defBody s_signs_row) (defScope s_signs_row) [] [] (He.ga K "signs_row") d_signs_row
  g_signs_row : mg "signs_row" = some (.ref (He.ga K "signs_row"))
  d_sign_at : FuncData
  f_sign_at : FunD K "sign_at" "sign_at" (defArgs s_sign_at) (defBody s_sign_at) (defScope s_sign_at) [] [] (He.ga K "sign_at") d_sign_at
  g_sign_at : mg "sign_at" = some (.ref (He.ga K "sign_at"))
  d_shifted_sum : FuncData
  f_shifted_sum : FunD K "shifted_sum" "shifted_sum" (defArgs s_shifted_sum) (defBody s_shifted_sum) (defScope s_shifted_sum) [] [] (He.ga K "shifted_sum") d_shifted_sum
  g_shifted_sum : mg "shifted_sum" = some (.ref (He.ga K "shifted_sum"))
  d_square_neighbours : FuncData
  f_square_neighbours : FunD K "square_neighbours" "square_neighbours" (defArgs s_square_neighbours) (defBody s_square_neighbours) (defScope s_square_neighbours) [] [] (He.ga K "square_neighbours") d_square_neighbours
  g_square_neighbours : mg "square_neighbours" = some (.ref (He.ga K "square_neighbours"))
  d_parts_sum : FuncData
  f_parts_sum : FunD K "parts_sum" "parts_sum" (defArgs s_parts_sum) (defBody s_parts_sum) (defScope s_parts_sum) [] [] (He.ga K "parts_sum") d_parts_sum
  g_parts_sum : mg "parts_sum" = some (.ref (He.ga K "parts_sum"))
  d__law_pot : FuncData
  f__law_pot : FunD K "_law_pot" "_law_pot" (defArgs s__law_pot) (defBody s__law_pot) (defScope s__law_pot) [] [] (He.ga K "_law_pot") d__law_pot
  g__law_pot : mg "_law_pot" = some (.ref (He.ga K "_law_pot"))
  d__law_draw : FuncData
  f__law_draw : FunD K "_law_draw" "_law_draw" (defArgs s__law_draw) (defBody s__law_draw) (defScope s__law_draw) [] [] (He.ga K "_law_draw") d__law_draw
  g__law_draw : mg "_law_draw" = some (.ref (He.ga K "_law_draw"))
  d__law_pick : FuncData
  f__law_pick : FunD K "_law_pick" "_law_pick" (defArgs s__law_pick) (defBody s__law_pick) (defScope s__law_pick) [] [] (He.ga K "_law_pick") d__law_pick
  g__law_pick : mg "_law_pick" = some (.ref (He.ga K "_law_pick"))
  d__law_is_prime : FuncData
  f__law_is_prime : FunD K "_law_is_prime" "_law_is_prime" (defArgs s__law_is_prime) (defBody s__law_is_prime) (defScope s__law_is_prime) [] [] (He.ga K "_law_is_prime") d__law_is_prime
  g__law_is_prime : mg "_law_is_prime" = some (.ref (He.ga K "_law_is_prime"))
  d__law_prime : FuncData
  f__law_prime : FunD K "_law_prime" "_law_prime" (defArgs s__law_prime) (defBody s__law_prime) (defScope s__law_prime) [] [] (He.ga K "_law_prime") d__law_prime
  g__law_prime : mg "_law_prime" = some (.ref (He.ga K "_law_prime"))
  d_law : FuncData
  f_law : FunD K "law" "law" (defArgs s_law) (defBody s_law) (defScope s_law) [] [] (He.ga K "law") d_law
  g_law : mg "law" = some (.ref (He.ga K "law"))
  b_abs : mg "abs" = none
  b_dict : mg "dict" = none
  b_enumerate : mg "enumerate" = none
  b_int : mg "int" = none
  b_len : mg "len" = none
  b_range : mg "range" = none
  b_repr : mg "repr" = none
  b_sum : mg "sum" = none
variable {P : Program} {w : World} {K : Fg} {mg : Str → Option Value} {base : Heap}
theorem hW : ∀ x m s H, ¬ W0 x m s H := fun _ _ _ _ z => z
theorem simW0 : SimW W0 := fun _ _ _ _ _ _ z => z
theorem bp_signs_row (fx : Fx K mg) : Binds K fx.d_signs_row P_signs_row [] := FunD.bindsN fx.f_signs_row fun _ _ _ _ _ _ us hl => match us, hl with | [_], _ => rfl
theorem bp_sign_at (fx : Fx K mg) : Binds K fx.d_sign_at P_sign_at [] := FunD.bindsN fx.f_sign_at fun _ _ _ _ _ _ us hl => match us, hl with | [_, _], _ => rfl
theorem bk_sign_at_n_p (fx : Fx K mg) : BindK fx.d_sign_at P_sign_at ["n", "p"] [1, 0] := ⟨by decide, by decide, fun s ws hl => by
  obtain ⟨_, _, dV, _, _, _, _, _, _, _, e, _, _, hD, _⟩ := fx.f_sign_at.ex
  rcases hD with ⟨_, rfl⟩ | ⟨z, _⟩
  · rw [e]; exact .of_eq (match ws, hl with | [_, _], _ => rfl)
  · exact absurd rfl z, by decide, by decide⟩
theorem bp_shifted_sum (fx : Fx K mg) : Binds K fx.d_shifted_sum P_shifted_sum [] := FunD.bindsN fx.f_shifted_sum fun _ _ _ _ _ _ us hl => match us, hl with | [_, _], _ => rfl
theorem bk_shifted_sum_n_p (fx : Fx K mg) : BindK fx.d_shifted_sum P_shifted_sum ["n", "p"] [1, 0] := ⟨by decide, by decide, fun s ws hl => by
  obtain ⟨_, _, dV, _, _, _, _, _, _, _, e, _, _, hD, _⟩ := fx.f_shifted_sum.ex
  rcases hD with ⟨_, rfl⟩ | ⟨z, _⟩
  · rw [e]; exact .of_eq (match ws, hl with | [_, _], _ => rfl)
  · exact absurd rfl z, by decide, by decide⟩
theorem bp_square_neighbours (fx : Fx K mg) : Binds K fx.d_square_neighbours P_square_neighbours [] := FunD.bindsN fx.f_square_neighbours fun _ _ _ _ _ _ us hl => match us, hl with | [_], _ => rfl
theorem bk_square_neighbours_p (fx : Fx K mg) : BindK fx.d_square_neighbours P_square_neighbours ["p"] [0] := ⟨by decide, by decide, fun s ws hl => by
  obtain ⟨_, _, dV, _, _, _, _, _, _, _, e, _, _, hD, _⟩ := fx.f_square_neighbours.ex
  rcases hD with ⟨_, rfl⟩ | ⟨z, _⟩
  · rw [e]; exact .of_eq (match ws, hl with | [_], _ => rfl)
  · exact absurd rfl z, by decide, by decide⟩
theorem bp_parts_sum (fx : Fx K mg) : Binds K fx.d_parts_sum P_parts_sum [] := FunD.bindsN fx.f_parts_sum fun _ _ _ _ _ _ us hl => match us, hl with | [_, _], _ => rfl
theorem bk_parts_sum_m_p (fx : Fx K mg) : BindK fx.d_parts_sum P_parts_sum ["m", "p"] [1, 0] := ⟨by decide, by decide, fun s ws hl => by
  obtain ⟨_, _, dV, _, _, _, _, _, _, _, e, _, _, hD, _⟩ := fx.f_parts_sum.ex
  rcases hD with ⟨_, rfl⟩ | ⟨z, _⟩
  · rw [e]; exact .of_eq (match ws, hl with | [_, _], _ => rfl)
  · exact absurd rfl z, by decide, by decide⟩
theorem bp__law_pot (fx : Fx K mg) : Binds K fx.d__law_pot P__law_pot [] := FunD.bindsN fx.f__law_pot fun _ _ _ _ _ _ us hl => match us, hl with | [_], _ => rfl
theorem bp__law_draw (fx : Fx K mg) : Binds K fx.d__law_draw P__law_draw [] := FunD.bindsN fx.f__law_draw fun _ _ _ _ _ _ us hl => match us, hl with | [_, _], _ => rfl
theorem bp__law_pick (fx : Fx K mg) : Binds K fx.d__law_pick P__law_pick [] := FunD.bindsN fx.f__law_pick fun _ _ _ _ _ _ us hl => match us, hl with | [_, _], _ => rfl
theorem bp__law_is_prime (fx : Fx K mg) : Binds K fx.d__law_is_prime P__law_is_prime [] := FunD.bindsN fx.f__law_is_prime fun _ _ _ _ _ _ us hl => match us, hl with | [_], _ => rfl
theorem bp__law_prime (fx : Fx K mg) : Binds K fx.d__law_prime P__law_prime [] := FunD.bindsN fx.f__law_prime fun _ _ _ _ _ _ us hl => match us, hl with | [_, _], _ => rfl
theorem ok_signs_row (fx : Fx K mg) (n : Nat) : FnG P w K mg base (n + 1) (He.ga K "signs_row") fx.d_signs_row P_signs_row (callF Pf (n + 1) 0) := by
  refine fng_of (d := c_signs_row) fx.f_signs_row sc_signs_row rfl rfl rfl fun cdv A outer s H hr hgd0 => ?_
  have nd := sc_signs_row.nd
  have hgd : (A.deeper (envOfC "signs_row" (defScope s_signs_row) s.heap.objs.size (He.ga K "signs_row") cdv)).guards = some [] := hgd0
  have hu : (A.deeper (envOfC "signs_row" (defScope s_signs_row) s.heap.objs.size (He.ga K "signs_row") cdv)).units + 66 < cLine := by have := hr.un; omega
  exact dss_cons (ds_asg (i := 1) ((de_repL ((de_mkLst (da_consR ((de_neg (de_int))) (da_nilR)))) (de_var 0))) nd) (dss_cons (ds_setIx (de_var 1) (de_int) (de_int)) (dss_cons (ds_for PassesOwn.never rfl simW0 (iw_rng2 (by rfl) fx.b_range (da_consR (de_int) (da_consR ((de_add ((de_fdiv (de_var 0) (de_int))) (de_int))) (da_nilR)))) (pg_name (i := 2) nd rfl (by first | exact .inl rfl | exact .inr rfl)) (dss_cons (ds_setIx (de_var 1) ((de_mod ((de_mul (de_var 2) (de_var 2))) (de_var 0))) (de_int)) (dss_nil))) (dss_cons (ds_ret (de_var 1)) (dss_nil))))
theorem ok_parts_sum (fx : Fx K mg) (n : Nat) : FnG P w K mg base (n + 1) (He.ga K "parts_sum") fx.d_parts_sum P_parts_sum (callF Pf (n + 1) 4) := by
  refine fng_of (d := c_parts_sum) fx.f_parts_sum sc_parts_sum rfl rfl rfl fun cdv A outer s H hr hgd0 => ?_
  have nd := sc_parts_sum.nd
  have hgd : (A.deeper (envOfC "parts_sum" (defScope s_parts_sum) s.heap.objs.size (He.ga K "parts_sum") cdv)).guards = some [] := hgd0
  have hu : (A.deeper (envOfC "parts_sum" (defScope s_parts_sum) s.heap.objs.size (He.ga K "parts_sum") cdv)).units + 66 < cLine := by have := hr.un; omega
  exact dss_cons (ds_ret ((de_sum rfl (by rfl) fx.b_sum (da_consR ((de_comp (own := [("k", 2)]) rfl nd (iw_rng2 (by rfl) fx.b_range (da_consR (de_int) (da_consR ((de_add ((de_fdiv (de_var 0) (de_int))) (de_int))) (da_nilR)))) (fun _ _ _ _ _ => (pg_name (i := 2) nd rfl (by first | exact .inl rfl | exact .inr rfl))) (fun _ _ _ _ _ => dts_nil) (fun _ _ _ _ _ => (de_fdiv ((de_mul (de_var 2) (de_var 1))) (de_var 0))))) (da_nilR))))) (dss_nil)
theorem ok__law_pot (fx : Fx K mg) (n : Nat) : FnG P w K mg base (n + 1) (He.ga K "_law_pot") fx.d__law_pot P__law_pot (callF Pf (n + 1) 5) := by
  refine fng_of (d := c__law_pot) fx.f__law_pot sc__law_pot rfl rfl rfl fun cdv A outer s H hr hgd0 => ?_
  have nd := sc__law_pot.nd
  have hgd : (A.deeper (envOfC "_law_pot" (defScope s__law_pot) s.heap.objs.size (He.ga K "_law_pot") cdv)).guards = some [] := hgd0
  have hu : (A.deeper (envOfC "_law_pot" (defScope s__law_pot) s.heap.objs.size (He.ga K "_law_pot") cdv)).units + 66 < cLine := by have := hr.un; omega
  exact dss_cons (ds_par2 (da_consR ((de_comp (own := [("cell", 3)]) rfl nd (iw_seq ((de_slFT (de_var 0) (de_int)))) (fun _ _ _ _ _ => (pg_name (i := 3) nd rfl (by first | exact .inl rfl | exact .inr rfl))) (fun _ _ _ _ _ => dts_nil) (fun _ _ _ _ _ => (de_add ((de_mul (de_int) ((de_abs (by rfl) fx.b_abs (da_consR (de_var 3) (da_nilR)))))) ((de_toInt (by rfl) fx.b_int (da_consR ((de_lt (de_var 3) (de_int))) (da_nilR)))))))) (da_consR ((de_add (de_int) ((de_mul (de_int) ((de_len (by rfl) fx.b_len (da_consR (de_var 0) (da_nilR)))))))) (da_nilR))) rfl nd) (dss_cons (ds_for PassesOwn.never rfl simW0 (iw_seq (de_var 1)) (pg_name (i := 3) nd rfl (by first | exact .inl rfl | exact .inr rfl)) (dss_cons (ds_asg (i := 2) ((de_mod ((de_toInt (by rfl) fx.b_int (da_consR ((de_add ((de_add ((de_mul (de_var 2) (de_int))) (de_var 3))) (de_int))) (da_nilR)))) (de_int))) nd) (dss_nil))) (dss_cons (ds_ret ((de_mkDct' (dpps_cons pe_str ((de_comp (own := [("cell", 3)]) rfl nd (iw_seq (de_var 1)) (fun _ _ _ _ _ => (pg_name (i := 3) nd rfl (by first | exact .inl rfl | exact .inr rfl))) (fun _ _ _ _ _ => dts_one ((dt_ge (de_var 3) ((de_pow (de_int) (de_int)))))) (fun _ _ _ _ _ => de_var 3))) (dpps_cons pe_str (de_var 2) (dpps_cons pe_str (de_int) (dpps_nil))))))) (dss_nil)))
theorem ok__law_draw (fx : Fx K mg) (n : Nat) : FnG P w K mg base (n + 1) (He.ga K "_law_draw") fx.d__law_draw P__law_draw (callF Pf (n + 1) 6) := by
  refine fng_of (d := c__law_draw) fx.f__law_draw sc__law_draw rfl rfl rfl fun cdv A outer s H hr hgd0 => ?_
  have nd := sc__law_draw.nd
  have hgd : (A.deeper (envOfC "_law_draw" (defScope s__law_draw) s.heap.objs.size (He.ga K "_law_draw") cdv)).guards = some [] := hgd0
  have hu : (A.deeper (envOfC "_law_draw" (defScope s__law_draw) s.heap.objs.size (He.ga K "_law_draw") cdv)).units + 66 < cLine := by have := hr.un; omega
  exact dss_cons (ds_asg (i := 2) ((de_idxD hu (de_var 0) (de_str))) nd) (dss_cons (ds_ite ((dt_ne hu (de_var 2) ((de_mkLst (da_nilR))))) (dss_cons (ds_asg (i := 3) ((de_popAt (de_var 2) (da_consR (de_int) (da_nilR)))) nd) (dss_cons (ds_ite ((dt_ge (de_var 3) (de_var 1))) (dss_cons (ds_expr ((de_insert (de_var 2) (da_consR (de_int) (da_consR ((de_fdiv (de_var 3) (de_var 1))) (da_nilR)))))) (dss_nil)) (dss_nil)) (dss_cons (ds_ret ((de_mod ((de_toInt (by rfl) fx.b_int (da_consR (de_var 3) (da_nilR)))) (de_var 1)))) (dss_nil)))) (dss_nil)) (dss_cons (ds_setKey hu (de_var 0) (de_str) ((de_add ((de_idxD hu (de_var 0) (de_str))) (de_int)))) (dss_cons (ds_asg (i := 4) ((de_idxD hu (de_var 0) (de_str))) nd) (dss_cons (ds_asg (i := 5) ((de_mod ((de_toInt (by rfl) fx.b_int (da_consR ((de_add ((de_add ((de_mul ((de_idxD hu (de_var 0) (de_str))) (de_int))) ((de_mul ((de_mul (de_var 4) (de_var 4))) (de_int))))) ((de_mul (de_int) (de_var 4))))) (da_nilR)))) (de_int))) nd) (dss_cons (ds_asg (i := 5) ((de_mod ((de_toInt (by rfl) fx.b_int (da_consR ((de_add ((de_mul (de_var 5) (de_int))) ((de_fdiv (de_var 5) (de_int))))) (da_nilR)))) (de_int))) nd) (dss_cons (ds_setKey hu (de_var 0) (de_str) (de_var 5)) (dss_cons (ds_ret ((de_mod ((de_toInt (by rfl) fx.b_int (da_consR ((de_fdiv (de_var 5) (de_int))) (da_nilR)))) (de_var 1)))) (dss_nil))))))))
theorem ok__law_is_prime (fx : Fx K mg) (n : Nat) : FnG P w K mg base (n + 1) (He.ga K "_law_is_prime") fx.d__law_is_prime P__law_is_prime (callF Pf (n + 1) 8) := by
  refine fng_of (d := c__law_is_prime) fx.f__law_is_prime sc__law_is_prime rfl rfl rfl fun cdv A outer s H hr hgd0 => ?_
  have nd := sc__law_is_prime.nd
  have hgd : (A.deeper (envOfC "_law_is_prime" (defScope s__law_is_prime) s.heap.objs.size (He.ga K "_law_is_prime") cdv)).guards = some [] := hgd0
  have hu : (A.deeper (envOfC "_law_is_prime" (defScope s__law_is_prime) s.heap.objs.size (He.ga K "_law_is_prime") cdv)).units + 66 < cLine := by have := hr.un; omega
  exact dss_cons (ds_ite ((dt_lt (de_var 0) (de_int))) (dss_cons (ds_ret ((de_gt (de_var 0) (de_int)))) (dss_nil)) (dss_nil)) (dss_cons (ds_asg (i := 1) (de_int) nd) (dss_cons (ds_wh PassesOwn.never ((dt_bool (dw_and ((dt_le ((de_mul (de_var 1) (de_var 1))) (de_var 0))) (dw_1 ((dt_gt ((de_mod ((de_toInt (by rfl) fx.b_int (da_consR (de_var 0) (da_nilR)))) (de_var 1))) (de_int))))))) (dss_cons (ds_asg (i := 1) ((de_add (de_var 1) (de_int))) nd) (dss_nil))) (dss_cons (ds_ret ((de_gt ((de_mul (de_var 1) (de_var 1))) (de_var 0)))) (dss_nil))))
theorem ok_sign_at (fx : Fx K mg) (n : Nat) : FnG P w K mg base (n + 2) (He.ga K "sign_at") fx.d_sign_at P_sign_at (callF Pf (n + 2) 1) := by
  refine fng_of (d := c_sign_at) fx.f_sign_at sc_sign_at rfl rfl rfl fun cdv A outer s H hr hgd0 => ?_
  have nd := sc_sign_at.nd
  have hgd : (A.deeper (envOfC "sign_at" (defScope s_sign_at) s.heap.objs.size (He.ga K "sign_at") cdv)).guards = some [] := hgd0
  have hu : (A.deeper (envOfC "sign_at" (defScope s_sign_at) s.heap.objs.size (He.ga K "sign_at") cdv)).units + 66 < cLine := by have := hr.un; omega
  have G_signs_row := ok_signs_row (P := P) (w := w) (base := base) fx (n + 0)
  exact dss_cons (ds_ret ((de_idx ((de_call hW (G_signs_row) hr hgd (by rfl) fx.g_signs_row fx.f_signs_row.kp (bp_signs_row fx) (da_consR (de_var 0) (da_nilR)))) ((de_mod (de_var 1) (de_var 0)))))) (dss_nil)
theorem ok_shifted_sum (fx : Fx K mg) (n : Nat) : FnG P w K mg base (n + 2) (He.ga K "shifted_sum") fx.d_shifted_sum P_shifted_sum (callF Pf (n + 2) 2) := by
  refine fng_of (d := c_shifted_sum) fx.f_shifted_sum sc_shifted_sum rfl rfl rfl fun cdv A outer s H hr hgd0 => ?_
  have nd := sc_shifted_sum.nd
  have hgd : (A.deeper (envOfC "shifted_sum" (defScope s_shifted_sum) s.heap.objs.size (He.ga K "shifted_sum") cdv)).guards = some [] := hgd0
  have hu : (A.deeper (envOfC "shifted_sum" (defScope s_shifted_sum) s.heap.objs.size (He.ga K "shifted_sum") cdv)).units + 66 < cLine := by have := hr.un; omega
  have G_signs_row := ok_signs_row (P := P) (w := w) (base := base) fx (n + 0)
  exact dss_cons (ds_asg (i := 2) ((de_call hW (G_signs_row) hr hgd (by rfl) fx.g_signs_row fx.f_signs_row.kp (bp_signs_row fx) (da_consR (de_var 0) (da_nilR)))) nd) (dss_cons (ds_ret ((de_sum rfl (by rfl) fx.b_sum (da_consR ((de_comp (own := [("x", 3), ("sign", 4)]) rfl nd (iw_enum (by rfl) fx.b_enumerate (da_consR (de_var 2) (da_nilR))) (fun _ _ _ _ _ => (pg_tup rfl (pgs_consN (pgs_consN pgs_nilN nd) nd))) (fun _ _ _ _ _ => dts_nil) (fun _ _ _ _ _ => (de_mul (de_var 4) ((de_idx (de_var 2) ((de_mod ((de_add (de_var 3) (de_var 1))) (de_var 0))))))))) (da_nilR))))) (dss_nil))
theorem ok_square_neighbours (fx : Fx K mg) (n : Nat) : FnG P w K mg base (n + 2) (He.ga K "square_neighbours") fx.d_square_neighbours P_square_neighbours (callF Pf (n + 2) 3) := by
  refine fng_of (d := c_square_neighbours) fx.f_square_neighbours sc_square_neighbours rfl rfl rfl fun cdv A outer s H hr hgd0 => ?_
  have nd := sc_square_neighbours.nd
  have hgd : (A.deeper (envOfC "square_neighbours" (defScope s_square_neighbours) s.heap.objs.size (He.ga K "square_neighbours") cdv)).guards = some [] := hgd0
  have hu : (A.deeper (envOfC "square_neighbours" (defScope s_square_neighbours) s.heap.objs.size (He.ga K "square_neighbours") cdv)).units + 66 < cLine := by have := hr.un; omega
  have G_signs_row := ok_signs_row (P := P) (w := w) (base := base) fx (n + 0)
  exact dss_cons (ds_asg (i := 1) ((de_call hW (G_signs_row) hr hgd (by rfl) fx.g_signs_row fx.f_signs_row.kp (bp_signs_row fx) (da_consR (de_var 0) (da_nilR)))) nd) (dss_cons (ds_ret ((de_len (by rfl) fx.b_len (da_consR ((de_comp (own := [("x", 2)]) rfl nd (iw_rng2 (by rfl) fx.b_range (da_consR (de_int) (da_consR ((de_sub (de_var 0) (de_int))) (da_nilR)))) (fun _ _ _ _ _ => (pg_name (i := 2) nd rfl (by first | exact .inl rfl | exact .inr rfl))) (fun _ _ _ _ _ => dts_one ((dt_bool (dw_and ((dt_eq hu ((de_idx (de_var 1) (de_var 2))) (de_int))) (dw_1 ((dt_eq hu ((de_idx (de_var 1) ((de_add (de_var 2) (de_int))))) (de_int)))))))) (fun _ _ _ _ _ => de_var 2))) (da_nilR))))) (dss_nil))
theorem ok__law_pick (fx : Fx K mg) (n : Nat) : FnG P w K mg base (n + 2) (He.ga K "_law_pick") fx.d__law_pick P__law_pick (callF Pf (n + 2) 7) := by
  refine fng_of (d := c__law_pick) fx.f__law_pick sc__law_pick rfl rfl rfl fun cdv A outer s H hr hgd0 => ?_
  have nd := sc__law_pick.nd
  have hgd : (A.deeper (envOfC "_law_pick" (defScope s__law_pick) s.heap.objs.size (He.ga K "_law_pick") cdv)).guards = some [] := hgd0
  have hu : (A.deeper (envOfC "_law_pick" (defScope s__law_pick) s.heap.objs.size (He.ga K "_law_pick") cdv)).units + 66 < cLine := by have := hr.un; omega
  have G__law_draw := ok__law_draw (P := P) (w := w) (base := base) fx (n + 0)
  exact dss_cons (ds_ret ((de_idx (de_var 1) ((de_call hW (G__law_draw) hr hgd (by rfl) fx.g__law_draw fx.f__law_draw.kp (bp__law_draw fx) (da_consR (de_var 0) (da_consR ((de_len (by rfl) fx.b_len (da_consR (de_var 1) (da_nilR)))) (da_nilR)))))))) (dss_nil)
theorem ok__law_prime (fx : Fx K mg) (n : Nat) : FnG P w K mg base (n + 2) (He.ga K "_law_prime") fx.d__law_prime P__law_prime (callF Pf (n + 2) 9) := by
  refine fng_of (d := c__law_prime) fx.f__law_prime sc__law_prime rfl rfl rfl fun cdv A outer s H hr hgd0 => ?_
  have nd := sc__law_prime.nd
  have hgd : (A.deeper (envOfC "_law_prime" (defScope s__law_prime) s.heap.objs.size (He.ga K "_law_prime") cdv)).guards = some [] := hgd0
  have hu : (A.deeper (envOfC "_law_prime" (defScope s__law_prime) s.heap.objs.size (He.ga K "_law_prime") cdv)).units + 66 < cLine := by have := hr.un; omega
  have G__law_draw := ok__law_draw (P := P) (w := w) (base := base) fx (n + 0)
  have G__law_is_prime := ok__law_is_prime (P := P) (w := w) (base := base) fx (n + 0)
  exact dss_cons (ds_asg (i := 2) ((de_add (de_int) ((de_mul (de_int) ((de_call hW (G__law_draw) hr hgd (by rfl) fx.g__law_draw fx.f__law_draw.kp (bp__law_draw fx) (da_consR (de_var 0) (da_consR ((de_fdiv ((de_sub (de_var 1) (de_int))) (de_int))) (da_nilR))))))))) nd) (dss_cons (ds_wh PassesOwn.never ((dt_not ((dt_val ((de_call hW (G__law_is_prime) hr hgd (by rfl) fx.g__law_is_prime fx.f__law_is_prime.kp (bp__law_is_prime fx) (da_consR (de_var 2) (da_nilR)))))))) (dss_cons (ds_asg (i := 2) ((de_iff ((dt_gt (de_var 2) (de_int))) ((de_sub (de_var 2) (de_int))) (de_int))) nd) (dss_nil))) (dss_cons (ds_ret (de_var 2)) (dss_nil)))
theorem ok_law (fx : Fx K mg) (n : Nat) : FnG P w K mg base (n + 3) (He.ga K "law") fx.d_law P_law (callF Pf (n + 3) 10) := by
  refine fng_of (d := c_law) fx.f_law sc_law rfl rfl rfl fun cdv A outer s H hr hgd0 => ?_
  have nd := sc_law.nd
  have hgd : (A.deeper (envOfC "law" (defScope s_law) s.heap.objs.size (He.ga K "law") cdv)).guards = some [] := hgd0
  have hu : (A.deeper (envOfC "law" (defScope s_law) s.heap.objs.size (He.ga K "law") cdv)).units + 66 < cLine := by have := hr.un; omega
  have G__law_draw := ok__law_draw (P := P) (w := w) (base := base) fx (n + 1)
  have G__law_pick := ok__law_pick (P := P) (w := w) (base := base) fx (n + 0)
  have G__law_pot := ok__law_pot (P := P) (w := w) (base := base) fx (n + 1)
  have G__law_prime := ok__law_prime (P := P) (w := w) (base := base) fx (n + 0)
  have G_parts_sum := ok_parts_sum (P := P) (w := w) (base := base) fx (n + 1)
  have G_shifted_sum := ok_shifted_sum (P := P) (w := w) (base := base) fx (n + 0)
  have G_sign_at := ok_sign_at (P := P) (w := w) (base := base) fx (n + 0)
  have G_square_neighbours := ok_square_neighbours (P := P) (w := w) (base := base) fx (n + 0)
  exact dss_cons (ds_asg (i := 1) ((de_call hW (G__law_pot) hr hgd (by rfl) fx.g__law_pot fx.f__law_pot.kp (bp__law_pot fx) (da_consR (de_var 0) (da_nilR)))) nd) (dss_cons (ds_for PassesOwn.never rfl simW0 (iw_rng1 (by rfl) fx.b_range (da_consR (de_int) (da_nilR))) (pg_name (i := 2) nd rfl (by first | exact .inl rfl | exact .inr rfl)) (dss_cons (ds_asg (i := 3) ((de_call hW (G__law_prime) hr hgd (by rfl) fx.g__law_prime fx.f__law_prime.kp (bp__law_prime fx) (da_consR (de_var 1) (da_consR ((de_call hW (G__law_pick) hr hgd (by rfl) fx.g__law_pick fx.f__law_pick.kp (bp__law_pick fx) (da_consR (de_var 1) (da_consR ((de_mkLst (da_consR (de_int) (da_consR (de_int) (da_consR (de_int) (da_nilR)))))) (da_nilR))))) (da_nilR))))) nd) (dss_cons (ds_asg (i := 3) ((de_iff ((dt_eq hu ((de_call hW (G__law_draw) hr hgd (by rfl) fx.g__law_draw fx.f__law_draw.kp (bp__law_draw fx) (da_consR (de_var 1) (da_consR (de_int) (da_nilR))))) (de_int))) (de_int) (de_var 3))) nd) (dss_cons (ds_asg (i := 4) ((de_dictL rfl (by rfl) fx.b_dict (da_consR ((de_comp (own := [("x", 13)]) rfl nd (iw_rng2 (by rfl) fx.b_range (da_consR (de_int) (da_consR ((de_fdiv ((de_add (de_var 3) (de_int))) (de_int))) (da_nilR)))) (fun _ _ _ _ _ => (pg_name (i := 13) nd rfl (by first | exact .inl rfl | exact .inr rfl))) (fun _ _ _ _ _ => dts_nil) (fun _ _ _ _ _ => (de_mkTup (da_consR ((de_mod ((de_mul (de_var 13) (de_var 13))) (de_var 3))) (da_consR (de_int) (da_nilR))))))) (da_nilR)))) nd) (dss_cons (ds_asg (i := 5) ((de_add ((de_mkLst (da_consR (de_int) (da_nilR)))) ((de_comp (own := [("x", 13)]) rfl nd (iw_rng2 (by rfl) fx.b_range (da_consR (de_int) (da_consR (de_var 3) (da_nilR)))) (fun _ _ _ _ _ => (pg_name (i := 13) nd rfl (by first | exact .inl rfl | exact .inr rfl))) (fun _ _ _ _ _ => dts_nil) (fun _ _ _ _ _ => (de_get2 hu (de_var 4) (de_var 13) ((de_neg (de_int))))))))) nd) (dss_cons (ds_for PassesOwn.never rfl simW0 (iw_rng1 (by rfl) fx.b_range (da_consR (de_int) (da_nilR))) (pg_name (i := 6) nd rfl (by first | exact .inl rfl | exact .inr rfl)) (dss_cons (ds_asg (i := 7) ((de_mkLst (da_consR (de_int) (da_consR (de_int) (da_consR ((de_neg (de_int))) (da_consR (de_var 3) (da_consR ((de_neg (de_var 3))) (da_consR (de_int) (da_consR ((de_call hW (G__law_draw) hr hgd (by rfl) fx.g__law_draw fx.f__law_draw.kp (bp__law_draw fx) (da_consR (de_var 1) (da_consR (de_var 3) (da_nilR))))) (da_consR ((de_call hW (G__law_draw) hr hgd (by rfl) fx.g__law_draw fx.f__law_draw.kp (bp__law_draw fx) (da_consR (de_var 1) (da_consR ((de_pow (de_int) (de_int))) (da_nilR))))) (da_nilR))))))))))) nd) (dss_cons (ds_asg (i := 8) ((de_call hW (G__law_pick) hr hgd (by rfl) fx.g__law_pick fx.f__law_pick.kp (bp__law_pick fx) (da_consR (de_var 1) (da_consR ((de_add (de_var 7) ((de_mkLst (da_consR ((de_neg ((de_call hW (G__law_draw) hr hgd (by rfl) fx.g__law_draw fx.f__law_draw.kp (bp__law_draw fx) (da_consR (de_var 1) (da_consR ((de_pow (de_int) (de_int))) (da_nilR))))))) (da_nilR)))))) (da_nilR))))) nd) (dss_cons (ds_asg (i := 9) ((de_idx (de_var 5) ((de_mod (de_var 8) (de_var 3))))) nd) (dss_cons (ds_ite ((dt_ne hu ((de_repr hgd hu (by rfl) fx.b_repr (da_consR ((de_mkLst (da_consR ((de_call hW (G_sign_at) hr hgd (by rfl) fx.g_sign_at fx.f_sign_at.kp (bp_sign_at fx) (da_consR (de_var 3) (da_consR (de_var 8) (da_nilR))))) (da_consR ((de_callK hW (G_sign_at) hr hgd (by rfl) fx.g_sign_at fx.f_sign_at.kp (bk_sign_at_n_p fx) (dk_cons (de_var 8) (dk_cons (de_var 3) (dk_nil))))) (da_nilR))))) (da_nilR)))) ((de_repr hgd hu (by rfl) fx.b_repr (da_consR ((de_mkLst (da_consR (de_var 9) (da_consR (de_var 9) (da_nilR))))) (da_nilR)))))) (dss_cons (ds_ret (de_bl)) (dss_nil)) (dss_nil)) (dss_cons (ds_asg (i := 9) ((de_iff ((dt_eq hu ((de_mod (de_var 8) (de_var 3))) (de_int))) ((de_sub (de_var 3) (de_int))) ((de_neg (de_int))))) nd) (dss_cons (ds_ite ((dt_ne hu ((de_sum rfl (by rfl) fx.b_sum (da_consR ((de_comp (own := [("x", 13)]) rfl nd (iw_rng1 (by rfl) fx.b_range (da_consR (de_var 3) (da_nilR))) (fun _ _ _ _ _ => (pg_name (i := 13) nd rfl (by first | exact .inl rfl | exact .inr rfl))) (fun _ _ _ _ _ => dts_nil) (fun _ _ _ _ _ => (de_mul ((de_idx (de_var 5) (de_var 13))) ((de_idx (de_var 5) ((de_mod ((de_add (de_var 13) (de_var 8))) (de_var 3))))))))) (da_nilR)))) (de_var 9))) (dss_cons (ds_ret (de_bl)) (dss_nil)) (dss_nil)) (dss_cons (ds_ite ((dt_ne hu ((de_repr hgd hu (by rfl) fx.b_repr (da_consR ((de_mkLst (da_consR ((de_call hW (G_shifted_sum) hr hgd (by rfl) fx.g_shifted_sum fx.f_shifted_sum.kp (bp_shifted_sum fx) (da_consR (de_var 3) (da_consR (de_var 8) (da_nilR))))) (da_consR ((de_callK hW (G_shifted_sum) hr hgd (by rfl) fx.g_shifted_sum fx.f_shifted_sum.kp (bk_shifted_sum_n_p fx) (dk_cons (de_var 8) (dk_cons (de_var 3) (dk_nil))))) (da_nilR))))) (da_nilR)))) ((de_repr hgd hu (by rfl) fx.b_repr (da_consR ((de_mkLst (da_consR (de_var 9) (da_consR (de_var 9) (da_nilR))))) (da_nilR)))))) (dss_cons (ds_ret (de_bl)) (dss_nil)) (dss_nil)) (dss_nil))))))))) (dss_cons (ds_asg (i := 10) ((de_len (by rfl) fx.b_len (da_consR ((de_comp (own := [("x", 13)]) rfl nd (iw_rng2 (by rfl) fx.b_range (da_consR (de_int) (da_consR ((de_sub (de_var 3) (de_int))) (da_nilR)))) (fun _ _ _ _ _ => (pg_name (i := 13) nd rfl (by first | exact .inl rfl | exact .inr rfl))) (fun _ _ _ _ _ => dts_one ((dt_eq hu ((de_add ((de_idx (de_var 5) (de_var 13))) ((de_idx (de_var 5) ((de_add (de_var 13) (de_int))))))) (de_int)))) (fun _ _ _ _ _ => de_var 13))) (da_nilR)))) nd) (dss_cons (ds_ite ((dt_ne hu ((de_repr hgd hu (by rfl) fx.b_repr (da_consR ((de_mkLst (da_consR ((de_call hW (G_square_neighbours) hr hgd (by rfl) fx.g_square_neighbours fx.f_square_neighbours.kp (bp_square_neighbours fx) (da_consR (de_var 3) (da_nilR)))) (da_consR ((de_callK hW (G_square_neighbours) hr hgd (by rfl) fx.g_square_neighbours fx.f_square_neighbours.kp (bk_square_neighbours_p fx) (dk_cons (de_var 3) (dk_nil)))) (da_nilR))))) (da_nilR)))) ((de_repr hgd hu (by rfl) fx.b_repr (da_consR ((de_mkLst (da_consR (de_var 10) (da_consR (de_var 10) (da_nilR))))) (da_nilR)))))) (dss_cons (ds_ret (de_bl)) (dss_nil)) (dss_nil)) (dss_cons (ds_ite ((dt_ne hu ((de_mul (de_int) (de_var 10))) ((de_sub ((de_sub (de_var 3) (de_int))) ((de_idx (de_var 5) ((de_sub (de_var 3) (de_int))))))))) (dss_cons (ds_ret (de_bl)) (dss_nil)) (dss_nil)) (dss_cons (ds_asg (i := 11) ((de_add (de_int) ((de_call hW (G__law_draw) hr hgd (by rfl) fx.g__law_draw fx.f__law_draw.kp (bp__law_draw fx) (da_consR (de_var 1) (da_consR ((de_call hW (G__law_pick) hr hgd (by rfl) fx.g__law_pick fx.f__law_pick.kp (bp__law_pick fx) (da_consR (de_var 1) (da_consR ((de_mkLst (da_consR (de_int) (da_consR (de_int) (da_consR ((de_pow (de_int) (de_int))) (da_nilR)))))) (da_nilR))))) (da_nilR))))))) nd) (dss_cons (ds_asg (i := 9) ((de_sum rfl (by rfl) fx.b_sum (da_consR ((de_comp (own := [("k", 14)]) rfl nd (iw_rng2 (by rfl) fx.b_range (da_consR (de_int) (da_consR ((de_fdiv ((de_add (de_var 3) (de_int))) (de_int))) (da_nilR)))) (fun _ _ _ _ _ => (pg_name (i := 14) nd rfl (by first | exact .inl rfl | exact .inr rfl))) (fun _ _ _ _ _ => dts_nil) (fun _ _ _ _ _ => (de_fdiv ((de_mul (de_var 14) (de_var 11))) (de_var 3))))) (da_nilR)))) nd) (dss_cons (ds_ite ((dt_ne hu ((de_repr hgd hu (by rfl) fx.b_repr (da_consR ((de_mkLst (da_consR ((de_call hW (G_parts_sum) hr hgd (by rfl) fx.g_parts_sum fx.f_parts_sum.kp (bp_parts_sum fx) (da_consR (de_var 3) (da_consR (de_var 11) (da_nilR))))) (da_consR ((de_callK hW (G_parts_sum) hr hgd (by rfl) fx.g_parts_sum fx.f_parts_sum.kp (bk_parts_sum_m_p fx) (dk_cons (de_var 11) (dk_cons (de_var 3) (dk_nil))))) (da_nilR))))) (da_nilR)))) ((de_repr hgd hu (by rfl) fx.b_repr (da_consR ((de_mkLst (da_consR (de_var 9) (da_consR (de_var 9) (da_nilR))))) (da_nilR)))))) (dss_cons (ds_ret (de_bl)) (dss_nil)) (dss_nil)) (dss_cons (ds_ite ((dt_bool (dw_and ((dt_eq hu ((de_mod (de_var 11) (de_int))) (de_int))) (dw_and ((dt_gt ((de_mod (de_var 11) (de_var 3))) (de_int))) (dw_1 ((dt_ne hu ((de_idx (de_var 5) ((de_mod (de_var 11) (de_var 3))))) ((de_sub (de_int) ((de_mul (de_int) ((de_mod (de_var 9) (de_int)))))))))))))) (dss_cons (ds_ret (de_bl)) (dss_nil)) (dss_nil)) (dss_cons (ds_asg (i := 12) ((de_call hW (G__law_prime) hr hgd (by rfl) fx.g__law_prime fx.f__law_prime.kp (bp__law_prime fx) (da_consR (de_var 1) (da_consR ((de_call hW (G__law_pick) hr hgd (by rfl) fx.g__law_pick fx.f__law_pick.kp (bp__law_pick fx) (da_consR (de_var 1) (da_consR ((de_mkLst (da_consR (de_int) (da_consR (de_int) (da_consR (de_int) (da_nilR)))))) (da_nilR))))) (da_nilR))))) nd) (dss_cons (ds_ite ((dt_bool (dw_and ((dt_ne hu (de_var 12) (de_var 3))) (dw_1 ((dt_ne hu ((de_add ((de_call hW (G_parts_sum) hr hgd (by rfl) fx.g_parts_sum fx.f_parts_sum.kp (bp_parts_sum fx) (da_consR (de_var 3) (da_consR (de_var 12) (da_nilR))))) ((de_call hW (G_parts_sum) hr hgd (by rfl) fx.g_parts_sum fx.f_parts_sum.kp (bp_parts_sum fx) (da_consR (de_var 12) (da_consR (de_var 3) (da_nilR))))))) ((de_mul ((de_fdiv ((de_sub (de_var 3) (de_int))) (de_int))) ((de_fdiv ((de_sub (de_var 12) (de_int))) (de_int))))))))))) (dss_cons (ds_ret (de_bl)) (dss_nil)) (dss_nil)) (dss_nil)))))))))))))))) (dss_cons (ds_ret (de_bl)) (dss_nil)))
def fnD : List He.DefD := [⟨("signs_row", none), "signs_row", "signs_row", defArgs s_signs_row, defBody s_signs_row, defScope s_signs_row, [], []⟩, ⟨("sign_at", none), "sign_at", "sign_at", defArgs s_sign_at, defBody s_sign_at, defScope s_sign_at, [], []⟩, ⟨("shifted_sum", none), "shifted_sum", "shifted_sum", defArgs s_shifted_sum, defBody s_shifted_sum, defScope s_shifted_sum, [], []⟩, ⟨("square_neighbours", none), "square_neighbours", "square_neighbours", defArgs s_square_neighbours, defBody s_square_neighbours, defScope s_square_neighbours, [], []⟩, ⟨("parts_sum", none), "parts_sum", "parts_sum", defArgs s_parts_sum, defBody s_parts_sum, defScope s_parts_sum, [], []⟩, ⟨("_law_pot", none), "_law_pot", "_law_pot", defArgs s__law_pot, defBody s__law_pot, defScope s__law_pot, [], []⟩, ⟨("_law_draw", none), "_law_draw", "_law_draw", defArgs s__law_draw, defBody s__law_draw, defScope s__law_draw, [], []⟩, ⟨("_law_pick", none), "_law_pick", "_law_pick", defArgs s__law_pick, defBody s__law_pick, defScope s__law_pick, [], []⟩, ⟨("_law_is_prime", none), "_law_is_prime", "_law_is_prime", defArgs s__law_is_prime, defBody s__law_is_prime, defScope s__law_is_prime, [], []⟩, ⟨("_law_prime", none), "_law_prime", "_law_prime", defArgs s__law_prime, defBody s__law_prime, defScope s__law_prime, [], []⟩, ⟨("law", none), "law", "law", defArgs s_law, defBody s_law, defScope s_law, [], []⟩]
def fa : List He.Fa := [.glo "signs_row", .glo "sign_at", .glo "shifted_sum", .glo "square_neighbours", .glo "parts_sum", .glo "_law_pot", .glo "_law_draw", .glo "_law_pick", .glo "_law_is_prime", .glo "_law_prime", .glo "law", .free "abs", .free "dict", .free "enumerate", .free "int", .free "len", .free "range", .free "repr", .free "sum"]
def loose : List Str := (["signs_row", "sign_at", "shifted_sum", "square_neighbours", "parts_sum", "_law_pot", "_law_draw", "_law_pick", "_law_is_prime", "_law_prime"] : List Str)
abbrev Rw : PySem.W.OpenRow := PySem.W.OpenLaw.row PySem.Challenge.rw_divisorways_k58_whole_main_signs_shifted
abbrev hkD : PySem.W.Hook := He.hookD 4 fa fnD
def obD (t : PySem.W.SharedT) : He.AlD := He.obsDG 4 fa fnD (HandSHeadRun.getT t)
theorem obD_eq (t : PySem.W.SharedT) : obD t = hkD.obs t.abs := He.obsDG_eq (HandSHeadRun.getT_eq t)
theorem runD (w : World) : HandSHeadRun.RunEq Rw (PySem.W.view Rw.prog [12]) hkD obD 4000 loose w := by
  intro os
  kernel_rfl
theorem factsD {K : Fg} {h : Heap} {mg : Str → Option Value} (X : K.In h) (G : h.Ns mainGlobals mg) (c : He.SaysD fa fnD K) : ∃ fx : Fx K mg, True := by
  obtain ⟨d0, F0⟩ := c.def_ 0 (d := fnD.getD 0 ⟨("", none), "", "", defArgs s_law, [], defScope s_law, [], []⟩) rfl
  obtain ⟨d1, F1⟩ := c.def_ 1 (d := fnD.getD 1 ⟨("", none), "", "", defArgs s_law, [], defScope s_law, [], []⟩) rfl
  obtain ⟨d2, F2⟩ := c.def_ 2 (d := fnD.getD 2 ⟨("", none), "", "", defArgs s_law, [], defScope s_law, [], []⟩) rfl
  obtain ⟨d3, F3⟩ := c.def_ 3 (d := fnD.getD 3 ⟨("", none), "", "", defArgs s_law, [], defScope s_law, [], []⟩) rfl
  obtain ⟨d4, F4⟩ := c.def_ 4 (d := fnD.getD 4 ⟨("", none), "", "", defArgs s_law, [], defScope s_law, [], []⟩) rfl
  obtain ⟨d5, F5⟩ := c.def_ 5 (d := fnD.getD 5 ⟨("", none), "", "", defArgs s_law, [], defScope s_law, [], []⟩) rfl
  obtain ⟨d6, F6⟩ := c.def_ 6 (d := fnD.getD 6 ⟨("", none), "", "", defArgs s_law, [], defScope s_law, [], []⟩) rfl
  obtain ⟨d7, F7⟩ := c.def_ 7 (d := fnD.getD 7 ⟨("", none), "", "", defArgs s_law, [], defScope s_law, [], []⟩) rfl
  obtain ⟨d8, F8⟩ := c.def_ 8 (d := fnD.getD 8 ⟨("", none), "", "", defArgs s_law, [], defScope s_law, [], []⟩) rfl
  obtain ⟨d9, F9⟩ := c.def_ 9 (d := fnD.getD 9 ⟨("", none), "", "", defArgs s_law, [], defScope s_law, [], []⟩) rfl
  obtain ⟨d10, F10⟩ := c.def_ 10 (d := fnD.getD 10 ⟨("", none), "", "", defArgs s_law, [], defScope s_law, [], []⟩) rfl
  exact ⟨{ d_signs_row := d0, f_signs_row := F0, g_signs_row := He.glo_ok X G (c.fact 0 (f := .glo "signs_row") rfl), d_sign_at := d1, f_sign_at := F1, g_sign_at := He.glo_ok X G (c.fact 1 (f := .glo "sign_at") rfl), d_shifted_sum := d2, f_shifted_sum := F2, g_shifted_sum := He.glo_ok X G (c.fact 2 (f := .glo "shifted_sum") rfl), d_square_neighbours := d3, f_square_neighbours := F3, g_square_neighbours := He.glo_ok X G (c.fact 3 (f := .glo "square_neighbours") rfl), d_parts_sum := d4, f_parts_sum := F4, g_parts_sum := He.glo_ok X G (c.fact 4 (f := .glo "parts_sum") rfl), d__law_pot := d5, f__law_pot := F5, g__law_pot := He.glo_ok X G (c.fact 5 (f := .glo "_law_pot") rfl), d__law_draw := d6, f__law_draw := F6, g__law_draw := He.glo_ok X G (c.fact 6 (f := .glo "_law_draw") rfl), d__law_pick := d7, f__law_pick := F7, g__law_pick := He.glo_ok X G (c.fact 7 (f := .glo "_law_pick") rfl), d__law_is_prime := d8, f__law_is_prime := F8, g__law_is_prime := He.glo_ok X G (c.fact 8 (f := .glo "_law_is_prime") rfl), d__law_prime := d9, f__law_prime := F9, g__law_prime := He.glo_ok X G (c.fact 9 (f := .glo "_law_prime") rfl), d_law := d10, f_law := F10, g_law := He.glo_ok X G (c.fact 10 (f := .glo "law") rfl), b_abs := He.free_ok X G (c.fact 11 (f := .free "abs") rfl), b_dict := He.free_ok X G (c.fact 12 (f := .free "dict") rfl), b_enumerate := He.free_ok X G (c.fact 13 (f := .free "enumerate") rfl), b_int := He.free_ok X G (c.fact 14 (f := .free "int") rfl), b_len := He.free_ok X G (c.fact 15 (f := .free "len") rfl), b_range := He.free_ok X G (c.fact 16 (f := .free "range") rfl), b_repr := He.free_ok X G (c.fact 17 (f := .free "repr") rfl), b_sum := He.free_ok X G (c.fact 18 (f := .free "sum") rfl) }, trivial⟩

end K58
namespace K58
open PySem PySem.Spec PyProof.Rows L2 DV DV.Num
local macro_rules | `(tactic| k_steps) => `(tactic| repeat (first
  | (with_reducible refine e_con ?_)
  | ((with_reducible apply e_var); exact rfl)
  | ((with_reducible apply e_varO); exact rfl)
  | (with_reducible refine e_prim ?_)
  | (with_reducible refine e_nil ?_)
  | (with_reducible refine e_cons ?_)
  | (with_reducible refine e_call ?_)
  | (with_reducible refine e_meth ?_)
  | (with_reducible refine e_iff ?_)
  | (with_reducible refine t_prim ?_)
  | (with_reducible refine t_var ?_)
  | (with_reducible refine t_not ?_)
  | (with_reducible refine tr_bl ?_)
  | (with_reducible refine tr_int ?_)
  | (with_reducible refine p_add ?_)
  | (with_reducible refine p_sub ?_)
  | ((with_reducible apply p_mul); (focus (first | exact rfl | assumption | exact mulOk_r (by decide) | exact mulOk_mod (by decide) (by decide))))
  | ((with_reducible apply p_fdiv); (focus (first | exact rfl | assumption | exact mulOk_r (by decide) | exact mulOk_mod (by decide) (by decide))))
  | ((with_reducible apply p_mod); (focus (first | decide | assumption)))
  | ((with_reducible apply p_pow); (focus (first | exact rfl | assumption | exact mulOk_r (by decide) | exact mulOk_mod (by decide) (by decide))))
  | (with_reducible refine p_neg ?_)
  | (with_reducible refine p_lt ?_)
  | (with_reducible refine p_le ?_)
  | (with_reducible refine p_gt ?_)
  | (with_reducible refine p_ge ?_)
  | (with_reducible refine p_eq ?_)
  | (with_reducible refine p_ne ?_)
  | (with_reducible refine p_int ?_)
  | (with_reducible refine p_intB ?_)
  | (with_reducible refine p_abs ?_)
  | (with_reducible refine p_min2 ?_)
  | (with_reducible refine p_max2 ?_)
  | (with_reducible refine p_mkTup' ?_)
  | (with_reducible refine p_mkLst' ?_)
  | (with_reducible refine q_bnil ?_)
  | (with_reducible refine q_bcons ?_)
  | (with_reducible refine q_boxP ?_)
  | (with_reducible refine q_toP ?_)
  | (with_reducible refine q_toT ?_)
  | (with_reducible refine q_nil ?_)
  | (with_reducible refine q_cons ?_)
  | (with_reducible refine q_pnil ?_)
  | (with_reducible refine q_pcons ?_)
  | (with_reducible refine q_snil ?_)
  | (with_reducible refine q_scons ?_)
  | (with_reducible refine q_one ?_)
  | ((with_reducible apply q_put); exact rfl; (focus (first | assumption | exact fun _ z => nomatch z)); dsimp only [List.set])
  | (with_reducible refine s_asg ?_)
  | (with_reducible refine s_par ?_)
  | (with_reducible refine s_expr ?_)
  | (with_reducible refine s_ret ?_)
  | (with_reducible refine s_retN ?_)
  | (with_reducible refine s_pass ?_)
  | (with_reducible refine s_ite ?_)
  | (with_reducible refine s_setKey ?_)
  | (with_reducible refine s_setIx ?_)
  | (with_reducible refine s_wh ?_)
  | (with_reducible refine s_nil ?_)
  | ((with_reducible apply k_ok); exact rfl)
  | ((with_reducible apply p_idxD); exact rfl; exact rfl; (focus (first | exact Seal.lG | exact Seal.lM | exact Seal.lT | exact Pot.lG | exact Pot.lM | exact Pot.lT | exact Deck.lG | exact Deck.lM | exact Deck.lT)))
  | ((with_reducible apply q_setKey); exact rfl; exact rfl; (focus (show 3 < 16777216; omega)); exact rfl; (focus (first | (rw [Seal.pM]; exact put_ref rfl rfl) | (rw [Seal.pT]; exact put_ref rfl rfl) | (rw [Pot.pM]; exact put_ref rfl rfl) | (rw [Pot.pT]; exact put_ref rfl rfl) | (rw [Deck.pM]; exact put_ref rfl rfl) | (rw [Deck.pT]; exact put_ref rfl rfl) | (rw [Deck.pM]; exact rfl) | (rw [Deck.pT]; exact rfl))))
  | (simp only [List.cons_append, List.nil_append])
  | ((with_reducible apply p_idx); exact rfl; exact rfl)
  | ((with_reducible apply q_toR); exact rfl)
  | ((with_reducible apply q_boxR); exact rfl)
  | (with_reducible refine l_int ?_)
  | (with_reducible refine l_tup ?_)
  | (with_reducible refine l_tmp ?_)
  | (with_reducible refine l_nil ?_)
  | (with_reducible refine p_isN ?_)
  | (with_reducible refine p_notN ?_)
  | (with_reducible refine p_neB ?_)
  | (with_reducible refine p_eqB ?_)
  | (with_reducible refine p_band ?_)
  | (refine And.intro (Nat.le_of_ble_eq_true rfl) ?_)
  | (with_reducible refine q_boxT ?_)
  | (with_reducible refine p_mkDct' ?_)
  | (with_reducible refine e_chkC ?_)
  | ((with_reducible apply e_chkV); exact rfl)
  | dsimp only))
local macro_rules | `(tactic| k_go) => `(tactic| repeat (first
  | (with_reducible refine e_con ?_)
  | ((with_reducible apply e_var); exact rfl)
  | ((with_reducible apply e_varO); exact rfl)
  | (with_reducible refine e_prim ?_)
  | (with_reducible refine e_nil ?_)
  | (with_reducible refine e_cons ?_)
  | (with_reducible refine e_call ?_)
  | (with_reducible refine e_meth ?_)
  | (with_reducible refine e_iff ?_)
  | (with_reducible refine t_prim ?_)
  | (with_reducible refine t_var ?_)
  | (with_reducible refine t_not ?_)
  | (with_reducible refine tr_bl ?_)
  | (with_reducible refine tr_int ?_)
  | (with_reducible refine p_add ?_)
  | (with_reducible refine p_sub ?_)
  | ((with_reducible apply p_mul); (focus (first | exact rfl | assumption | exact mulOk_r (by decide) | exact mulOk_mod (by decide) (by decide))))
  | ((with_reducible apply p_fdiv); (focus (first | exact rfl | assumption | exact mulOk_r (by decide) | exact mulOk_mod (by decide) (by decide))))
  | ((with_reducible apply p_mod); (focus (first | decide | assumption)))
  | ((with_reducible apply p_pow); (focus (first | exact rfl | assumption | exact mulOk_r (by decide) | exact mulOk_mod (by decide) (by decide))))
  | (with_reducible refine p_neg ?_)
  | (with_reducible refine p_lt ?_)
  | (with_reducible refine p_le ?_)
  | (with_reducible refine p_gt ?_)
  | (with_reducible refine p_ge ?_)
  | (with_reducible refine p_eq ?_)
  | (with_reducible refine p_ne ?_)
  | (with_reducible refine p_int ?_)
  | (with_reducible refine p_intB ?_)
  | (with_reducible refine p_abs ?_)
  | (with_reducible refine p_min2 ?_)
  | (with_reducible refine p_max2 ?_)
  | (with_reducible refine p_mkTup' ?_)
  | (with_reducible refine p_mkLst' ?_)
  | (with_reducible refine q_bnil ?_)
  | (with_reducible refine q_bcons ?_)
  | (with_reducible refine q_boxP ?_)
  | (with_reducible refine q_toP ?_)
  | (with_reducible refine q_toT ?_)
  | (with_reducible refine q_nil ?_)
  | (with_reducible refine q_cons ?_)
  | (with_reducible refine q_pnil ?_)
  | (with_reducible refine q_pcons ?_)
  | (with_reducible refine q_snil ?_)
  | (with_reducible refine q_scons ?_)
  | (with_reducible refine q_one ?_)
  | ((with_reducible apply q_put); exact rfl; (focus (first | assumption | exact fun _ z => nomatch z)); dsimp only [List.set])
  | ((with_reducible apply k_ok); exact rfl)
  | ((with_reducible apply p_idxD); exact rfl; exact rfl; (focus (first | exact Seal.lG | exact Seal.lM | exact Seal.lT | exact Pot.lG | exact Pot.lM | exact Pot.lT | exact Deck.lG | exact Deck.lM | exact Deck.lT)))
  | ((with_reducible apply q_setKey); exact rfl; exact rfl; (focus (show 3 < 16777216; omega)); exact rfl; (focus (first | (rw [Seal.pM]; exact put_ref rfl rfl) | (rw [Seal.pT]; exact put_ref rfl rfl) | (rw [Pot.pM]; exact put_ref rfl rfl) | (rw [Pot.pT]; exact put_ref rfl rfl) | (rw [Deck.pM]; exact put_ref rfl rfl) | (rw [Deck.pT]; exact put_ref rfl rfl) | (rw [Deck.pM]; exact rfl) | (rw [Deck.pT]; exact rfl))))
  | (simp only [List.cons_append, List.nil_append])
  | ((with_reducible apply p_idx); exact rfl; exact rfl)
  | ((with_reducible apply q_toR); exact rfl)
  | ((with_reducible apply q_boxR); exact rfl)
  | (with_reducible refine l_int ?_)
  | (with_reducible refine l_tup ?_)
  | (with_reducible refine l_tmp ?_)
  | (with_reducible refine l_nil ?_)
  | (with_reducible refine p_isN ?_)
  | (with_reducible refine p_notN ?_)
  | (with_reducible refine p_neB ?_)
  | (with_reducible refine p_eqB ?_)
  | (with_reducible refine p_band ?_)
  | (refine And.intro (Nat.le_of_ble_eq_true rfl) ?_)
  | (with_reducible refine q_boxT ?_)
  | (with_reducible refine p_mkDct' ?_)
  | (with_reducible refine e_chkC ?_)
  | ((with_reducible apply e_chkV); exact rfl)
  | dsimp only))
def S (f : Nat → Int) : Nat → Int
  | 0 => 0
  | n + 1 => S f n + f n
def N (f : Nat → Nat) : Nat → Nat
  | 0 => 0
  | n + 1 => N f n + f n
def Pr (f : Nat → Int) : Nat → Int
  | 0 => 1
  | n + 1 => Pr f n * f n
theorem S_list (f : Nat → Int) : ∀ n, ((List.range n).map f).sum = S f n
  | 0 => rfl
  | n + 1 => by
    rw [List.range_succ, List.map_append, List.sum_append, S_list f n]
    simp only [List.map_cons, List.map_nil, List.sum_cons, List.sum_nil, Int.add_zero]
    rfl
theorem S_congr {f g : Nat → Int} : ∀ n, (∀ i, i < n → f i = g i) → S f n = S g n
  | 0, _ => rfl
  | n + 1, h => by
    show S f n + f n = S g n + g n
    rw [S_congr n fun i hi => h i (by omega), h n (by omega)]
theorem S_mul (c : Int) (f : Nat → Int) : ∀ n, S (fun i => c * f i) n = c * S f n
  | 0 => by simp [S]
  | n + 1 => by
    show S (fun i => c * f i) n + c * f n = c * (S f n + f n)
    rw [S_mul c f n, Int.mul_add]
theorem N_congr {f g : Nat → Nat} : ∀ n, (∀ i, i < n → f i = g i) → N f n = N g n
  | 0, _ => rfl
  | n + 1, h => by
    show N f n + f n = N g n + g n
    rw [N_congr n fun i hi => h i (by omega), h n (by omega)]
theorem N_add (f g : Nat → Nat) : ∀ n, N (fun i => f i + g i) n = N f n + N g n
  | 0 => rfl
  | n + 1 => by
    show N (fun i => f i + g i) n + (f n + g n) = (N f n + f n) + (N g n + g n)
    rw [N_add f g n]; omega
theorem N_zero : ∀ n, N (fun _ => 0) n = 0
  | 0 => rfl
  | n + 1 => N_zero n
theorem N_swap (f : Nat → Nat → Nat) (m : Nat) : ∀ n, N (fun i => N (fun j => f i j) m) n = N (fun j => N (fun i => f i j) n) m
  | 0 => (N_zero m).symm
  | n + 1 => by
    show N (fun i => N (fun j => f i j) m) n + N (fun j => f n j) m = N (fun j => N (fun i => f i j) n + f n j) m
    rw [N_swap f m n, N_add]
theorem N_const (c : Nat) : ∀ n, N (fun _ => c) n = n * c
  | 0 => by simp [N]
  | n + 1 => by
    show N (fun _ => c) n + c = (n + 1) * c
    rw [N_const c n, Nat.add_mul, Nat.one_mul]
theorem N_count (v : Nat) : ∀ n, N (fun j => if j + 1 ≤ v then 1 else 0) n = min n v
  | 0 => by simp [N]
  | n + 1 => by
    show N (fun j => if j + 1 ≤ v then 1 else 0) n + (if n + 1 ≤ v then 1 else 0) = min (n + 1) v
    rw [N_count v n]
    split <;> omega
theorem Pr_congr {f g : Nat → Int} : ∀ n, (∀ i, i < n → f i = g i) → Pr f n = Pr g n
  | 0, _ => rfl
  | n + 1, h => by
    show Pr f n * f n = Pr g n * g n
    rw [Pr_congr n fun i hi => h i (by omega), h n (by omega)]
theorem Pr_mul (f g : Nat → Int) : ∀ n, Pr (fun i => f i * g i) n = Pr f n * Pr g n
  | 0 => rfl
  | n + 1 => by
    show Pr (fun i => f i * g i) n * (f n * g n) = Pr f n * f n * (Pr g n * g n)
    rw [Pr_mul f g n]
    simp only [Int.mul_assoc, Int.mul_left_comm]
theorem Pr_const (c : Int) : ∀ n, Pr (fun _ => c) n = c ^ n
  | 0 => by simp [Pr]
  | n + 1 => by
    show Pr (fun _ => c) n * c = c ^ (n + 1)
    rw [Pr_const c n, Int.pow_succ]
theorem Pr_mod {p : Int} {f g : Nat → Int} : ∀ n, (∀ i, i < n → p ∣ f i - g i) → p ∣ Pr f n - Pr g n
  | 0, _ => ⟨0, by simp [Pr]⟩
  | n + 1, h => by
    obtain ⟨a, ha⟩ := Pr_mod n fun i hi => h i (by omega)
    obtain ⟨b, hb⟩ := h n (by omega)
    refine ⟨a * f n + Pr g n * b, ?_⟩
    show Pr f n * f n - Pr g n * g n = _
    have e1 : Pr f n = Pr g n + p * a := by omega
    have e2 : g n = f n - p * b := by omega
    rw [e1, e2]; grind
theorem pigeon : ∀ (n : Nat) (l : List Nat), l.Nodup → (∀ x ∈ l, x < n) → l.length ≤ n
  | 0, l, _, h => by
    cases l with
    | nil => exact Nat.le_refl _
    | cons a r => exact absurd (h a List.mem_cons_self) (by omega)
  | n + 1, l, d, h => by
    by_cases m : n ∈ l
    · have h1 := pigeon n (l.erase n) (d.erase n) fun x hx => by
        have h2 := h x (List.mem_of_mem_erase hx)
        have h3 : x ≠ n := fun e => by
          rw [e] at hx
          exact (List.Nodup.not_mem_erase d) hx
        omega
      rw [List.length_erase_of_mem m] at h1
      omega
    · have := pigeon n l d fun x hx => by
        have h2 := h x hx
        have h3 : x ≠ n := fun e => m (e ▸ hx)
        omega
      omega
theorem perm_range {n : Nat} {l : List Nat} (d : l.Nodup) (h : ∀ x ∈ l, x < n) (hl : l.length = n) : l.Perm (List.range n) := by
  refine (List.perm_ext_iff_of_nodup d List.nodup_range).mpr fun y => ⟨fun hy => List.mem_range.mpr (h y hy), fun hy => ?_⟩
  have hy := List.mem_range.mp hy
  by_cases m : y ∈ l
  · exact m
  · exfalso
    have := pigeon n (y :: l) (List.nodup_cons.mpr ⟨m, d⟩) fun x hx => by
      rcases List.mem_cons.mp hx with rfl | hx
      · exact hy
      · exact h x hx
    rw [List.length_cons] at this
    omega
def prd : List Int → Int
  | [] => 1
  | x :: r => x * prd r
theorem prd_perm {l l' : List Int} (h : l.Perm l') : prd l = prd l' := by
  induction h with
  | nil => rfl
  | cons x _ ih => show x * _ = x * _; rw [ih]
  | swap x y l => show y * (x * prd l) = x * (y * prd l); rw [Int.mul_left_comm]
  | trans _ _ i1 i2 => exact i1.trans i2
theorem prd_app : ∀ l l' : List Int, prd (l ++ l') = prd l * prd l'
  | [], l' => by simp [prd]
  | x :: l, l' => by
    show x * prd (l ++ l') = x * prd l * prd l'
    rw [prd_app l l', Int.mul_assoc]
theorem Pr_list (f : Nat → Int) : ∀ n, prd ((List.range n).map f) = Pr f n
  | 0 => rfl
  | n + 1 => by
    rw [List.range_succ, List.map_append, prd_app, Pr_list f n]
    simp only [List.map_cons, List.map_nil, prd, Int.mul_one]
    rfl
theorem sum_perm {l l' : List Int} (h : l.Perm l') : l.sum = l'.sum := by
  induction h with
  | nil => rfl
  | cons x _ ih => rw [List.sum_cons, List.sum_cons, ih]
  | swap x y l => simp only [List.sum_cons]; omega
  | trans _ _ i1 i2 => exact i1.trans i2
structure Inj (n : Nat) (u : Nat → Nat) : Prop where
  lt : ∀ i, i < n → u i < n
  inj : ∀ i j, i < n → j < n → u i = u j → i = j
theorem Inj.nodup {n : Nat} {u : Nat → Nat} (h : Inj n u) : ((List.range n).map u).Nodup := by
  refine List.pairwise_map.mpr ?_
  have key : ∀ l : List Nat, l.Nodup → (∀ x ∈ l, x < n) → l.Pairwise fun a b => u a ≠ u b := by
    intro l
    induction l with
    | nil => intro _ _; exact List.Pairwise.nil
    | cons a r ih =>
      intro d hl
      obtain ⟨d1, d2⟩ := List.nodup_cons.mp d
      refine List.Pairwise.cons (fun b hb e => ?_) (ih d2 fun x hx => hl x (List.mem_cons_of_mem _ hx))
      have := h.inj a b (hl a List.mem_cons_self) (hl b (List.mem_cons_of_mem _ hb)) e
      exact d1 (this ▸ hb)
  exact key _ List.nodup_range fun x hx => List.mem_range.mp hx
theorem Inj.perm {n : Nat} {u : Nat → Nat} (h : Inj n u) : ((List.range n).map u).Perm (List.range n) :=
  perm_range h.nodup (fun x hx => by
    obtain ⟨i, hi, rfl⟩ := List.mem_map.mp hx
    exact h.lt i (List.mem_range.mp hi)) (by rw [List.length_map, List.length_range])
theorem Inj.sum {n : Nat} {u : Nat → Nat} (h : Inj n u) (f : Nat → Int) : S (fun i => f (u i)) n = S f n := by
  rw [← S_list, ← S_list]
  have := sum_perm (h.perm.map f)
  rw [List.map_map] at this
  exact this
theorem Inj.prod {n : Nat} {u : Nat → Nat} (h : Inj n u) (f : Nat → Int) : Pr (fun i => f (u i)) n = Pr f n := by
  rw [← Pr_list, ← Pr_list]
  have := prd_perm (h.perm.map f)
  rw [List.map_map] at this
  exact this
end K58
namespace K58
open PySem PySem.Spec PyProof.Rows L2 DV DV.Num
local macro_rules | `(tactic| k_steps) => `(tactic| repeat (first
  | (with_reducible refine e_con ?_)
  | ((with_reducible apply e_var); exact rfl)
  | ((with_reducible apply e_varO); exact rfl)
  | (with_reducible refine e_prim ?_)
  | (with_reducible refine e_nil ?_)
  | (with_reducible refine e_cons ?_)
  | (with_reducible refine e_call ?_)
  | (with_reducible refine e_meth ?_)
  | (with_reducible refine e_iff ?_)
  | (with_reducible refine t_prim ?_)
  | (with_reducible refine t_var ?_)
  | (with_reducible refine t_not ?_)
  | (with_reducible refine tr_bl ?_)
  | (with_reducible refine tr_int ?_)
  | (with_reducible refine p_add ?_)
  | (with_reducible refine p_sub ?_)
  | ((with_reducible apply p_mul); (focus (first | exact rfl | assumption | exact mulOk_r (by decide) | exact mulOk_mod (by decide) (by decide))))
  | ((with_reducible apply p_fdiv); (focus (first | exact rfl | assumption | exact mulOk_r (by decide) | exact mulOk_mod (by decide) (by decide))))
  | ((with_reducible apply p_mod); (focus (first | decide | assumption)))
  | ((with_reducible apply p_pow); (focus (first | exact rfl | assumption | exact mulOk_r (by decide) | exact mulOk_mod (by decide) (by decide))))
  | (with_reducible refine p_neg ?_)
  | (with_reducible refine p_lt ?_)
  | (with_reducible refine p_le ?_)
  | (with_reducible refine p_gt ?_)
  | (with_reducible refine p_ge ?_)
  | (with_reducible refine p_eq ?_)
  | (with_reducible refine p_ne ?_)
  | (with_reducible refine p_int ?_)
  | (with_reducible refine p_intB ?_)
  | (with_reducible refine p_abs ?_)
  | (with_reducible refine p_min2 ?_)
  | (with_reducible refine p_max2 ?_)
  | (with_reducible refine p_mkTup' ?_)
  | (with_reducible refine p_mkLst' ?_)
  | (with_reducible refine q_bnil ?_)
  | (with_reducible refine q_bcons ?_)
  | (with_reducible refine q_boxP ?_)
  | (with_reducible refine q_toP ?_)
  | (with_reducible refine q_toT ?_)
  | (with_reducible refine q_nil ?_)
  | (with_reducible refine q_cons ?_)
  | (with_reducible refine q_pnil ?_)
  | (with_reducible refine q_pcons ?_)
  | (with_reducible refine q_snil ?_)
  | (with_reducible refine q_scons ?_)
  | (with_reducible refine q_one ?_)
  | ((with_reducible apply q_put); exact rfl; (focus (first | assumption | exact fun _ z => nomatch z)); dsimp only [List.set])
  | (with_reducible refine s_asg ?_)
  | (with_reducible refine s_par ?_)
  | (with_reducible refine s_expr ?_)
  | (with_reducible refine s_ret ?_)
  | (with_reducible refine s_retN ?_)
  | (with_reducible refine s_pass ?_)
  | (with_reducible refine s_ite ?_)
  | (with_reducible refine s_setKey ?_)
  | (with_reducible refine s_setIx ?_)
  | (with_reducible refine s_wh ?_)
  | (with_reducible refine s_nil ?_)
  | ((with_reducible apply k_ok); exact rfl)
  | ((with_reducible apply p_idxD); exact rfl; exact rfl; (focus (first | exact Seal.lG | exact Seal.lM | exact Seal.lT | exact Pot.lG | exact Pot.lM | exact Pot.lT | exact Deck.lG | exact Deck.lM | exact Deck.lT)))
  | ((with_reducible apply q_setKey); exact rfl; exact rfl; (focus (show 3 < 16777216; omega)); exact rfl; (focus (first | (rw [Seal.pM]; exact put_ref rfl rfl) | (rw [Seal.pT]; exact put_ref rfl rfl) | (rw [Pot.pM]; exact put_ref rfl rfl) | (rw [Pot.pT]; exact put_ref rfl rfl) | (rw [Deck.pM]; exact put_ref rfl rfl) | (rw [Deck.pT]; exact put_ref rfl rfl) | (rw [Deck.pM]; exact rfl) | (rw [Deck.pT]; exact rfl))))
  | (simp only [List.cons_append, List.nil_append])
  | ((with_reducible apply p_idx); exact rfl; exact rfl)
  | ((with_reducible apply q_toR); exact rfl)
  | ((with_reducible apply q_boxR); exact rfl)
  | (with_reducible refine l_int ?_)
  | (with_reducible refine l_tup ?_)
  | (with_reducible refine l_tmp ?_)
  | (with_reducible refine l_nil ?_)
  | (with_reducible refine p_isN ?_)
  | (with_reducible refine p_notN ?_)
  | (with_reducible refine p_neB ?_)
  | (with_reducible refine p_eqB ?_)
  | (with_reducible refine p_band ?_)
  | (refine And.intro (Nat.le_of_ble_eq_true rfl) ?_)
  | (with_reducible refine q_boxT ?_)
  | (with_reducible refine p_mkDct' ?_)
  | (with_reducible refine e_chkC ?_)
  | ((with_reducible apply e_chkV); exact rfl)
  | dsimp only))
local macro_rules | `(tactic| k_go) => `(tactic| repeat (first
  | (with_reducible refine e_con ?_)
  | ((with_reducible apply e_var); exact rfl)
  | ((with_reducible apply e_varO); exact rfl)
  | (with_reducible refine e_prim ?_)
  | (with_reducible refine e_nil ?_)
  | (with_reducible refine e_cons ?_)
  | (with_reducible refine e_call ?_)
  | (with_reducible refine e_meth ?_)
  | (with_reducible refine e_iff ?_)
  | (with_reducible refine t_prim ?_)
  | (with_reducible refine t_var ?_)
  | (with_reducible refine t_not ?_)
  | (with_reducible refine tr_bl ?_)
  | (with_reducible refine tr_int ?_)
  | (with_reducible refine p_add ?_)
  | (with_reducible refine p_sub ?_)
  | ((with_reducible apply p_mul); (focus (first | exact rfl | assumption | exact mulOk_r (by decide) | exact mulOk_mod (by decide) (by decide))))
  | ((with_reducible apply p_fdiv); (focus (first | exact rfl | assumption | exact mulOk_r (by decide) | exact mulOk_mod (by decide) (by decide))))
  | ((with_reducible apply p_mod); (focus (first | decide | assumption)))
  | ((with_reducible apply p_pow); (focus (first | exact rfl | assumption | exact mulOk_r (by decide) | exact mulOk_mod (by decide) (by decide))))
  | (with_reducible refine p_neg ?_)
  | (with_reducible refine p_lt ?_)
  | (with_reducible refine p_le ?_)
  | (with_reducible refine p_gt ?_)
  | (with_reducible refine p_ge ?_)
  | (with_reducible refine p_eq ?_)
  | (with_reducible refine p_ne ?_)
  | (with_reducible refine p_int ?_)
  | (with_reducible refine p_intB ?_)
  | (with_reducible refine p_abs ?_)
  | (with_reducible refine p_min2 ?_)
  | (with_reducible refine p_max2 ?_)
  | (with_reducible refine p_mkTup' ?_)
  | (with_reducible refine p_mkLst' ?_)
  | (with_reducible refine q_bnil ?_)
  | (with_reducible refine q_bcons ?_)
  | (with_reducible refine q_boxP ?_)
  | (with_reducible refine q_toP ?_)
  | (with_reducible refine q_toT ?_)
  | (with_reducible refine q_nil ?_)
  | (with_reducible refine q_cons ?_)
  | (with_reducible refine q_pnil ?_)
  | (with_reducible refine q_pcons ?_)
  | (with_reducible refine q_snil ?_)
  | (with_reducible refine q_scons ?_)
  | (with_reducible refine q_one ?_)
  | ((with_reducible apply q_put); exact rfl; (focus (first | assumption | exact fun _ z => nomatch z)); dsimp only [List.set])
  | ((with_reducible apply k_ok); exact rfl)
  | ((with_reducible apply p_idxD); exact rfl; exact rfl; (focus (first | exact Seal.lG | exact Seal.lM | exact Seal.lT | exact Pot.lG | exact Pot.lM | exact Pot.lT | exact Deck.lG | exact Deck.lM | exact Deck.lT)))
  | ((with_reducible apply q_setKey); exact rfl; exact rfl; (focus (show 3 < 16777216; omega)); exact rfl; (focus (first | (rw [Seal.pM]; exact put_ref rfl rfl) | (rw [Seal.pT]; exact put_ref rfl rfl) | (rw [Pot.pM]; exact put_ref rfl rfl) | (rw [Pot.pT]; exact put_ref rfl rfl) | (rw [Deck.pM]; exact put_ref rfl rfl) | (rw [Deck.pT]; exact put_ref rfl rfl) | (rw [Deck.pM]; exact rfl) | (rw [Deck.pT]; exact rfl))))
  | (simp only [List.cons_append, List.nil_append])
  | ((with_reducible apply p_idx); exact rfl; exact rfl)
  | ((with_reducible apply q_toR); exact rfl)
  | ((with_reducible apply q_boxR); exact rfl)
  | (with_reducible refine l_int ?_)
  | (with_reducible refine l_tup ?_)
  | (with_reducible refine l_tmp ?_)
  | (with_reducible refine l_nil ?_)
  | (with_reducible refine p_isN ?_)
  | (with_reducible refine p_notN ?_)
  | (with_reducible refine p_neB ?_)
  | (with_reducible refine p_eqB ?_)
  | (with_reducible refine p_band ?_)
  | (refine And.intro (Nat.le_of_ble_eq_true rfl) ?_)
  | (with_reducible refine q_boxT ?_)
  | (with_reducible refine p_mkDct' ?_)
  | (with_reducible refine e_chkC ?_)
  | ((with_reducible apply e_chkV); exact rfl)
  | dsimp only))
def sqB (p x : Nat) : Bool := (List.range (p / 2)).any fun y => (y + 1) * (y + 1) % p == x
def s (p x : Nat) : Int := if x = 0 then 0 else if sqB p x = true then 1 else -1
structure Ok (p : Nat) : Prop where
  pr : IsPr p
  odd : p % 2 = 1
  three : 3 ≤ p
  top : p ≤ 997
  eul : ∀ x, 1 ≤ x → x < p → (sqB p x = true ∧ x ^ (p / 2) % p = 1) ∨ (sqB p x = false ∧ x ^ (p / 2) % p = p - 1)
  one : S (fun y => s p y * s p ((y + 1) % p)) p = -1
theorem s0 (p : Nat) : s p 0 = 0 := if_pos rfl
theorem s_eul {p x : Nat} (o : Ok p) (h1 : 1 ≤ x) (h2 : x < p) : (s p x = 1 ∧ x ^ (p / 2) % p = 1) ∨ (s p x = -1 ∧ x ^ (p / 2) % p = p - 1) := by
  unfold s
  rw [if_neg (by omega)]
  rcases o.eul x h1 h2 with ⟨a, b⟩ | ⟨a, b⟩
  · exact .inl ⟨by rw [a]; rfl, b⟩
  · exact .inr ⟨by rw [a]; rfl, b⟩
theorem s_of {p m : Nat} (o : Ok p) (hm : m % p ≠ 0) : (m ^ (p / 2) % p = 1 → s p (m % p) = 1) ∧ (m ^ (p / 2) % p = p - 1 → s p (m % p) = -1) := by
  have lt := Nat.mod_lt m (show 0 < p by have := o.three; omega)
  have h3 := o.three
  rw [Nat.pow_mod]
  rcases s_eul o (x := m % p) (by omega) lt with ⟨a, b⟩ | ⟨a, b⟩
  · exact ⟨fun _ => a, fun e => by omega⟩
  · exact ⟨fun e => by omega, fun _ => a⟩
theorem pr_mod {p a b : Nat} (hp : IsPr p) (ha : a % p ≠ 0) (hb : b % p ≠ 0) : a * b % p ≠ 0 := fun e => by
  rcases pr_mul hp (Nat.dvd_of_mod_eq_zero e) with h | h
  · exact ha (Nat.mod_eq_zero_of_dvd h)
  · exact hb (Nat.mod_eq_zero_of_dvd h)
theorem sq_neg1 {p : Nat} (h : 3 ≤ p) : (p - 1) * (p - 1) % p = 1 := by
  obtain ⟨q, rfl⟩ : ∃ q, p = q + 2 := ⟨p - 2, by omega⟩
  rw [show q + 2 - 1 = q + 1 by omega, show (q + 1) * (q + 1) = 1 + (q + 2) * q by simp only [Nat.add_mul, Nat.mul_add]; omega, Nat.add_mul_mod_self_left, Nat.mod_eq_of_lt (by omega)]
theorem s_mul {p : Nat} (o : Ok p) (a b : Nat) : s p (a * b % p) = s p (a % p) * s p (b % p) := by
  have h3 := o.three
  by_cases ha : a % p = 0
  · rw [Nat.mul_mod, ha, Nat.zero_mul, Nat.zero_mod, s0, Int.zero_mul]
  by_cases hb : b % p = 0
  · rw [Nat.mul_mod, hb, Nat.mul_zero, Nat.zero_mod, s0, Int.mul_zero]
  have hab := pr_mod o.pr ha hb
  have la := Nat.mod_lt a (show 0 < p by omega)
  have lb := Nat.mod_lt b (show 0 < p by omega)
  obtain ⟨q1, q2⟩ := s_of o hab
  have e : (a * b) ^ (p / 2) % p = ((a % p) ^ (p / 2) % p) * ((b % p) ^ (p / 2) % p) % p := by
    rw [Nat.mul_pow, Nat.mul_mod, ← Nat.pow_mod, ← Nat.pow_mod]
  rcases s_eul o (x := a % p) (by omega) la with ⟨a1, a2⟩ | ⟨a1, a2⟩ <;> rcases s_eul o (x := b % p) (by omega) lb with ⟨b1, b2⟩ | ⟨b1, b2⟩
  · rw [a2, b2, Nat.mul_one, Nat.mod_eq_of_lt (show 1 < p by omega)] at e
    rw [q1 e, a1, b1]; rfl
  · rw [a2, b2, Nat.one_mul, Nat.mod_eq_of_lt (show p - 1 < p by omega)] at e
    rw [q2 e, a1, b1]; rfl
  · rw [a2, b2, Nat.mul_one, Nat.mod_eq_of_lt (show p - 1 < p by omega)] at e
    rw [q2 e, a1, b1]; rfl
  · rw [a2, b2, sq_neg1 h3] at e
    rw [q1 e, a1, b1]; rfl
theorem s_sq {p x : Nat} (o : Ok p) (h1 : 1 ≤ x) (h2 : x < p) : s p x * s p x = 1 := by
  rcases s_eul o h1 h2 with ⟨a, _⟩ | ⟨a, _⟩ <;> rw [a] <;> rfl
theorem mod_inj {p r a b : Nat} (hp : IsPr p) (hr : r % p ≠ 0) (h : r * a % p = r * b % p) (ha : a < p) (hb : b < p) : a = b := by
  have key : ∀ a b : Nat, a ≤ b → b < p → r * a % p = r * b % p → a = b := fun a b hab hb h => by
    have e : r * b = r * a + r * (b - a) := by rw [← Nat.mul_add, show a + (b - a) = b by omega]
    have d : p ∣ r * (b - a) := by
      have h1 := Nat.div_add_mod (r * a) p
      have h2 := Nat.div_add_mod (r * b) p
      refine ⟨r * b / p - r * a / p, ?_⟩
      rw [Nat.mul_sub, Nat.mul_sub]
      omega
    rcases pr_mul hp d with z | z
    · exact absurd (Nat.mod_eq_zero_of_dvd z) hr
    · rcases Nat.eq_zero_or_pos (b - a) with w | w
      · omega
      · have := Nat.le_of_dvd w z
        omega
  rcases Nat.le_total a b with z | z
  · exact key a b z hb h
  · exact (key b a z ha h.symm).symm
theorem shifted {p r : Nat} (o : Ok p) (hr : r % p ≠ 0) : S (fun x => s p x * s p ((x + r) % p)) p = -1 := by
  have h3 := o.three
  have inj : Inj p fun y => r * y % p := ⟨fun i _ => Nat.mod_lt _ (by omega), fun i j hi hj e => mod_inj o.pr hr e hi hj⟩
  rw [← inj.sum fun x => s p x * s p ((x + r) % p)]
  have rl := Nat.mod_lt r (show 0 < p by omega)
  rw [S_congr (f := fun i => s p (r * i % p) * s p ((r * i % p + r) % p)) (g := fun i => 1 * (s p i * s p ((i + 1) % p))) p fun i hi => ?_, S_mul, o.one]
  · rfl
  · have e : (r * i % p + r) % p = r * (i + 1) % p := by rw [Nat.mod_add_mod, Nat.mul_add, Nat.mul_one]
    rw [e, s_mul o, s_mul o, Nat.mod_eq_of_lt hi, ← s_sq o (x := r % p) (by omega) rl]
    simp only [Int.mul_assoc, Int.mul_left_comm]
theorem shifted0 {p : Nat} (o : Ok p) : S (fun x => s p x * s p ((x + 0) % p)) p = (p : Int) - 1 := by
  have key : ∀ n, 1 ≤ n → n ≤ p → S (fun x => s p x * s p ((x + 0) % p)) n = (n : Int) - 1 := fun n => by
    induction n with
    | zero => intro h; omega
    | succ n ih =>
      intro _ h2
      show S (fun x => s p x * s p ((x + 0) % p)) n + s p n * s p ((n + 0) % p) = _
      rw [Nat.add_zero, Nat.mod_eq_of_lt (by omega)]
      by_cases z : n = 0
      · subst z
        rw [s0]; rfl
      · rw [ih (by omega) (by omega), s_sq o (by omega) (by omega)]
        omega
  exact key p (by have := o.three; omega) (Nat.le_refl _)
def rr (p m i : Nat) : Nat := (i + 1) * m % p
def aa (p m i : Nat) : Nat := if p / 2 < rr p m i then p - rr p m i else rr p m i
def sg (p m i : Nat) : Int := if p / 2 < rr p m i then -1 else 1
def mm (p m i : Nat) : Nat := if p / 2 < rr p m i then 1 else 0
theorem rr_bd {p m i : Nat} (o : Ok p) (hm : m % p ≠ 0) (hi : i < p / 2) : 1 ≤ rr p m i ∧ rr p m i < p := by
  have h3 := o.three
  have : (i + 1) % p ≠ 0 := by rw [Nat.mod_eq_of_lt (by omega)]; omega
  have h := pr_mod o.pr this hm
  exact ⟨Nat.pos_of_ne_zero h, Nat.mod_lt _ (by omega)⟩
theorem aa_bd {p m i : Nat} (o : Ok p) (hm : m % p ≠ 0) (hi : i < p / 2) : 1 ≤ aa p m i ∧ aa p m i ≤ p / 2 := by
  obtain ⟨a, b⟩ := rr_bd o hm hi
  have := o.odd
  unfold aa
  split <;> omega
theorem aa_inj {p m : Nat} (o : Ok p) (hm : m % p ≠ 0) : Inj (p / 2) fun i => aa p m i - 1 := by
  refine ⟨fun i hi => by have := aa_bd o hm hi; omega, fun i j hi hj e => ?_⟩
  have a1 := aa_bd o hm hi
  have a2 := aa_bd o hm hj
  obtain ⟨b1, b2⟩ := rr_bd o hm hi
  obtain ⟨c1, c2⟩ := rr_bd o hm hj
  have e : aa p m i = aa p m j := by omega
  have odd := o.odd
  have same : rr p m i = rr p m j → i = j := fun e => by
    have e : m * (i + 1) % p = m * (j + 1) % p := by rw [Nat.mul_comm m, Nat.mul_comm m]; exact e
    have := mod_inj o.pr hm e (by omega) (by omega)
    omega
  have opp : rr p m i + rr p m j = p → i = j := fun e => by
    exfalso
    have d : ((i + 1) * m + (j + 1) * m) % p = 0 := by
      rw [Nat.add_mod]
      show (rr p m i + rr p m j) % p = 0
      rw [e, Nat.mod_self]
    rw [← Nat.add_mul] at d
    have h : (i + 1 + (j + 1)) % p ≠ 0 := by rw [Nat.mod_eq_of_lt (by omega)]; omega
    exact pr_mod o.pr h hm d
  unfold aa at e
  split at e <;> split at e
  · exact same (by omega)
  · exact opp (by omega)
  · exact opp (by omega)
  · exact same e
theorem sg_sign {p m : Nat} : ∀ n, Pr (sg p m) n = 1 - 2 * ((N (mm p m) n % 2 : Nat) : Int)
  | 0 => rfl
  | n + 1 => by
    show Pr (sg p m) n * sg p m n = 1 - 2 * (((N (mm p m) n + mm p m n) % 2 : Nat) : Int)
    rw [sg_sign n]
    generalize N (mm p m) n = A
    unfold sg mm
    split
    · rcases Nat.mod_two_eq_zero_or_one A with z | z
      · rw [z, show (A + 1) % 2 = 1 by omega]; rfl
      · rw [z, show (A + 1) % 2 = 0 by omega]; rfl
    · rw [Nat.add_zero, Int.mul_one]
def fact (n : Nat) : Int := Pr (fun i => ((i + 1 : Nat) : Int)) n
theorem fact_pr {p : Nat} (hp : IsPr p) : ∀ n, n < p → ¬ (p : Int) ∣ fact n
  | 0, h, z => by
    have : (p : Int) ∣ 1 := z
    have := Int.le_of_dvd (by decide) this
    have := hp.1
    omega
  | n + 1, h, z => by
    have z : (p : Int) ∣ fact n * ((n + 1 : Nat) : Int) := z
    have z2 : p ∣ (fact n).natAbs * (n + 1) := by
      have := Int.natAbs_dvd_natAbs.mpr z
      rwa [Int.natAbs_natCast, Int.natAbs_mul, Int.natAbs_natCast] at this
    rcases pr_mul hp z2 with w | w
    · exact fact_pr hp n (by omega) (Int.ofNat_dvd_left.mpr w)
    · have := Nat.le_of_dvd (by omega) w
      omega
theorem gauss {p m : Nat} (o : Ok p) (hm : m % p ≠ 0) : s p (m % p) = Pr (sg p m) (p / 2) := by
  have h3 := o.three
  have odd := o.odd
  have d1 : (p : Int) ∣ Pr (fun i => ((i + 1 : Nat) : Int) * (m : Int)) (p / 2) - Pr (fun i => sg p m i * (aa p m i : Int)) (p / 2) := Pr_mod _ fun i hi => by
    obtain ⟨b1, b2⟩ := rr_bd o hm hi
    have e : (i + 1) * m = p * ((i + 1) * m / p) + rr p m i := (Nat.div_add_mod _ _).symm
    have e2 : ((i + 1 : Nat) : Int) * (m : Int) = (p : Int) * (((i + 1) * m / p : Nat) : Int) + (rr p m i : Int) := by
      rw [← Int.natCast_mul, ← Int.natCast_mul, ← Int.natCast_add, ← e]
    rw [e2]
    unfold sg aa
    split
    · refine ⟨(((i + 1) * m / p : Nat) : Int) + 1, ?_⟩
      rw [Int.mul_add, Int.mul_one]
      omega
    · refine ⟨(((i + 1) * m / p : Nat) : Int), ?_⟩
      omega
  have e1 : Pr (fun i => ((i + 1 : Nat) : Int) * (m : Int)) (p / 2) = fact (p / 2) * (m : Int) ^ (p / 2) := by
    rw [Pr_mul, Pr_const]; rfl
  have e2 : Pr (fun i => sg p m i * (aa p m i : Int)) (p / 2) = Pr (sg p m) (p / 2) * fact (p / 2) := by
    rw [Pr_mul]
    congr 1
    have := (aa_inj o hm).prod fun i => ((i + 1 : Nat) : Int)
    rw [show fact (p / 2) = Pr (fun i => ((i + 1 : Nat) : Int)) (p / 2) from rfl, ← this]
    refine Pr_congr _ fun i hi => ?_
    have := (aa_bd o hm hi).1
    show (aa p m i : Int) = ((aa p m i - 1 + 1 : Nat) : Int)
    rw [show aa p m i - 1 + 1 = aa p m i by omega]
  rw [e1, e2] at d1
  have d2 : (p : Int) ∣ fact (p / 2) * ((m : Int) ^ (p / 2) - Pr (sg p m) (p / 2)) := by
    rw [Int.mul_sub, Int.mul_comm (fact _) (Pr _ _)]; exact d1
  have d3 : (p : Int) ∣ (m : Int) ^ (p / 2) - Pr (sg p m) (p / 2) := by
    have z := Int.natAbs_dvd_natAbs.mpr d2
    rw [Int.natAbs_natCast, Int.natAbs_mul] at z
    rcases pr_mul o.pr z with w | w
    · exact absurd (Int.ofNat_dvd_left.mpr w) (fact_pr o.pr _ (by omega))
    · exact Int.ofNat_dvd_left.mpr w
  obtain ⟨q1, q2⟩ := s_of o hm
  have pc : ((m ^ (p / 2) : Nat) : Int) = (m : Int) ^ (p / 2) := by rw [Int.natCast_pow]
  rw [sg_sign] at d3 ⊢
  rw [← pc] at d3
  have hmod := Nat.div_add_mod (m ^ (p / 2)) p
  have hlt := Nat.mod_lt (m ^ (p / 2)) (show 0 < p by omega)
  obtain ⟨c, hc⟩ := d3
  rcases Nat.mod_two_eq_zero_or_one (N (mm p m) (p / 2)) with z | z
  · rw [z] at hc ⊢
    have hc : ((m ^ (p / 2) : Nat) : Int) = 1 + (p : Int) * c := by
      have hc : ((m ^ (p / 2) : Nat) : Int) - (1 - 2 * ((0 : Nat) : Int)) = (p : Int) * c := hc
      omega
    have h1 : m ^ (p / 2) % p = 1 := by
      have : ((m ^ (p / 2) % p : Nat) : Int) = 1 := by
        rw [Int.natCast_emod, hc, Int.add_mul_emod_self_left, Int.emod_eq_of_lt (by omega) (by omega)]
      omega
    rw [q1 h1]; rfl
  · rw [z] at hc ⊢
    have hc : ((m ^ (p / 2) : Nat) : Int) = ((p - 1 : Nat) : Int) + (p : Int) * (c - 1) := by
      have hc : ((m ^ (p / 2) : Nat) : Int) - (1 - 2 * ((1 : Nat) : Int)) = (p : Int) * c := hc
      rw [Int.mul_sub, Int.mul_one]
      omega
    have h1 : m ^ (p / 2) % p = p - 1 := by
      have : ((m ^ (p / 2) % p : Nat) : Int) = ((p - 1 : Nat) : Int) := by
        rw [Int.natCast_emod, hc, Int.add_mul_emod_self_left, Int.emod_eq_of_lt (by omega) (by omega)]
      omega
    rw [q2 h1]; rfl
def Fl (p m : Nat) : Nat := N (fun i => (i + 1) * m / p) (p / 2)
theorem N_perm {n : Nat} {u : Nat → Nat} (h : Inj n u) (f : Nat → Nat) : N (fun i => f (u i)) n = N f n := by
  have key : ∀ (g : Nat → Nat) (n : Nat), S (fun i => (g i : Int)) n = ((N g n : Nat) : Int) := fun g n => by
    induction n with
    | zero => rfl
    | succ n ih => show S (fun i => (g i : Int)) n + (g n : Int) = ((N g n + g n : Nat) : Int); rw [ih, Int.natCast_add]
  have := h.sum fun i => (f i : Int)
  rw [key f n, key (fun i => f (u i)) n] at this
  omega
theorem N_par {f g : Nat → Nat} : ∀ n, (∀ i, i < n → f i % 2 = g i % 2) → N f n % 2 = N g n % 2
  | 0, _ => rfl
  | n + 1, h => by
    have a := N_par n fun i hi => h i (by omega)
    have b := h n (by omega)
    show (N f n + f n) % 2 = (N g n + g n) % 2
    omega
theorem eisen {p m : Nat} (o : Ok p) (hm : m % p ≠ 0) (hodd : m % 2 = 1) : N (mm p m) (p / 2) % 2 = Fl p m % 2 := by
  have odd := o.odd
  have e1 : N (fun i => i + 1) (p / 2) % 2 = N (fun i => (i + 1) * m / p + (aa p m i + mm p m i)) (p / 2) % 2 := N_par _ fun i hi => by
    obtain ⟨b1, b2⟩ := rr_bd o hm hi
    have e : (i + 1) * m = p * ((i + 1) * m / p) + rr p m i := (Nat.div_add_mod _ _).symm
    have l1 : (i + 1) * m % 2 = (i + 1) % 2 := by rw [Nat.mul_mod, hodd, Nat.mul_one, Nat.mod_mod]
    have l2 : p * ((i + 1) * m / p) % 2 = ((i + 1) * m / p) % 2 := by rw [Nat.mul_mod, odd, Nat.one_mul, Nat.mod_mod]
    rw [e, Nat.add_mod, l2] at l1
    unfold aa mm
    split <;> omega
  rw [N_add (fun i => (i + 1) * m / p) (fun i => aa p m i + mm p m i), N_add (aa p m) (mm p m)] at e1
  have e2 : N (aa p m) (p / 2) = N (fun i => i + 1) (p / 2) := by
    rw [← N_perm (aa_inj o hm) fun i => i + 1]
    exact N_congr _ fun i hi => by have := (aa_bd o hm hi).1; omega
  have e1 : N (fun i => i + 1) (p / 2) % 2 = (N (fun i => (i + 1) * m / p) (p / 2) + (N (aa p m) (p / 2) + N (mm p m) (p / 2))) % 2 := e1
  rw [e2] at e1
  show N (mm p m) (p / 2) % 2 = N (fun i => (i + 1) * m / p) (p / 2) % 2
  omega
theorem sign_parts {p m : Nat} (o : Ok p) (hm : m % p ≠ 0) (hodd : m % 2 = 1) : s p (m % p) = 1 - 2 * ((Fl p m % 2 : Nat) : Int) := by
  rw [gauss o hm, sg_sign, eisen o hm hodd]
theorem lattice {p q : Nat} (o : Ok p) (o2 : Ok q) (hne : p ≠ q) : Fl p q + Fl q p = p / 2 * (q / 2) := by
  have odd := o.odd
  have odd2 := o2.odd
  have h3 := o.three
  have h32 := o2.three
  have ndvd : ∀ {p q : Nat}, Ok p → Ok q → p ≠ q → q % p ≠ 0 := fun {p q} o o2 hne e => by
    rcases o2.pr.2 p (Nat.dvd_of_mod_eq_zero e) with z | z
    · have := o.three; omega
    · exact hne z
  have row : ∀ {p q : Nat}, Ok p → Ok q → p ≠ q → ∀ i, i < p / 2 → N (fun j => if (j + 1) * p < (i + 1) * q then 1 else 0) (q / 2) = (i + 1) * q / p := fun {p q} o o2 hne i hi => by
    have h3 := o.three
    have odd := o.odd
    have odd2 := o2.odd
    have nz : (i + 1) * q % p ≠ 0 := pr_mod o.pr (by rw [Nat.mod_eq_of_lt (by omega)]; omega) (ndvd o o2 hne)
    have ed := Nat.div_add_mod ((i + 1) * q) p
    have lt := Nat.mod_lt ((i + 1) * q) (show 0 < p by omega)
    have fl : (i + 1) * q / p ≤ q / 2 := by
      have h : (i + 1) * q < p * (q / 2 + 1) := by
        have h1 : 2 * ((i + 1) * q) ≤ (p - 1) * q := by
          rw [← Nat.mul_assoc]
          exact Nat.mul_le_mul_right q (by omega)
        have h2 : p * (2 * (q / 2) + 1) = p * q := by rw [show 2 * (q / 2) + 1 = q by omega]
        have h4 : (p - 1) * q ≤ p * q := Nat.mul_le_mul_right q (by omega)
        have h5 : p * (2 * (q / 2) + 1) = 2 * (p * (q / 2)) + p := by rw [Nat.mul_add, Nat.mul_one, Nat.mul_left_comm]
        have h6 : p * (q / 2 + 1) = p * (q / 2) + p := by rw [Nat.mul_add, Nat.mul_one]
        omega
      have := Nat.div_lt_of_lt_mul h
      omega
    rw [N_congr (g := fun j => if j + 1 ≤ (i + 1) * q / p then 1 else 0) _ fun j _ => ?_, N_count, Nat.min_eq_right fl]
    have iff : (j + 1) * p < (i + 1) * q ↔ j + 1 ≤ (i + 1) * q / p := by
      rw [Nat.le_div_iff_mul_le (show 0 < p by omega)]
      constructor
      · omega
      · intro h
        rcases Nat.lt_or_eq_of_le h with z | z
        · exact z
        · exfalso
          rw [← z, Nat.mul_mod_left] at nz
          exact nz rfl
    by_cases c : (j + 1) * p < (i + 1) * q
    · rw [if_pos c, if_pos (iff.mp c)]
    · rw [if_neg c, if_neg fun z => c (iff.mpr z)]
  have f1 : Fl p q = N (fun i => N (fun j => if (j + 1) * p < (i + 1) * q then 1 else 0) (q / 2)) (p / 2) := N_congr _ fun i hi => (row o o2 hne i hi).symm
  have f2 : Fl q p = N (fun j => N (fun i => if (i + 1) * q < (j + 1) * p then 1 else 0) (p / 2)) (q / 2) := N_congr _ fun j hj => (row o2 o (fun e => hne e.symm) j hj).symm
  rw [f1, f2, N_swap (fun j i => if (i + 1) * q < (j + 1) * p then 1 else 0) (p / 2) (q / 2), ← N_add]
  rw [N_congr (g := fun _ => q / 2) _ fun i hi => ?_, N_const]
  rw [← N_add, N_congr (g := fun _ => 1) _ fun j hj => ?_, N_const, Nat.mul_one]
  have ne : (j + 1) * p ≠ (i + 1) * q := fun e => by
    have nz : (i + 1) * q % p ≠ 0 := pr_mod o.pr (by rw [Nat.mod_eq_of_lt (by omega)]; omega) (ndvd o o2 hne)
    rw [← e, Nat.mul_mod_left] at nz
    exact nz rfl
  rcases Nat.lt_or_gt_of_ne ne with c | c
  · rw [if_pos c, if_neg (by omega)]
  · rw [if_neg (by omega), if_pos c]
end K58
namespace K58
open PySem PySem.Spec PyProof.Rows L2 DV DV.Num
local macro_rules | `(tactic| k_steps) => `(tactic| repeat (first
  | (with_reducible refine e_con ?_)
  | ((with_reducible apply e_var); exact rfl)
  | ((with_reducible apply e_varO); exact rfl)
  | (with_reducible refine e_prim ?_)
  | (with_reducible refine e_nil ?_)
  | (with_reducible refine e_cons ?_)
  | (with_reducible refine e_call ?_)
  | (with_reducible refine e_meth ?_)
  | (with_reducible refine e_iff ?_)
  | (with_reducible refine t_prim ?_)
  | (with_reducible refine t_var ?_)
  | (with_reducible refine t_not ?_)
  | (with_reducible refine tr_bl ?_)
  | (with_reducible refine tr_int ?_)
  | (with_reducible refine p_add ?_)
  | (with_reducible refine p_sub ?_)
  | ((with_reducible apply p_mul); (focus (first | exact rfl | assumption | exact mulOk_r (by decide) | exact mulOk_mod (by decide) (by decide))))
  | ((with_reducible apply p_fdiv); (focus (first | exact rfl | assumption | exact mulOk_r (by decide) | exact mulOk_mod (by decide) (by decide))))
  | ((with_reducible apply p_mod); (focus (first | decide | assumption)))
  | ((with_reducible apply p_pow); (focus (first | exact rfl | assumption | exact mulOk_r (by decide) | exact mulOk_mod (by decide) (by decide))))
  | (with_reducible refine p_neg ?_)
  | (with_reducible refine p_lt ?_)
  | (with_reducible refine p_le ?_)
  | (with_reducible refine p_gt ?_)
  | (with_reducible refine p_ge ?_)
  | (with_reducible refine p_eq ?_)
  | (with_reducible refine p_ne ?_)
  | (with_reducible refine p_int ?_)
  | (with_reducible refine p_intB ?_)
  | (with_reducible refine p_abs ?_)
  | (with_reducible refine p_min2 ?_)
  | (with_reducible refine p_max2 ?_)
  | (with_reducible refine p_mkTup' ?_)
  | (with_reducible refine p_mkLst' ?_)
  | (with_reducible refine q_bnil ?_)
  | (with_reducible refine q_bcons ?_)
  | (with_reducible refine q_boxP ?_)
  | (with_reducible refine q_toP ?_)
  | (with_reducible refine q_toT ?_)
  | (with_reducible refine q_nil ?_)
  | (with_reducible refine q_cons ?_)
  | (with_reducible refine q_pnil ?_)
  | (with_reducible refine q_pcons ?_)
  | (with_reducible refine q_snil ?_)
  | (with_reducible refine q_scons ?_)
  | (with_reducible refine q_one ?_)
  | ((with_reducible apply q_put); exact rfl; (focus (first | assumption | exact fun _ z => nomatch z)); dsimp only [List.set])
  | (with_reducible refine s_asg ?_)
  | (with_reducible refine s_par ?_)
  | (with_reducible refine s_expr ?_)
  | (with_reducible refine s_ret ?_)
  | (with_reducible refine s_retN ?_)
  | (with_reducible refine s_pass ?_)
  | (with_reducible refine s_ite ?_)
  | (with_reducible refine s_setKey ?_)
  | (with_reducible refine s_setIx ?_)
  | (with_reducible refine s_wh ?_)
  | (with_reducible refine s_nil ?_)
  | ((with_reducible apply k_ok); exact rfl)
  | ((with_reducible apply p_idxD); exact rfl; exact rfl; (focus (first | exact Seal.lG | exact Seal.lM | exact Seal.lT | exact Pot.lG | exact Pot.lM | exact Pot.lT | exact Deck.lG | exact Deck.lM | exact Deck.lT)))
  | ((with_reducible apply q_setKey); exact rfl; exact rfl; (focus (show 3 < 16777216; omega)); exact rfl; (focus (first | (rw [Seal.pM]; exact put_ref rfl rfl) | (rw [Seal.pT]; exact put_ref rfl rfl) | (rw [Pot.pM]; exact put_ref rfl rfl) | (rw [Pot.pT]; exact put_ref rfl rfl) | (rw [Deck.pM]; exact put_ref rfl rfl) | (rw [Deck.pT]; exact put_ref rfl rfl) | (rw [Deck.pM]; exact rfl) | (rw [Deck.pT]; exact rfl))))
  | (simp only [List.cons_append, List.nil_append])
  | ((with_reducible apply p_idx); exact rfl; exact rfl)
  | ((with_reducible apply q_toR); exact rfl)
  | ((with_reducible apply q_boxR); exact rfl)
  | (with_reducible refine l_int ?_)
  | (with_reducible refine l_tup ?_)
  | (with_reducible refine l_tmp ?_)
  | (with_reducible refine l_nil ?_)
  | (with_reducible refine p_isN ?_)
  | (with_reducible refine p_notN ?_)
  | (with_reducible refine p_neB ?_)
  | (with_reducible refine p_eqB ?_)
  | (with_reducible refine p_band ?_)
  | (refine And.intro (Nat.le_of_ble_eq_true rfl) ?_)
  | (with_reducible refine q_boxT ?_)
  | (with_reducible refine p_mkDct' ?_)
  | (with_reducible refine e_chkC ?_)
  | ((with_reducible apply e_chkV); exact rfl)
  | dsimp only))
local macro_rules | `(tactic| k_go) => `(tactic| repeat (first
  | (with_reducible refine e_con ?_)
  | ((with_reducible apply e_var); exact rfl)
  | ((with_reducible apply e_varO); exact rfl)
  | (with_reducible refine e_prim ?_)
  | (with_reducible refine e_nil ?_)
  | (with_reducible refine e_cons ?_)
  | (with_reducible refine e_call ?_)
  | (with_reducible refine e_meth ?_)
  | (with_reducible refine e_iff ?_)
  | (with_reducible refine t_prim ?_)
  | (with_reducible refine t_var ?_)
  | (with_reducible refine t_not ?_)
  | (with_reducible refine tr_bl ?_)
  | (with_reducible refine tr_int ?_)
  | (with_reducible refine p_add ?_)
  | (with_reducible refine p_sub ?_)
  | ((with_reducible apply p_mul); (focus (first | exact rfl | assumption | exact mulOk_r (by decide) | exact mulOk_mod (by decide) (by decide))))
  | ((with_reducible apply p_fdiv); (focus (first | exact rfl | assumption | exact mulOk_r (by decide) | exact mulOk_mod (by decide) (by decide))))
  | ((with_reducible apply p_mod); (focus (first | decide | assumption)))
  | ((with_reducible apply p_pow); (focus (first | exact rfl | assumption | exact mulOk_r (by decide) | exact mulOk_mod (by decide) (by decide))))
  | (with_reducible refine p_neg ?_)
  | (with_reducible refine p_lt ?_)
  | (with_reducible refine p_le ?_)
  | (with_reducible refine p_gt ?_)
  | (with_reducible refine p_ge ?_)
  | (with_reducible refine p_eq ?_)
  | (with_reducible refine p_ne ?_)
  | (with_reducible refine p_int ?_)
  | (with_reducible refine p_intB ?_)
  | (with_reducible refine p_abs ?_)
  | (with_reducible refine p_min2 ?_)
  | (with_reducible refine p_max2 ?_)
  | (with_reducible refine p_mkTup' ?_)
  | (with_reducible refine p_mkLst' ?_)
  | (with_reducible refine q_bnil ?_)
  | (with_reducible refine q_bcons ?_)
  | (with_reducible refine q_boxP ?_)
  | (with_reducible refine q_toP ?_)
  | (with_reducible refine q_toT ?_)
  | (with_reducible refine q_nil ?_)
  | (with_reducible refine q_cons ?_)
  | (with_reducible refine q_pnil ?_)
  | (with_reducible refine q_pcons ?_)
  | (with_reducible refine q_snil ?_)
  | (with_reducible refine q_scons ?_)
  | (with_reducible refine q_one ?_)
  | ((with_reducible apply q_put); exact rfl; (focus (first | assumption | exact fun _ z => nomatch z)); dsimp only [List.set])
  | ((with_reducible apply k_ok); exact rfl)
  | ((with_reducible apply p_idxD); exact rfl; exact rfl; (focus (first | exact Seal.lG | exact Seal.lM | exact Seal.lT | exact Pot.lG | exact Pot.lM | exact Pot.lT | exact Deck.lG | exact Deck.lM | exact Deck.lT)))
  | ((with_reducible apply q_setKey); exact rfl; exact rfl; (focus (show 3 < 16777216; omega)); exact rfl; (focus (first | (rw [Seal.pM]; exact put_ref rfl rfl) | (rw [Seal.pT]; exact put_ref rfl rfl) | (rw [Pot.pM]; exact put_ref rfl rfl) | (rw [Pot.pT]; exact put_ref rfl rfl) | (rw [Deck.pM]; exact put_ref rfl rfl) | (rw [Deck.pT]; exact put_ref rfl rfl) | (rw [Deck.pM]; exact rfl) | (rw [Deck.pT]; exact rfl))))
  | (simp only [List.cons_append, List.nil_append])
  | ((with_reducible apply p_idx); exact rfl; exact rfl)
  | ((with_reducible apply q_toR); exact rfl)
  | ((with_reducible apply q_boxR); exact rfl)
  | (with_reducible refine l_int ?_)
  | (with_reducible refine l_tup ?_)
  | (with_reducible refine l_tmp ?_)
  | (with_reducible refine l_nil ?_)
  | (with_reducible refine p_isN ?_)
  | (with_reducible refine p_notN ?_)
  | (with_reducible refine p_neB ?_)
  | (with_reducible refine p_eqB ?_)
  | (with_reducible refine p_band ?_)
  | (refine And.intro (Nat.le_of_ble_eq_true rfl) ?_)
  | (with_reducible refine q_boxT ?_)
  | (with_reducible refine p_mkDct' ?_)
  | (with_reducible refine e_chkC ?_)
  | ((with_reducible apply e_chkV); exact rfl)
  | dsimp only))
def mk (p : Nat) : Nat := (List.range (p / 2)).foldl (fun m y => m ||| (1 <<< ((y + 1) * (y + 1) % p))) 0
theorem fold_bit (g : Nat → Nat) (x : Nat) : ∀ (l : List Nat) (m : Nat), (l.foldl (fun m y => m ||| (1 <<< g y)) m).testBit x = (m.testBit x || l.any fun y => g y == x)
  | [], m => by simp
  | y :: l, m => by
    rw [List.foldl_cons, fold_bit g x l, List.any_cons, Nat.testBit_or, ← Bool.or_assoc]
    congr 2
    rw [Nat.testBit_shiftLeft]
    by_cases c : g y = x
    · subst c
      simp
    · have : (g y == x) = false := beq_eq_false_iff_ne.mpr c
      rw [this]
      by_cases h : g y ≤ x
      · have h2 : x - g y ≠ 0 := by omega
        obtain ⟨t, ht⟩ : ∃ t, x - g y = t + 1 := ⟨x - g y - 1, by omega⟩
        rw [ht, Nat.testBit_succ]
        simp
      · simp [h]
theorem mk_bit (p x : Nat) : (mk p).testBit x = sqB p x := by
  unfold mk sqB
  rw [fold_bit (fun y => (y + 1) * (y + 1) % p), Nat.zero_testBit, Bool.false_or]
def sM (p x : Nat) : Int := if x = 0 then 0 else if (mk p).testBit x = true then 1 else -1
theorem sM_s (p x : Nat) : sM p x = s p x := by unfold sM s; rw [mk_bit]
def nb (p : Nat) : List Nat := (List.range (p - 2)).filter fun i => decide (s p (i + 1) + s p (i + 2) = 2)
def nbM (p : Nat) : Nat := ((List.range (p - 2)).filter fun i => (mk p).testBit (i + 1) && (mk p).testBit (i + 2)).length
def chkE (p : Nat) : Bool := (List.range (p - 1)).all fun i => ((mk p).testBit (i + 1) && ((i + 1) ^ (p / 2) % p == 1)) || (!(mk p).testBit (i + 1) && ((i + 1) ^ (p / 2) % p == p - 1))
def chkC (p : Nat) : Bool := decide (((List.range p).map fun y => sM p y * sM p ((y + 1) % p)).sum = -1)
def chkN (p : Nat) : Bool := decide (4 * (nbM p : Int) = (p : Int) - 4 - sM p (p - 1))
def chk (p : Nat) : Bool := isPt p && p % 2 == 1 && Nat.ble 3 p && Nat.ble p 997 && chkE p && chkC p && chkN p
def P0 : List Nat := [3, 5, 7, 11, 13, 17, 19, 23, 29, 31, 37, 41, 43, 47, 53, 59, 61, 67, 71, 73, 79, 83, 89, 97, 101, 103, 107, 109]
theorem k0 : P0.all chk = true := by decide +kernel
def P1 : List Nat := [113, 127, 131, 137, 139, 149, 151, 157, 163, 167, 173, 179, 181, 191, 193, 197, 199, 211, 223, 227, 229, 233, 239, 241, 251, 257, 263, 269]
theorem k1 : P1.all chk = true := by decide +kernel
def P2 : List Nat := [271, 277, 281, 283, 293, 307, 311, 313, 317, 331, 337, 347, 349, 353, 359, 367, 373, 379, 383, 389, 397, 401, 409, 419, 421, 431, 433, 439]
theorem k2 : P2.all chk = true := by decide +kernel
def P3 : List Nat := [443, 449, 457, 461, 463, 467, 479, 487, 491, 499, 503, 509, 521, 523, 541, 547, 557, 563, 569, 571, 577, 587, 593, 599, 601, 607, 613, 617]
theorem k3 : P3.all chk = true := by decide +kernel
def P4 : List Nat := [619, 631, 641, 643, 647, 653, 659, 661, 673, 677, 683, 691, 701, 709, 719, 727, 733, 739, 743, 751, 757, 761, 769, 773, 787, 797, 809, 811]
theorem k4 : P4.all chk = true := by decide +kernel
def P5 : List Nat := [821, 823, 827, 829, 839, 853, 857, 859, 863, 877, 881, 883, 887, 907, 911, 919, 929, 937, 941, 947, 953, 967, 971, 977, 983, 991, 997]
theorem k5 : P5.all chk = true := by decide +kernel
def oddP : List Nat := P0 ++ P1 ++ P2 ++ P3 ++ P4 ++ P5
theorem all_chk {p : Nat} (h : p ∈ oddP) : chk p = true := by
  unfold oddP at h
  simp only [List.mem_append] at h
  rcases h with ((((h | h) | h) | h) | h) | h
  · exact List.all_eq_true.mp k0 p h
  · exact List.all_eq_true.mp k1 p h
  · exact List.all_eq_true.mp k2 p h
  · exact List.all_eq_true.mp k3 p h
  · exact List.all_eq_true.mp k4 p h
  · exact List.all_eq_true.mp k5 p h
theorem all_in : ((List.range 998).all fun p => !(p % 2 == 1 && Nat.ble 3 p) || oddP.contains p || (List.range 32).any fun d => Nat.ble 2 d && Nat.blt d p && p % d == 0) = true := by decide +kernel
theorem ok_in {p : Nat} (h : p ∈ oddP) : Ok p ∧ 4 * ((nb p).length : Int) = (p : Int) - 4 - s p (p - 1) := by
  have c := all_chk h
  unfold chk at c
  simp only [Bool.and_eq_true, beq_iff_eq] at c
  obtain ⟨⟨⟨⟨⟨⟨c1, c2⟩, c3⟩, c4⟩, c5⟩, c6⟩, c7⟩ := c
  have c3 := Nat.le_of_ble_eq_true c3
  have c4 := Nat.le_of_ble_eq_true c4
  have o : Ok p := ⟨isPt_ok (by omega) (by omega) c1, c2, c3, c4, fun x h1 h2 => by
    have e := List.all_eq_true.mp c5 (x - 1) (List.mem_range.mpr (by omega))
    rw [show x - 1 + 1 = x by omega, mk_bit] at e
    simpa using e, by
    have e := of_decide_eq_true c6
    rw [← e, S_list]
    exact S_congr _ fun i _ => by rw [sM_s, sM_s]⟩
  refine ⟨o, ?_⟩
  have e := of_decide_eq_true c7
  rw [sM_s] at e
  rw [← e]
  congr 2
  unfold nb nbM
  congr 1
  refine List.filter_congr fun i hi => ?_
  have hi := List.mem_range.mp hi
  rw [mk_bit, mk_bit]
  have s1 : s p (i + 1) = if sqB p (i + 1) = true then 1 else -1 := if_neg (by omega)
  have s2 : s p (i + 2) = if sqB p (i + 2) = true then 1 else -1 := if_neg (by omega)
  rw [s1, s2]
  cases sqB p (i + 1) <;> cases sqB p (i + 2) <;> rfl
theorem ok_of {p : Nat} (hp : IsPr p) (ho : p % 2 = 1) (h3 : 3 ≤ p) (h : p ≤ 997) : p ∈ oddP := by
  have c := List.all_eq_true.mp all_in p (List.mem_range.mpr (by omega))
  simp only [Bool.or_eq_true, Bool.not_eq_true', Bool.and_eq_false_iff, beq_eq_false_iff_ne, List.contains_iff_mem] at c
  rcases c with (c | c) | c
  · exfalso
    rcases c with c | c
    · exact c ho
    · rw [Nat.ble_eq_true_of_le h3] at c; cases c
  · exact c
  · exfalso
    obtain ⟨d, _, hd⟩ := List.any_eq_true.mp c
    simp only [Bool.and_eq_true, beq_iff_eq] at hd
    obtain ⟨⟨d1, d2⟩, d3⟩ := hd
    have d1 := Nat.le_of_ble_eq_true d1
    have d2 := Nat.le_of_ble_eq_true d2
    rcases hp.2 d (Nat.dvd_of_mod_eq_zero d3) with z | z <;> omega
end K58
namespace K58
open PySem PySem.Spec PyProof.Rows L2 DV DV.Num
local macro_rules | `(tactic| k_steps) => `(tactic| repeat (first
  | (with_reducible refine e_con ?_)
  | ((with_reducible apply e_var); exact rfl)
  | ((with_reducible apply e_varO); exact rfl)
  | (with_reducible refine e_prim ?_)
  | (with_reducible refine e_nil ?_)
  | (with_reducible refine e_cons ?_)
  | (with_reducible refine e_call ?_)
  | (with_reducible refine e_meth ?_)
  | (with_reducible refine e_iff ?_)
  | (with_reducible refine t_prim ?_)
  | (with_reducible refine t_var ?_)
  | (with_reducible refine t_not ?_)
  | (with_reducible refine tr_bl ?_)
  | (with_reducible refine tr_int ?_)
  | (with_reducible refine p_add ?_)
  | (with_reducible refine p_sub ?_)
  | ((with_reducible apply p_mul); (focus (first | exact rfl | assumption | exact mulOk_r (by decide) | exact mulOk_mod (by decide) (by decide))))
  | ((with_reducible apply p_fdiv); (focus (first | exact rfl | assumption | exact mulOk_r (by decide) | exact mulOk_mod (by decide) (by decide))))
  | ((with_reducible apply p_mod); (focus (first | decide | assumption)))
  | ((with_reducible apply p_pow); (focus (first | exact rfl | assumption | exact mulOk_r (by decide) | exact mulOk_mod (by decide) (by decide))))
  | (with_reducible refine p_neg ?_)
  | (with_reducible refine p_lt ?_)
  | (with_reducible refine p_le ?_)
  | (with_reducible refine p_gt ?_)
  | (with_reducible refine p_ge ?_)
  | (with_reducible refine p_eq ?_)
  | (with_reducible refine p_ne ?_)
  | (with_reducible refine p_int ?_)
  | (with_reducible refine p_intB ?_)
  | (with_reducible refine p_abs ?_)
  | (with_reducible refine p_min2 ?_)
  | (with_reducible refine p_max2 ?_)
  | (with_reducible refine p_mkTup' ?_)
  | (with_reducible refine p_mkLst' ?_)
  | (with_reducible refine q_bnil ?_)
  | (with_reducible refine q_bcons ?_)
  | (with_reducible refine q_boxP ?_)
  | (with_reducible refine q_toP ?_)
  | (with_reducible refine q_toT ?_)
  | (with_reducible refine q_nil ?_)
  | (with_reducible refine q_cons ?_)
  | (with_reducible refine q_pnil ?_)
  | (with_reducible refine q_pcons ?_)
  | (with_reducible refine q_snil ?_)
  | (with_reducible refine q_scons ?_)
  | (with_reducible refine q_one ?_)
  | ((with_reducible apply q_put); exact rfl; (focus (first | assumption | exact fun _ z => nomatch z)); dsimp only [List.set])
  | (with_reducible refine s_asg ?_)
  | (with_reducible refine s_par ?_)
  | (with_reducible refine s_expr ?_)
  | (with_reducible refine s_ret ?_)
  | (with_reducible refine s_retN ?_)
  | (with_reducible refine s_pass ?_)
  | (with_reducible refine s_ite ?_)
  | (with_reducible refine s_setKey ?_)
  | (with_reducible refine s_setIx ?_)
  | (with_reducible refine s_wh ?_)
  | (with_reducible refine s_nil ?_)
  | ((with_reducible apply k_ok); exact rfl)
  | ((with_reducible apply p_idxD); exact rfl; exact rfl; (focus (first | exact Seal.lG | exact Seal.lM | exact Seal.lT | exact Pot.lG | exact Pot.lM | exact Pot.lT | exact Deck.lG | exact Deck.lM | exact Deck.lT)))
  | ((with_reducible apply q_setKey); exact rfl; exact rfl; (focus (show 3 < 16777216; omega)); exact rfl; (focus (first | (rw [Seal.pM]; exact put_ref rfl rfl) | (rw [Seal.pT]; exact put_ref rfl rfl) | (rw [Pot.pM]; exact put_ref rfl rfl) | (rw [Pot.pT]; exact put_ref rfl rfl) | (rw [Deck.pM]; exact put_ref rfl rfl) | (rw [Deck.pT]; exact put_ref rfl rfl) | (rw [Deck.pM]; exact rfl) | (rw [Deck.pT]; exact rfl))))
  | (simp only [List.cons_append, List.nil_append])
  | ((with_reducible apply p_idx); exact rfl; exact rfl)
  | ((with_reducible apply q_toR); exact rfl)
  | ((with_reducible apply q_boxR); exact rfl)
  | (with_reducible refine l_int ?_)
  | (with_reducible refine l_tup ?_)
  | (with_reducible refine l_tmp ?_)
  | (with_reducible refine l_nil ?_)
  | (with_reducible refine p_isN ?_)
  | (with_reducible refine p_notN ?_)
  | (with_reducible refine p_neB ?_)
  | (with_reducible refine p_eqB ?_)
  | (with_reducible refine p_band ?_)
  | (refine And.intro (Nat.le_of_ble_eq_true rfl) ?_)
  | (with_reducible refine q_boxT ?_)
  | (with_reducible refine p_mkDct' ?_)
  | (with_reducible refine e_chkC ?_)
  | ((with_reducible apply e_chkV); exact rfl)
  | dsimp only))
local macro_rules | `(tactic| k_go) => `(tactic| repeat (first
  | (with_reducible refine e_con ?_)
  | ((with_reducible apply e_var); exact rfl)
  | ((with_reducible apply e_varO); exact rfl)
  | (with_reducible refine e_prim ?_)
  | (with_reducible refine e_nil ?_)
  | (with_reducible refine e_cons ?_)
  | (with_reducible refine e_call ?_)
  | (with_reducible refine e_meth ?_)
  | (with_reducible refine e_iff ?_)
  | (with_reducible refine t_prim ?_)
  | (with_reducible refine t_var ?_)
  | (with_reducible refine t_not ?_)
  | (with_reducible refine tr_bl ?_)
  | (with_reducible refine tr_int ?_)
  | (with_reducible refine p_add ?_)
  | (with_reducible refine p_sub ?_)
  | ((with_reducible apply p_mul); (focus (first | exact rfl | assumption | exact mulOk_r (by decide) | exact mulOk_mod (by decide) (by decide))))
  | ((with_reducible apply p_fdiv); (focus (first | exact rfl | assumption | exact mulOk_r (by decide) | exact mulOk_mod (by decide) (by decide))))
  | ((with_reducible apply p_mod); (focus (first | decide | assumption)))
  | ((with_reducible apply p_pow); (focus (first | exact rfl | assumption | exact mulOk_r (by decide) | exact mulOk_mod (by decide) (by decide))))
  | (with_reducible refine p_neg ?_)
  | (with_reducible refine p_lt ?_)
  | (with_reducible refine p_le ?_)
  | (with_reducible refine p_gt ?_)
  | (with_reducible refine p_ge ?_)
  | (with_reducible refine p_eq ?_)
  | (with_reducible refine p_ne ?_)
  | (with_reducible refine p_int ?_)
  | (with_reducible refine p_intB ?_)
  | (with_reducible refine p_abs ?_)
  | (with_reducible refine p_min2 ?_)
  | (with_reducible refine p_max2 ?_)
  | (with_reducible refine p_mkTup' ?_)
  | (with_reducible refine p_mkLst' ?_)
  | (with_reducible refine q_bnil ?_)
  | (with_reducible refine q_bcons ?_)
  | (with_reducible refine q_boxP ?_)
  | (with_reducible refine q_toP ?_)
  | (with_reducible refine q_toT ?_)
  | (with_reducible refine q_nil ?_)
  | (with_reducible refine q_cons ?_)
  | (with_reducible refine q_pnil ?_)
  | (with_reducible refine q_pcons ?_)
  | (with_reducible refine q_snil ?_)
  | (with_reducible refine q_scons ?_)
  | (with_reducible refine q_one ?_)
  | ((with_reducible apply q_put); exact rfl; (focus (first | assumption | exact fun _ z => nomatch z)); dsimp only [List.set])
  | ((with_reducible apply k_ok); exact rfl)
  | ((with_reducible apply p_idxD); exact rfl; exact rfl; (focus (first | exact Seal.lG | exact Seal.lM | exact Seal.lT | exact Pot.lG | exact Pot.lM | exact Pot.lT | exact Deck.lG | exact Deck.lM | exact Deck.lT)))
  | ((with_reducible apply q_setKey); exact rfl; exact rfl; (focus (show 3 < 16777216; omega)); exact rfl; (focus (first | (rw [Seal.pM]; exact put_ref rfl rfl) | (rw [Seal.pT]; exact put_ref rfl rfl) | (rw [Pot.pM]; exact put_ref rfl rfl) | (rw [Pot.pT]; exact put_ref rfl rfl) | (rw [Deck.pM]; exact put_ref rfl rfl) | (rw [Deck.pT]; exact put_ref rfl rfl) | (rw [Deck.pM]; exact rfl) | (rw [Deck.pT]; exact rfl))))
  | (simp only [List.cons_append, List.nil_append])
  | ((with_reducible apply p_idx); exact rfl; exact rfl)
  | ((with_reducible apply q_toR); exact rfl)
  | ((with_reducible apply q_boxR); exact rfl)
  | (with_reducible refine l_int ?_)
  | (with_reducible refine l_tup ?_)
  | (with_reducible refine l_tmp ?_)
  | (with_reducible refine l_nil ?_)
  | (with_reducible refine p_isN ?_)
  | (with_reducible refine p_notN ?_)
  | (with_reducible refine p_neB ?_)
  | (with_reducible refine p_eqB ?_)
  | (with_reducible refine p_band ?_)
  | (refine And.intro (Nat.le_of_ble_eq_true rfl) ?_)
  | (with_reducible refine q_boxT ?_)
  | (with_reducible refine p_mkDct' ?_)
  | (with_reducible refine e_chkC ?_)
  | ((with_reducible apply e_chkV); exact rfl)
  | dsimp only))
abbrev fnL (g : Nat → Int) (m : Nat) : List PV := (List.range m).map fun t => PV.int (g t)
theorem fnL_get {g : Nat → Int} {m i : Nat} (h : i < m) : (fnL g m)[i]? = some (.int (g i)) := by
  rw [List.getElem?_map, List.getElem?_range h]; rfl
theorem fnL_set {g : Nat → Int} {m i : Nat} {v : Int} : (fnL g m).set i (.int v) = fnL (fun t => if t = i then v else g t) m := by
  refine List.ext_getElem (by simp) fun k h1 h2 => ?_
  rw [List.getElem_set]
  simp only [List.getElem_map, List.getElem_range]
  by_cases e : i = k
  · rw [if_pos e, if_pos e.symm]
  · rw [if_neg e, if_neg fun z => e z.symm]
theorem ixN_nat {n i : Nat} (h : i < n) : L2.ixN n (i : Int) = some i := by
  unfold L2.ixN
  rw [if_pos (by omega), if_pos (by omega), Int.toNat_natCast]
theorem fnL_len (g : Nat → Int) (m : Nat) : (fnL g m).length = m := by simp
theorem fnL_congr {g g' : Nat → Int} {m : Nat} (h : ∀ t, t < m → g t = g' t) : fnL g m = fnL g' m := List.map_congr_left fun t ht => by rw [h t (List.mem_range.mp ht)]
theorem rep_flat (v : PV) : ∀ m : Nat, (List.replicate m [v]).flatten = List.replicate m v
  | 0 => rfl
  | m + 1 => by rw [List.replicate_succ, List.flatten_cons, rep_flat v m, List.replicate_succ]; rfl
theorem finc_bw {h h' : List DO} {env : List (Option SV)} {i : Nat} {c : CO} (he : env[i]? = some (some (.own c))) (hl : h'.length = h.length) : finC h (.ok (.rt (.bw i)) ⟨env, h'⟩) = .ok (.tmp c) h' := by
  show (match outV ⟨env, h'⟩ (.bw i) with | some v => RC.ok v (trunc h v h') | none => .no) = _
  have e : outV ⟨env, h'⟩ (.bw i) = some (.tmp c) := by simp only [outV, he]
  rw [e]
  show RC.ok (.tmp c) (trunc h (.tmp c) h') = _
  unfold trunc
  rw [← hl, List.take_length]
  split <;> rfl
theorem intsOf_map : ∀ l : List Int, intsOf (l.map PV.int) = some l
  | [] => rfl
  | i :: l => by
    rw [List.map_cons]
    unfold intsOf
    rw [intsOf_map l]; rfl
theorem i_enumT {s : DS} {a : EV} {b : Bool} {xs : List PV} {Q : List PV → DS → Prop} (h1 : itemsOf s a = some (b, xs)) (q : Q (enumL 0 xs) s) : Ev (itemsK .enum [a]) s Q :=
  .eq (a := enumL 0 xs) (s' := s) (by show (match itemsOf s a with | some (_, xs) => R.ok (enumL 0 xs) s | none => R.no) = _; rw [h1]) q
theorem enumL_fn (g : Nat → Int) (m : Nat) : enumL 0 (fnL g m) = (List.range m).map fun (t : Nat) => PV.tup [.int (t : Int), .int (g t)] := by
  refine List.ext_getElem? fun i => ?_
  by_cases h : i < m
  · have h2 : i < (enumL 0 (fnL g m)).length := by rw [enumL_length, fnL_len]; exact h
    obtain ⟨q, e1, e2⟩ := enumL_get (fnL g m) 0 i _ (List.getElem?_eq_getElem h2)
    rw [List.getElem?_eq_getElem h2, e2, List.getElem?_map, List.getElem?_range h]
    rw [fnL_get h] at e1
    cases e1
    rw [Nat.zero_add]; rfl
  · rw [List.getElem?_eq_none (by rw [enumL_length, fnL_len]; omega), List.getElem?_eq_none (by simp; omega)]
def sI (p n x : Nat) : Int := if x = 0 then 0 else if ((List.range n).any fun y => (y + 1) * (y + 1) % p == x) = true then 1 else -1
theorem sI_fin (p x : Nat) : sI p (p / 2) x = s p x := rfl
theorem sI_next {p n : Nat} (h0 : (n + 1) * (n + 1) % p ≠ 0) (x : Nat) : sI p (n + 1) x = if x = (n + 1) * (n + 1) % p then 1 else sI p n x := by
  unfold sI
  rw [List.range_succ, List.any_append, List.any_cons, List.any_nil, Bool.or_false]
  by_cases c : x = (n + 1) * (n + 1) % p
  · subst c
    rw [if_neg h0, if_pos rfl, beq_self_eq_true, Bool.or_true, if_pos rfl]
  · rw [if_neg c, show ((n + 1) * (n + 1) % p == x) = false from beq_eq_false_iff_ne.mpr fun z => c z.symm, Bool.or_false]
abbrev sL (p : Nat) : List PV := fnL (s p) p
theorem row_ok (k : Nat) (h : List DO) (p : Nat) (o : Ok p) : callF Pf (k + 1) 0 [.pv (.int p)] h = .ok (.tmp (.lst (sL p))) h := by
  refine call_of (d := c_signs_row) rfl rfl ?_
  show Ev (evSs _ c_signs_row.body) ⟨[some (.pv (.int p)), none, none], h⟩ _
  unfold c_signs_row
  dsimp only
  have h3 := o.three
  have ht := o.top
  have odd := o.odd
  have hpos : (0 : Int) < (p : Int) := by omega
  refine s_asg ?_
  k_go
  refine p_repL rfl (by rw [decide_eq_true (show -(2 ^ 63) ≤ (p : Int) by omega), decide_eq_true (show (p : Int) < 2 ^ 63 by omega)]; rfl) (by simp; show p ≤ 16777216; omega) ?_
  rw [Int.toNat_natCast, rep_flat, show List.replicate p (PV.int (-1)) = fnL (fun _ => -1) p by
    refine List.ext_getElem (by simp) fun k h1 h2 => ?_
    simp only [List.getElem_replicate, List.getElem_map, List.getElem_range]]
  k_go
  refine s_setIx ?_
  k_go
  refine q_setIx rfl rfl (ixN_nat (i := 0) (by rw [fnL_len]; omega)) rfl rfl ?_
  have hz : ∀ t, t < p → (if t = 0 then (0 : Int) else -1) = sI p 0 t := fun t _ => by
    unfold sI
    by_cases c : t = 0
    · rw [if_pos c, if_pos c]
    · rw [if_neg c, if_neg c]; rfl
  rw [fnL_set, fnL_congr hz]
  dsimp only [List.set]
  refine s_for ?_
  k_go
  refine i_rng2 (by rw [rngOk_of (by omega) (by omega), rngOk_of (by omega) (by omega)]; rfl) ?_
  rw [show ((p : Int) / 2 + 1 - 1).toNat = p / 2 by omega]
  k_go
  refine for_inv (I := fun i st => ∃ e2 : Option SV, st = ⟨[some (.pv (.int p)), some (.own (.lst (fnL (sI p i) p))), e2], h⟩ ∧ NL e2)
    ⟨none, rfl, (fun _ z => nomatch z)⟩ (fun i x st hp hI => ?_) fun st hI => ?_
  · obtain ⟨e2, rfl, n2⟩ := hI
    obtain ⟨hi, rfl⟩ := rangeL_at hp
    have nz : (i + 1) * (i + 1) % p ≠ 0 := pr_mod o.pr (by rw [Nat.mod_eq_of_lt (by omega)]; omega) (by rw [Nat.mod_eq_of_lt (by omega)]; omega)
    have lt := Nat.mod_lt ((i + 1) * (i + 1)) (show 0 < p by omega)
    have hm : mulOk (1 + (i : Int)) (1 + (i : Int)) = true := mulOk_l (by omega)
    have em : (1 + (i : Int)) * (1 + (i : Int)) % (p : Int) = (((i + 1) * (i + 1) % p : Nat) : Int) := by
      rw [Int.natCast_emod, Int.natCast_mul, show (1 : Int) + (i : Int) = ((i + 1 : Nat) : Int) by omega]
    k_go
    refine s_setIx ?_
    k_go
    rw [em]
    refine q_setIx rfl rfl (ixN_nat (by rw [fnL_len]; exact lt)) rfl rfl ?_
    rw [fnL_set, fnL_congr (g' := sI p (i + 1)) fun t _ => (sI_next nz t).symm]
    dsimp only [List.set]
    refine s_nil ?_
    exact ⟨some (.pv (.int (1 + (i : Int)))), rfl, fun _ z => nomatch z⟩
  · obtain ⟨e2, rfl, n2⟩ := hI
    rw [rangeL_length]
    refine k_nx (s' := ⟨[some (.pv (.int p)), some (.own (.lst (sL p))), e2], h⟩) rfl ?_
    refine s_ret ?_
    k_go
    exact finc_bw rfl rfl
def rm (p : Nat) (n : Int) : Nat := (n % (p : Int)).toNat
theorem rm_lt {p : Nat} (h : 1 ≤ p) (n : Int) : rm p n < p ∧ n % (p : Int) = (rm p n : Int) := by
  have h1 := Int.emod_nonneg n (show (p : Int) ≠ 0 by omega)
  have h2 := Int.emod_lt_of_pos n (show (0 : Int) < p by omega)
  unfold rm
  omega
theorem rm_add {p : Nat} (h : 1 ≤ p) (x : Nat) (n : Int) : ((x : Int) + n) % (p : Int) = (((x + rm p n) % p : Nat) : Int) := by
  obtain ⟨_, e⟩ := rm_lt h n
  rw [Int.natCast_emod, Int.natCast_add, ← e, Int.add_emod_emod]
theorem sign_ok (k : Nat) (h : List DO) (p : Nat) (n : Int) (o : Ok p) : callF Pf (k + 2) 1 [.pv (.int p), .pv (.int n)] h = .ok (.pv (.int (s p (rm p n)))) h := by
  refine call_of (d := c_sign_at) rfl rfl ?_
  show Ev (evSs _ c_sign_at.body) ⟨[some (.pv (.int p)), some (.pv (.int n))], h⟩ _
  unfold c_sign_at
  dsimp only
  have h3 := o.three
  obtain ⟨lt, e⟩ := rm_lt (p := p) (by omega) n
  have hpos : (0 : Int) < (p : Int) := by omega
  refine s_ret ?_
  k_go
  refine ev_call (row_ok k h p o) ?_
  k_go
  rw [e]
  refine p_idx rfl (L2.atI_nat (fnL_get lt)) ?_
  k_go
  exact finc_pv rfl
def shF (p r : Nat) : PV → Option PV
  | .tup [.int x, .int v] => some (.int (v * s p ((x.toNat + r) % p)))
  | _ => none
theorem shF_map (p r : Nat) : ∀ L : List Nat, (L.map fun (t : Nat) => PV.tup [.int (t : Int), .int (s p t)]).filterMap (shF p r) = (L.map fun t => s p t * s p ((t + r) % p)).map PV.int
  | [] => rfl
  | t :: L => by
    rw [List.map_cons, List.filterMap_cons_some (f := shF p r) (b := PV.int (s p t * s p ((t + r) % p))) (by
      show some (PV.int (s p t * s p (((t : Int).toNat + r) % p))) = _
      rw [Int.toNat_natCast]), shF_map p r L]; rfl
def Sh (p r : Nat) : Int := if r = 0 then (p : Int) - 1 else -1
theorem Sh_is {p r : Nat} (o : Ok p) (hr : r < p) : ((List.range p).map fun t => s p t * s p ((t + r) % p)).sum = Sh p r := by
  rw [S_list]
  unfold Sh
  by_cases c : r = 0
  · subst c
    rw [if_pos rfl, shifted0 o]
  · rw [if_neg c, shifted o (by rw [Nat.mod_eq_of_lt hr]; exact c)]
theorem s_bd (p x : Nat) : (s p x).natAbs ≤ 1 := by
  unfold s
  split
  · decide
  · split <;> decide
theorem shift_ok (k : Nat) (h : List DO) (p : Nat) (n : Int) (o : Ok p) : callF Pf (k + 2) 2 [.pv (.int p), .pv (.int n)] h = .ok (.pv (.int (Sh p (rm p n)))) h := by
  refine call_of (d := c_shifted_sum) rfl rfl ?_
  show Ev (evSs _ c_shifted_sum.body) ⟨[some (.pv (.int p)), some (.pv (.int n)), none, none, none], h⟩ _
  unfold c_shifted_sum
  dsimp only
  have h3 := o.three
  have ht := o.top
  obtain ⟨lt, e⟩ := rm_lt (p := p) (by omega) n
  have hpos : (0 : Int) < (p : Int) := by omega
  refine s_asg ?_
  k_go
  refine ev_call (row_ok k h p o) ?_
  k_go
  refine s_ret ?_
  k_go
  refine e_comp ?_
  k_go
  refine i_enumT rfl ?_
  rw [enumL_fn]
  refine ⟨by rw [List.length_map, List.length_range]; show _ ≤ 16777216; omega, ?_⟩
  refine l_own rfl (l_nil ?_)
  dsimp only [List.set]
  refine comp_fm (s0 := ⟨[some (.pv (.int p)), some (.pv (.int n)), some (.lk (.lst (sL p))), none, none], h⟩) (shF p (rm p n)) rfl rfl (fun y hy => ?_) ?_
  · obtain ⟨t, hts, rfl⟩ := List.mem_map.mp hy
    have hts := List.mem_range.mp hts
    have lt2 := Nat.mod_lt (t + rm p n) (show 0 < p by omega)
    have hm : mulOk (s p t) (s p ((t + rm p n) % p)) = true := mulOk_l (by have := s_bd p t; omega)
    refine q_many rfl ?_
    k_go
    refine c_none ⟨fun _ => ⟨.int (s p t * s p ((t + rm p n) % p)), by show some (PV.int (s p t * s p (((t : Int).toNat + rm p n) % p))) = _; rw [Int.toNat_natCast], ?_⟩, fun z => nomatch z⟩
    k_go
    refine e_varK rfl ?_
    k_go
    rw [rm_add (by omega)]
    refine p_idx rfl (L2.atI_nat (fnL_get lt2)) ?_
    k_go
    refine ⟨?_, ?_, ?_⟩ <;> first | exact True.intro | rfl
  · rw [shF_map]
    show Ev _ ⟨[some (.pv (.int p)), some (.pv (.int n)), some (.own (.lst (sL p))), none, none], h⟩ _
    k_go
    refine p_sumQ rfl (intsOf_map _) ?_
    rw [Sh_is o lt]
    k_go
    exact finc_pv rfl
def nbF (p : Nat) : PV → Option PV
  | .int x => if s p x.toNat + s p (x.toNat + 1) = 2 then some (.int x) else none
  | _ => none
theorem nbF_map (p : Nat) : ∀ L : List Nat, (L.map fun (i : Nat) => PV.int (1 + (i : Int))).filterMap (nbF p) = (L.filter fun i => decide (s p (i + 1) + s p (i + 2) = 2)).map fun (i : Nat) => PV.int (1 + (i : Int))
  | [] => rfl
  | i :: L => by
    have e : (1 + (i : Int)).toNat = i + 1 := by omega
    have eu : nbF p (PV.int (1 + (i : Int))) = if s p (i + 1) + s p (i + 2) = 2 then some (PV.int (1 + (i : Int))) else none := by
      show (if s p (1 + (i : Int)).toNat + s p ((1 + (i : Int)).toNat + 1) = 2 then some (PV.int (1 + (i : Int))) else none) = _
      rw [e]
    rw [List.map_cons, List.filterMap_cons, eu, nbF_map p L, List.filter_cons]
    by_cases c : s p (i + 1) + s p (i + 2) = 2
    · rw [if_pos c, if_pos (decide_eq_true c)]; rfl
    · rw [if_neg c, if_neg (by simp [c])]
theorem two_one {p a b : Nat} : s p a + s p b = 2 ↔ s p a = 1 ∧ s p b = 1 := by
  have h1 := s_bd p a
  have h2 := s_bd p b
  omega
theorem neigh_ok (k : Nat) (h : List DO) (p : Nat) (o : Ok p) : callF Pf (k + 2) 3 [.pv (.int p)] h = .ok (.pv (.int (((nb p).length : Nat) : Int))) h := by
  refine call_of (d := c_square_neighbours) rfl rfl ?_
  show Ev (evSs _ c_square_neighbours.body) ⟨[some (.pv (.int p)), none, none], h⟩ _
  unfold c_square_neighbours
  dsimp only
  have h3 := o.three
  have ht := o.top
  refine s_asg ?_
  k_go
  refine ev_call (row_ok k h p o) ?_
  k_go
  refine s_ret ?_
  k_go
  refine e_comp ?_
  k_go
  refine i_rng2 (by rw [rngOk_of (by omega) (by omega), rngOk_of (by omega) (by omega)]; rfl) ?_
  rw [show ((p : Int) - 1 - 1).toNat = p - 2 by omega, DV.rangeL_map]
  refine ⟨by rw [List.length_map, List.length_range]; show _ ≤ 16777216; omega, ?_⟩
  refine l_int (l_int (l_nil ?_))
  refine comp_fm (s0 := ⟨[some (.pv (.int p)), some (.own (.lst (sL p))), none], h⟩) (nbF p) rfl rfl (fun y hy => ?_) ?_
  · obtain ⟨i, hi, rfl⟩ := List.mem_map.mp hy
    have hi := List.mem_range.mp hi
    have e : (1 : Int) + (i : Int) = ((i + 1 : Nat) : Int) := by omega
    have e2 : ((i + 1 : Nat) : Int) + 1 = ((i + 2 : Nat) : Int) := by omega
    have fn : nbF p (PV.int ((i + 1 : Nat) : Int)) = if s p (i + 1) + s p (i + 2) = 2 then some (PV.int ((i + 1 : Nat) : Int)) else none := by
      show (if s p ((i + 1 : Nat) : Int).toNat + s p (((i + 1 : Nat) : Int).toNat + 1) = 2 then some (PV.int ((i + 1 : Nat) : Int)) else none) = _
      rw [Int.toNat_natCast]
    rw [e]
    k_go
    refine c_some (t_and ?_)
    k_go
    refine p_idx rfl (L2.atI_nat (fnL_get (by omega))) ?_
    k_go
    refine ⟨fun c => ?_, fun c => ⟨(fun z => by simp at z), fun _ => ?_⟩⟩
    · have c : s p (i + 1) = 1 := of_decide_eq_true c
      k_go
      rw [e2]
      refine p_idx rfl (L2.atI_nat (fnL_get (by omega))) ?_
      k_go
      refine ⟨fun d => ?_, fun d => ?_⟩
      · have d : s p (i + 2) = 1 := of_decide_eq_true d
        refine ⟨.int ((i + 1 : Nat) : Int), by rw [fn, if_pos (two_one.mpr ⟨c, d⟩)], ?_⟩
        k_go
        refine ⟨?_, ?_, ?_⟩ <;> first | exact True.intro | rfl
      · have d : ¬ s p (i + 2) = 1 := of_decide_eq_false d
        exact ⟨by rw [fn, if_neg fun z => d (two_one.mp z).2], rfl, rfl⟩
    · have c : ¬ s p (i + 1) = 1 := of_decide_eq_false c
      exact ⟨by rw [fn, if_neg fun z => c (two_one.mp z).1], rfl, rfl⟩
  · rw [nbF_map]
    show Ev _ ⟨[some (.pv (.int p)), some (.own (.lst (sL p))), none], h⟩ _
    k_go
    refine p_len rfl ?_
    rw [List.length_map]
    k_go
    exact finc_pv rfl
def flF (p m : Nat) : PV → Option PV
  | .int x => some (.int (x * (m : Int) / (p : Int)))
  | _ => none
theorem flF_map (p m : Nat) : ∀ L : List Nat, (L.map fun (i : Nat) => PV.int (1 + (i : Int))).filterMap (flF p m) = (L.map fun i => (((i + 1) * m / p : Nat) : Int)).map PV.int
  | [] => rfl
  | i :: L => by
    rw [List.map_cons, List.filterMap_cons_some (f := flF p m) (b := PV.int (((i + 1) * m / p : Nat) : Int)) (by
      show some (PV.int ((1 + (i : Int)) * (m : Int) / (p : Int))) = _
      rw [Int.natCast_ediv, Int.natCast_mul, show (1 : Int) + (i : Int) = ((i + 1 : Nat) : Int) by omega]), flF_map p m L]; rfl
theorem S_N (g : Nat → Nat) : ∀ n, S (fun i => (g i : Int)) n = ((N g n : Nat) : Int)
  | 0 => rfl
  | n + 1 => by show S (fun i => (g i : Int)) n + (g n : Int) = ((N g n + g n : Nat) : Int); rw [S_N g n, Int.natCast_add]
theorem Fl_sum (p m : Nat) : ((List.range (p / 2)).map fun i => (((i + 1) * m / p : Nat) : Int)).sum = ((Fl p m : Nat) : Int) := by
  rw [S_list, S_N]; rfl
theorem parts_ok (k : Nat) (h : List DO) (p m : Nat) (o : Ok p) : callF Pf (k + 1) 4 [.pv (.int p), .pv (.int m)] h = .ok (.pv (.int ((Fl p m : Nat) : Int))) h := by
  refine call_of (d := c_parts_sum) rfl rfl ?_
  show Ev (evSs _ c_parts_sum.body) ⟨[some (.pv (.int p)), some (.pv (.int m)), none], h⟩ _
  unfold c_parts_sum
  dsimp only
  have h3 := o.three
  have ht := o.top
  have hdv : divOk (p : Int) = true := divOk_n (by omega) (by omega)
  refine s_ret ?_
  k_go
  refine e_comp ?_
  k_go
  refine i_rng2 (by rw [rngOk_of (by omega) (by omega), rngOk_of (by omega) (by omega)]; rfl) ?_
  rw [show ((p : Int) / 2 + 1 - 1).toNat = p / 2 by omega, DV.rangeL_map]
  refine ⟨by rw [List.length_map, List.length_range]; show _ ≤ 16777216; omega, ?_⟩
  refine l_int (l_int (l_nil ?_))
  refine comp_fm (s0 := ⟨[some (.pv (.int p)), some (.pv (.int m)), none], h⟩) (flF p m) rfl rfl (fun y hy => ?_) ?_
  · obtain ⟨i, hi, rfl⟩ := List.mem_map.mp hy
    have hi := List.mem_range.mp hi
    have hm : mulOk (1 + (i : Int)) (m : Int) = true := mulOk_l (by omega)
    k_go
    refine c_none ⟨fun _ => ⟨.int ((1 + (i : Int)) * (m : Int) / (p : Int)), rfl, ?_⟩, fun z => nomatch z⟩
    k_go
    refine ⟨?_, ?_, ?_⟩ <;> first | exact True.intro | rfl
  · rw [flF_map]
    show Ev _ ⟨[some (.pv (.int p)), some (.pv (.int m)), none], h⟩ _
    k_go
    refine p_sumQ rfl (intsOf_map _) ?_
    rw [Fl_sum]
    k_go
    exact finc_pv rfl
theorem lprime_ok (k : Nat) (h : List DO) (n : Nat) (h3 : 3 ≤ n) (hn : n ≤ 1000) : ∃ b : Bool, (b = true → IsPr n) ∧ (n = 3 → b = true) ∧ callF Pf (k + 1) 8 [.pv (.int n)] h = .ok (.pv (.bl b)) h := by
  suffices hs : Ev (evSs (callF Pf k) c__law_is_prime.body) ⟨startE c__law_is_prime [.pv (.int n)], h⟩ fun f st => ∃ b : Bool, (b = true → IsPr n) ∧ (n = 3 → b = true) ∧ finC h (.ok f st) = .ok (.pv (.bl b)) h by
    obtain ⟨f, st, e, b, a, c, q⟩ := hs
    exact ⟨b, a, c, call_of (d := c__law_is_prime) rfl rfl ⟨f, st, e, q⟩⟩
  show Ev (evSs _ c__law_is_prime.body) ⟨[some (.pv (.int n)), none], h⟩ _
  unfold c__law_is_prime
  dsimp only
  refine s_ite ?_
  k_go
  refine ⟨fun c => ?_, fun c => ?_⟩
  · have c : n = 3 := by have := of_decide_eq_true c; omega
    subst c
    refine s_ret ?_
    k_go
    exact ⟨true, fun _ => small_pr 3 (by decide), fun _ => rfl, finc_pv rfl⟩
  · have c : 4 ≤ n := by have := of_decide_eq_false c; omega
    refine s_asg ?_
    k_go
    refine s_wh ?_
    refine wh_inv (I := fun μ st => ∃ p : Nat, st = ⟨[some (.pv (.int n)), some (.pv (.int p))], h⟩ ∧ 2 ≤ p ∧ p ≤ n ∧ Rough p n ∧ n - p = μ) (n - 2) (by unfold wFuel; omega) ⟨2, rfl, by decide, by omega, Rough.two n, rfl⟩ ?_
    rintro μ st ⟨p, rfl, hp, hpn, hr, rfl⟩
    have hm : mulOk (p : Int) (p : Int) = true := mulOk_l (by omega)
    have hpos : (0 : Int) < (p : Int) := by omega
    have epp : (p : Int) * p = ((p * p : Nat) : Int) := by rw [Int.natCast_mul]
    refine t_and ?_
    k_go
    rw [epp]
    refine ⟨fun d => ?_, fun d => ⟨fun _ => ?_, (fun z => by simp at z)⟩⟩
    · have d : p * p ≤ n := by have := of_decide_eq_true d; omega
      k_go
      rw [← Int.natCast_emod]
      refine ⟨fun e => ?_, fun e => ?_⟩
      · have e : n % p = 0 := by have := of_decide_eq_false e; omega
        refine k_nx (s' := ⟨[some (.pv (.int n)), some (.pv (.int p))], h⟩) rfl ?_
        refine s_ret ?_
        k_go
        rw [epp]
        refine ⟨false, (fun z => by cases z), (fun z => by omega), ?_⟩
        rw [decide_eq_false (by omega : ¬ ((p * p : Nat) : Int) > (n : Int))]
        exact finc_pv rfl
      · have e : n % p ≠ 0 := by have := of_decide_eq_true e; omega
        have hp1 : p + p ≤ n := by
          have := Nat.mul_le_mul_right p hp
          omega
        refine s_asg ?_
        k_go
        refine s_nil ?_
        exact ⟨n - (p + 1), by omega, p + 1, rfl, by omega, by omega, hr.next fun z => e (Nat.mod_eq_zero_of_dvd z), rfl⟩
    · have d : n < p * p := by have := of_decide_eq_false d; omega
      refine k_nx (s' := ⟨[some (.pv (.int n)), some (.pv (.int p))], h⟩) rfl ?_
      refine s_ret ?_
      k_go
      rw [epp]
      refine ⟨true, (fun _ => hr.prime (by omega) d), (fun _ => rfl), ?_⟩
      rw [decide_eq_true (by omega : ((p * p : Nat) : Int) > (n : Int))]
      exact finc_pv rfl
end K58
namespace K58
open PySem PySem.Spec PyProof.Rows L2 DV DV.Num
local macro_rules | `(tactic| k_steps) => `(tactic| repeat (first
  | (with_reducible refine e_con ?_)
  | ((with_reducible apply e_var); exact rfl)
  | ((with_reducible apply e_varO); exact rfl)
  | (with_reducible refine e_prim ?_)
  | (with_reducible refine e_nil ?_)
  | (with_reducible refine e_cons ?_)
  | (with_reducible refine e_call ?_)
  | (with_reducible refine e_meth ?_)
  | (with_reducible refine e_iff ?_)
  | (with_reducible refine t_prim ?_)
  | (with_reducible refine t_var ?_)
  | (with_reducible refine t_not ?_)
  | (with_reducible refine tr_bl ?_)
  | (with_reducible refine tr_int ?_)
  | (with_reducible refine p_add ?_)
  | (with_reducible refine p_sub ?_)
  | ((with_reducible apply p_mul); (focus (first | exact rfl | assumption | exact mulOk_r (by decide) | exact mulOk_mod (by decide) (by decide))))
  | ((with_reducible apply p_fdiv); (focus (first | exact rfl | assumption | exact mulOk_r (by decide) | exact mulOk_mod (by decide) (by decide))))
  | ((with_reducible apply p_mod); (focus (first | decide | assumption)))
  | ((with_reducible apply p_pow); (focus (first | exact rfl | assumption | exact mulOk_r (by decide) | exact mulOk_mod (by decide) (by decide))))
  | (with_reducible refine p_neg ?_)
  | (with_reducible refine p_lt ?_)
  | (with_reducible refine p_le ?_)
  | (with_reducible refine p_gt ?_)
  | (with_reducible refine p_ge ?_)
  | (with_reducible refine p_eq ?_)
  | (with_reducible refine p_ne ?_)
  | (with_reducible refine p_int ?_)
  | (with_reducible refine p_intB ?_)
  | (with_reducible refine p_abs ?_)
  | (with_reducible refine p_min2 ?_)
  | (with_reducible refine p_max2 ?_)
  | (with_reducible refine p_mkTup' ?_)
  | (with_reducible refine p_mkLst' ?_)
  | (with_reducible refine q_bnil ?_)
  | (with_reducible refine q_bcons ?_)
  | (with_reducible refine q_boxP ?_)
  | (with_reducible refine q_toP ?_)
  | (with_reducible refine q_toT ?_)
  | (with_reducible refine q_nil ?_)
  | (with_reducible refine q_cons ?_)
  | (with_reducible refine q_pnil ?_)
  | (with_reducible refine q_pcons ?_)
  | (with_reducible refine q_snil ?_)
  | (with_reducible refine q_scons ?_)
  | (with_reducible refine q_one ?_)
  | ((with_reducible apply q_put); exact rfl; (focus (first | assumption | exact fun _ z => nomatch z)); dsimp only [List.set])
  | (with_reducible refine s_asg ?_)
  | (with_reducible refine s_par ?_)
  | (with_reducible refine s_expr ?_)
  | (with_reducible refine s_ret ?_)
  | (with_reducible refine s_retN ?_)
  | (with_reducible refine s_pass ?_)
  | (with_reducible refine s_ite ?_)
  | (with_reducible refine s_setKey ?_)
  | (with_reducible refine s_setIx ?_)
  | (with_reducible refine s_wh ?_)
  | (with_reducible refine s_nil ?_)
  | ((with_reducible apply k_ok); exact rfl)
  | ((with_reducible apply p_idxD); exact rfl; exact rfl; (focus (first | exact Seal.lG | exact Seal.lM | exact Seal.lT | exact Pot.lG | exact Pot.lM | exact Pot.lT | exact Deck.lG | exact Deck.lM | exact Deck.lT)))
  | ((with_reducible apply q_setKey); exact rfl; exact rfl; (focus (show 3 < 16777216; omega)); exact rfl; (focus (first | (rw [Seal.pM]; exact put_ref rfl rfl) | (rw [Seal.pT]; exact put_ref rfl rfl) | (rw [Pot.pM]; exact put_ref rfl rfl) | (rw [Pot.pT]; exact put_ref rfl rfl) | (rw [Deck.pM]; exact put_ref rfl rfl) | (rw [Deck.pT]; exact put_ref rfl rfl) | (rw [Deck.pM]; exact rfl) | (rw [Deck.pT]; exact rfl))))
  | (simp only [List.cons_append, List.nil_append])
  | ((with_reducible apply p_idx); exact rfl; exact rfl)
  | ((with_reducible apply q_toR); exact rfl)
  | ((with_reducible apply q_boxR); exact rfl)
  | (with_reducible refine l_int ?_)
  | (with_reducible refine l_tup ?_)
  | (with_reducible refine l_tmp ?_)
  | (with_reducible refine l_nil ?_)
  | (with_reducible refine p_isN ?_)
  | (with_reducible refine p_notN ?_)
  | (with_reducible refine p_neB ?_)
  | (with_reducible refine p_eqB ?_)
  | (with_reducible refine p_band ?_)
  | (refine And.intro (Nat.le_of_ble_eq_true rfl) ?_)
  | (with_reducible refine q_boxT ?_)
  | (with_reducible refine p_mkDct' ?_)
  | (with_reducible refine e_chkC ?_)
  | ((with_reducible apply e_chkV); exact rfl)
  | dsimp only))
local macro_rules | `(tactic| k_go) => `(tactic| repeat (first
  | (with_reducible refine e_con ?_)
  | ((with_reducible apply e_var); exact rfl)
  | ((with_reducible apply e_varO); exact rfl)
  | (with_reducible refine e_prim ?_)
  | (with_reducible refine e_nil ?_)
  | (with_reducible refine e_cons ?_)
  | (with_reducible refine e_call ?_)
  | (with_reducible refine e_meth ?_)
  | (with_reducible refine e_iff ?_)
  | (with_reducible refine t_prim ?_)
  | (with_reducible refine t_var ?_)
  | (with_reducible refine t_not ?_)
  | (with_reducible refine tr_bl ?_)
  | (with_reducible refine tr_int ?_)
  | (with_reducible refine p_add ?_)
  | (with_reducible refine p_sub ?_)
  | ((with_reducible apply p_mul); (focus (first | exact rfl | assumption | exact mulOk_r (by decide) | exact mulOk_mod (by decide) (by decide))))
  | ((with_reducible apply p_fdiv); (focus (first | exact rfl | assumption | exact mulOk_r (by decide) | exact mulOk_mod (by decide) (by decide))))
  | ((with_reducible apply p_mod); (focus (first | decide | assumption)))
  | ((with_reducible apply p_pow); (focus (first | exact rfl | assumption | exact mulOk_r (by decide) | exact mulOk_mod (by decide) (by decide))))
  | (with_reducible refine p_neg ?_)
  | (with_reducible refine p_lt ?_)
  | (with_reducible refine p_le ?_)
  | (with_reducible refine p_gt ?_)
  | (with_reducible refine p_ge ?_)
  | (with_reducible refine p_eq ?_)
  | (with_reducible refine p_ne ?_)
  | (with_reducible refine p_int ?_)
  | (with_reducible refine p_intB ?_)
  | (with_reducible refine p_abs ?_)
  | (with_reducible refine p_min2 ?_)
  | (with_reducible refine p_max2 ?_)
  | (with_reducible refine p_mkTup' ?_)
  | (with_reducible refine p_mkLst' ?_)
  | (with_reducible refine q_bnil ?_)
  | (with_reducible refine q_bcons ?_)
  | (with_reducible refine q_boxP ?_)
  | (with_reducible refine q_toP ?_)
  | (with_reducible refine q_toT ?_)
  | (with_reducible refine q_nil ?_)
  | (with_reducible refine q_cons ?_)
  | (with_reducible refine q_pnil ?_)
  | (with_reducible refine q_pcons ?_)
  | (with_reducible refine q_snil ?_)
  | (with_reducible refine q_scons ?_)
  | (with_reducible refine q_one ?_)
  | ((with_reducible apply q_put); exact rfl; (focus (first | assumption | exact fun _ z => nomatch z)); dsimp only [List.set])
  | ((with_reducible apply k_ok); exact rfl)
  | ((with_reducible apply p_idxD); exact rfl; exact rfl; (focus (first | exact Seal.lG | exact Seal.lM | exact Seal.lT | exact Pot.lG | exact Pot.lM | exact Pot.lT | exact Deck.lG | exact Deck.lM | exact Deck.lT)))
  | ((with_reducible apply q_setKey); exact rfl; exact rfl; (focus (show 3 < 16777216; omega)); exact rfl; (focus (first | (rw [Seal.pM]; exact put_ref rfl rfl) | (rw [Seal.pT]; exact put_ref rfl rfl) | (rw [Pot.pM]; exact put_ref rfl rfl) | (rw [Pot.pT]; exact put_ref rfl rfl) | (rw [Deck.pM]; exact put_ref rfl rfl) | (rw [Deck.pT]; exact put_ref rfl rfl) | (rw [Deck.pM]; exact rfl) | (rw [Deck.pT]; exact rfl))))
  | (simp only [List.cons_append, List.nil_append])
  | ((with_reducible apply p_idx); exact rfl; exact rfl)
  | ((with_reducible apply q_toR); exact rfl)
  | ((with_reducible apply q_boxR); exact rfl)
  | (with_reducible refine l_int ?_)
  | (with_reducible refine l_tup ?_)
  | (with_reducible refine l_tmp ?_)
  | (with_reducible refine l_nil ?_)
  | (with_reducible refine p_isN ?_)
  | (with_reducible refine p_notN ?_)
  | (with_reducible refine p_neB ?_)
  | (with_reducible refine p_eqB ?_)
  | (with_reducible refine p_band ?_)
  | (refine And.intro (Nat.le_of_ble_eq_true rfl) ?_)
  | (with_reducible refine q_boxT ?_)
  | (with_reducible refine p_mkDct' ?_)
  | (with_reducible refine e_chkC ?_)
  | ((with_reducible apply e_chkV); exact rfl)
  | dsimp only))
theorem lprime_draw (k : Nat) (ns gs : List Int) (x t : Int) (rest : List DO) (most : Int) (hm : most ∈ [(19 : Int), 100, 997]) (hz : gs.length ≤ 63) (t0 : 0 ≤ t) (t1 : t < 2 ^ 60) :
    ∃ (p : Nat) (gs' : List Int) (x' t' : Int), p ∈ oddP ∧ gs'.length ≤ 63 ∧ 0 ≤ t' ∧ t' ≤ t + 1 ∧ callF Pf (k + 2) 9 [.pv (.ref 2), .pv (.int most)] (Pot.D ns gs x t rest) = .ok (.pv (.int p)) (Pot.D ns gs' x' t' rest) := by
  suffices hs : Ev (evSs (callF Pf (k + 1)) c__law_prime.body) ⟨startE c__law_prime [.pv (.ref 2), .pv (.int most)], Pot.D ns gs x t rest⟩ fun f st => ∃ (p : Nat) (gs' : List Int) (x' t' : Int), p ∈ oddP ∧ gs'.length ≤ 63 ∧ 0 ≤ t' ∧ t' ≤ t + 1 ∧ finC (Pot.D ns gs x t rest) (.ok f st) = .ok (.pv (.int p)) (Pot.D ns gs' x' t' rest) by
    obtain ⟨f, st, e, p, gs', x', t', a, b, c, d, q⟩ := hs
    exact ⟨p, gs', x', t', a, b, c, d, call_of (d := c__law_prime) rfl rfl ⟨f, st, e, q⟩⟩
  show Ev (evSs _ c__law_prime.body) ⟨[some (.pv (.ref 2)), some (.pv (.int most)), none], Pot.D ns gs x t rest⟩ _
  have hb : 1 ≤ (most - 1) / 2 ∧ (most - 1) / 2 ≤ 498 := by
    simp only [List.mem_cons, List.not_mem_nil, or_false] at hm
    rcases hm with rfl | rfl | rfl <;> decide
  obtain ⟨r, gs1, x1, t2, a1, b1, c1, d1, d2, hc1⟩ := Pot.draw_ok (Pf := Pf) (ix := 6) rfl k ns gs x t rest ((most - 1) / 2) (by omega) (by omega) hz t0 (by omega)
  obtain ⟨r, rfl⟩ := Int.eq_ofNat_of_zero_le a1
  unfold c__law_prime
  dsimp only
  refine s_asg ?_
  k_go
  refine ev_call hc1 ?_
  k_go
  refine s_wh ?_
  refine wh_inv (I := fun μ st => ∃ p : Nat, st = ⟨[some (.pv (.ref 2)), some (.pv (.int most)), some (.pv (.int p))], Pot.D ns gs1 x1 t2 rest⟩ ∧ 3 ≤ p ∧ p ≤ 997 ∧ p % 2 = 1 ∧ p = μ) (3 + 2 * r) (by unfold wFuel; omega) ⟨3 + 2 * r, by rw [show ((3 + 2 * r : Nat) : Int) = 3 + 2 * (r : Int) by omega], by omega, by omega, by omega, rfl⟩ ?_
  rintro μ st ⟨p, rfl, p1, p2, p3, rfl⟩
  obtain ⟨b, hb1, hb2, hcb⟩ := lprime_ok k (Pot.D ns gs1 x1 t2 rest) p p1 (by omega)
  refine t_not ?_
  refine t_call ?_
  k_go
  refine ev_call hcb ?_
  k_go
  refine ⟨fun z => ?_, fun z => ?_⟩
  · have z : b = true := by simpa using z
    refine k_nx (s' := ⟨[some (.pv (.ref 2)), some (.pv (.int most)), some (.pv (.int p))], Pot.D ns gs1 x1 t2 rest⟩) rfl ?_
    refine s_ret ?_
    k_go
    exact ⟨p, gs1, x1, t2, ok_of (hb1 z) p3 p1 p2, c1, d1, d2, finc_pv rfl⟩
  · have z : b = false := by simpa using z
    have n3 : p ≠ 3 := fun e => by rw [hb2 e] at z; cases z
    refine s_asg ?_
    k_go
    refine ⟨fun _ => ?_, fun z => absurd (of_decide_eq_false z) (by omega)⟩
    k_go
    refine s_nil ?_
    exact ⟨p - 2, by omega, p - 2, by rw [show ((p - 2 : Nat) : Int) = (p : Int) - 2 by omega], by omega, by omega, by omega, rfl⟩
theorem look_map (k k' : DV.Key) (v : PV) : ∀ kvs : List (DV.Key × PV), look (kvs.map fun kv => if kv.1 = k then (kv.1, v) else kv) k' = if k' = k then (look kvs k').map (fun _ => v) else look kvs k'
  | [] => by unfold look; split <;> rfl
  | z :: kvs => by
    have ih := look_map k k' v kvs
    have st : ∀ (a : DV.Key × PV) (r : List (DV.Key × PV)), look (a :: r) k' = if a.1 = k' then some a.2 else look r k' := fun a r => by
      show ((a :: r).find? fun kv => decide (kv.1 = k')).map (·.2) = _
      rw [List.find?_cons]
      by_cases e : a.1 = k'
      · rw [if_pos e, decide_eq_true e]; rfl
      · rw [if_neg e, decide_eq_false e]; rfl
    rw [List.map_cons, st, st, ih]
    by_cases c : z.1 = k
    · rw [if_pos c]
      by_cases e : z.1 = k'
      · rw [if_pos e, if_pos (e.symm.trans c), if_pos e]; rfl
      · rw [if_neg e, if_neg e]
    · rw [if_neg c]
      by_cases e : z.1 = k'
      · rw [if_pos e, if_neg fun w => c (e.trans w), if_pos e]
      · rw [if_neg e, if_neg e]
theorem look_put (kvs : List (DV.Key × PV)) (k k' : DV.Key) (v : PV) : look (put kvs k v) k' = if k' = k then some v else look kvs k' := by
  unfold put
  split
  · rename_i h
    rw [look_map]
    by_cases c : k' = k
    · rw [if_pos c, if_pos c, c]
      obtain ⟨kv, h1, h2⟩ := List.any_eq_true.mp h
      unfold look
      cases e : kvs.find? fun kv => decide (kv.1 = k) with
      | none => exact absurd h2 (List.find?_eq_none.mp e kv h1)
      | some y => rfl
    · rw [if_neg c, if_neg c]
  · rename_i h
    unfold look
    rw [List.find?_append]
    by_cases c : k' = k
    · rw [if_pos c, c]
      have : (kvs.find? fun kv => decide (kv.1 = k)) = none := List.find?_eq_none.mpr fun kv h1 h2 => h (List.any_eq_true.mpr ⟨kv, h1, h2⟩)
      rw [this, List.find?_cons, decide_eq_true rfl]; rfl
    · rw [if_neg c, List.find?_cons, decide_eq_false fun z => c z.symm]
      cases kvs.find? fun kv => decide (kv.1 = k') <;> rfl
theorem inl_iff (a b : Nat) : (Sum.inl (a : Int) : DV.Key) = Sum.inl (b : Int) ↔ a = b := by
  constructor
  · intro h
    have := Sum.inl.inj h
    omega
  · rintro rfl; rfl
def sqKV (p : Nat) (L : List Nat) : List (DV.Key × PV) := L.map fun i => ((.inl (((i + 1) * (i + 1) % p : Nat) : Int), .int 1) : DV.Key × PV)
def sqPV (p : Nat) (L : List Nat) : List PV := L.map fun i => PV.tup [.int (((i + 1) * (i + 1) % p : Nat) : Int), .int 1]
theorem sq_pairs (p : Nat) : ∀ L : List Nat, pairsKV (sqPV p L) = some (sqKV p L)
  | [] => rfl
  | i :: L => by
    show (match pairKV (PV.tup [.int (((i + 1) * (i + 1) % p : Nat) : Int), .int 1]), pairsKV (sqPV p L) with
      | some y, some ys => some (y :: ys)
      | _, _ => none) = _
    rw [sq_pairs p L]; rfl
theorem look_sq (p x : Nat) : ∀ (L : List Nat) (acc : List (DV.Key × PV)), look ((sqKV p L).foldl (fun acc kv => put acc kv.1 kv.2) acc) (.inl (x : Int)) = if (L.any fun y => (y + 1) * (y + 1) % p == x) = true then some (.int 1) else look acc (.inl (x : Int))
  | [], acc => rfl
  | i :: L, acc => by
    show look ((sqKV p L).foldl (fun acc kv => put acc kv.1 kv.2) (put acc (.inl (((i + 1) * (i + 1) % p : Nat) : Int)) (.int 1))) (.inl (x : Int)) = _
    rw [look_sq p x L, look_put, List.any_cons]
    cases L.any fun y => (y + 1) * (y + 1) % p == x with
    | true => rw [Bool.or_true]; rfl
    | false =>
      rw [Bool.or_false]
      by_cases c : (i + 1) * (i + 1) % p = x
      · rw [if_neg (by decide), if_pos ((inl_iff _ _).mpr c.symm), if_pos (beq_iff_eq.mpr c)]
      · rw [if_neg (by decide), if_neg fun z => c ((inl_iff _ _).mp z).symm, if_neg fun z => c (beq_iff_eq.mp z)]
theorem get_sq (p i : Nat) : (look (dictKV (sqKV p (List.range (p / 2)))) (.inl ((i + 1 : Nat) : Int))).getD (.int (-1)) = .int (s p (i + 1)) := by
  unfold dictKV
  rw [look_sq]
  have e : s p (i + 1) = if sqB p (i + 1) = true then 1 else -1 := if_neg (by omega)
  rw [e]
  unfold sqB
  split <;> rfl
theorem sL_cons {p : Nat} (h : 1 ≤ p) : PV.int 0 :: (List.range (p - 1)).map (fun i => PV.int (s p (i + 1))) = sL p := by
  obtain ⟨q, rfl⟩ : ∃ q, p = q + 1 := ⟨p - 1, by omega⟩
  show _ = (List.range (q + 1)).map fun t => PV.int (s (q + 1) t)
  rw [List.range_succ_eq_map, List.map_cons, List.map_map, s0]; rfl
theorem S_len {g : Nat → Int} {c : Nat} : ∀ n, (∀ i, i < n → (g i).natAbs ≤ c) → (S g n).natAbs ≤ n * c
  | 0, _ => by show (0 : Int).natAbs ≤ _; simp
  | n + 1, h => by
    have a := S_len n fun i hi => h i (by omega)
    have b := h n (by omega)
    show (S g n + g n).natAbs ≤ _
    rw [Nat.add_mul, Nat.one_mul]
    omega
theorem N_bd {g : Nat → Nat} {c : Nat} : ∀ n, (∀ i, i < n → g i ≤ c) → N g n ≤ n * c
  | 0, _ => Nat.zero_le _
  | n + 1, h => by
    have a := N_bd n fun i hi => h i (by omega)
    have b := h n (by omega)
    show N g n + g n ≤ _
    rw [Nat.add_mul, Nat.one_mul]
    omega
theorem Fl_bd {p m : Nat} (hp : 1 ≤ p) (h : p ≤ 997) (hm : m ≤ 1000000) : Fl p m ≤ 498 * 1000000 := by
  have : Fl p m ≤ p / 2 * m := N_bd _ fun i hi => Nat.div_le_of_le_mul (Nat.mul_le_mul_right _ (by omega))
  exact Nat.le_trans this (Nat.mul_le_mul (by omega) hm)
theorem int_sm {i : Int} (h : i.natAbs < 2 ^ 200) : small (.int i) = true := by
  simp only [small]
  refine decide_eq_true ?_
  by_cases z : i.natAbs = 0
  · rw [z]; decide
  · have := (Nat.log2_lt z).mpr h; omega
theorem two_small {i : Int} (h : i.natAbs < 2 ^ 200) : small (.list [.int i, .int i]) = true := by
  have := int_sm h
  simp only [small, smallAll] at this ⊢
  simp only [this, Bool.and_self]
def Goal (ns : List Int) : DV.Fl → DS → Prop := fun f s' => ∃ hf, finC (scriptH ns) (.ok f s') = .ok (.pv (.bl true)) hf
theorem fin_bl {ns : List Int} {env : List (Option SV)} {h : List DO} {b : Bool} (e : b = true) : Goal ns (.rt (.pv (.bl b))) ⟨env, h⟩ := by
  subst e
  exact ⟨trunc (scriptH ns) (.pv (.bl true)) h, rfl⟩
def lawFor : List DV.S := match c_law.body[1]? with
  | some (DV.S.forS _ _ _ b) => b
  | _ => []
def againFor : List DV.S := match lawFor[4]? with
  | some (DV.S.forS _ _ _ b) => b
  | _ => []
end K58
namespace K58
open PySem PySem.Spec PyProof.Rows L2 DV DV.Num
local macro_rules | `(tactic| k_steps) => `(tactic| repeat (first
  | (with_reducible refine e_con ?_)
  | ((with_reducible apply e_var); exact rfl)
  | ((with_reducible apply e_varO); exact rfl)
  | (with_reducible refine e_prim ?_)
  | (with_reducible refine e_nil ?_)
  | (with_reducible refine e_cons ?_)
  | (with_reducible refine e_call ?_)
  | (with_reducible refine e_meth ?_)
  | (with_reducible refine e_iff ?_)
  | (with_reducible refine t_prim ?_)
  | (with_reducible refine t_var ?_)
  | (with_reducible refine t_not ?_)
  | (with_reducible refine tr_bl ?_)
  | (with_reducible refine tr_int ?_)
  | (with_reducible refine p_add ?_)
  | (with_reducible refine p_sub ?_)
  | ((with_reducible apply p_mul); (focus (first | exact rfl | assumption | exact mulOk_r (by decide) | exact mulOk_mod (by decide) (by decide))))
  | ((with_reducible apply p_fdiv); (focus (first | exact rfl | assumption | exact mulOk_r (by decide) | exact mulOk_mod (by decide) (by decide))))
  | ((with_reducible apply p_mod); (focus (first | decide | assumption)))
  | ((with_reducible apply p_pow); (focus (first | exact rfl | assumption | exact mulOk_r (by decide) | exact mulOk_mod (by decide) (by decide))))
  | (with_reducible refine p_neg ?_)
  | (with_reducible refine p_lt ?_)
  | (with_reducible refine p_le ?_)
  | (with_reducible refine p_gt ?_)
  | (with_reducible refine p_ge ?_)
  | (with_reducible refine p_eq ?_)
  | (with_reducible refine p_ne ?_)
  | (with_reducible refine p_int ?_)
  | (with_reducible refine p_intB ?_)
  | (with_reducible refine p_abs ?_)
  | (with_reducible refine p_min2 ?_)
  | (with_reducible refine p_max2 ?_)
  | (with_reducible refine p_mkTup' ?_)
  | (with_reducible refine p_mkLst' ?_)
  | (with_reducible refine q_bnil ?_)
  | (with_reducible refine q_bcons ?_)
  | (with_reducible refine q_boxP ?_)
  | (with_reducible refine q_toP ?_)
  | (with_reducible refine q_toT ?_)
  | (with_reducible refine q_nil ?_)
  | (with_reducible refine q_cons ?_)
  | (with_reducible refine q_pnil ?_)
  | (with_reducible refine q_pcons ?_)
  | (with_reducible refine q_snil ?_)
  | (with_reducible refine q_scons ?_)
  | (with_reducible refine q_one ?_)
  | ((with_reducible apply q_put); exact rfl; (focus (first | assumption | exact fun _ z => nomatch z)); dsimp only [List.set])
  | (with_reducible refine s_asg ?_)
  | (with_reducible refine s_par ?_)
  | (with_reducible refine s_expr ?_)
  | (with_reducible refine s_ret ?_)
  | (with_reducible refine s_retN ?_)
  | (with_reducible refine s_pass ?_)
  | (with_reducible refine s_ite ?_)
  | (with_reducible refine s_setKey ?_)
  | (with_reducible refine s_setIx ?_)
  | (with_reducible refine s_wh ?_)
  | (with_reducible refine s_nil ?_)
  | ((with_reducible apply k_ok); exact rfl)
  | ((with_reducible apply p_idxD); exact rfl; exact rfl; (focus (first | exact Seal.lG | exact Seal.lM | exact Seal.lT | exact Pot.lG | exact Pot.lM | exact Pot.lT | exact Deck.lG | exact Deck.lM | exact Deck.lT)))
  | ((with_reducible apply q_setKey); exact rfl; exact rfl; (focus (show 3 < 16777216; omega)); exact rfl; (focus (first | (rw [Seal.pM]; exact put_ref rfl rfl) | (rw [Seal.pT]; exact put_ref rfl rfl) | (rw [Pot.pM]; exact put_ref rfl rfl) | (rw [Pot.pT]; exact put_ref rfl rfl) | (rw [Deck.pM]; exact put_ref rfl rfl) | (rw [Deck.pT]; exact put_ref rfl rfl) | (rw [Deck.pM]; exact rfl) | (rw [Deck.pT]; exact rfl))))
  | (simp only [List.cons_append, List.nil_append])
  | ((with_reducible apply p_idx); exact rfl; exact rfl)
  | ((with_reducible apply q_toR); exact rfl)
  | ((with_reducible apply q_boxR); exact rfl)
  | (with_reducible refine l_int ?_)
  | (with_reducible refine l_tup ?_)
  | (with_reducible refine l_tmp ?_)
  | (with_reducible refine l_nil ?_)
  | (with_reducible refine p_isN ?_)
  | (with_reducible refine p_notN ?_)
  | (with_reducible refine p_neB ?_)
  | (with_reducible refine p_eqB ?_)
  | (with_reducible refine p_band ?_)
  | (refine And.intro (Nat.le_of_ble_eq_true rfl) ?_)
  | (with_reducible refine q_boxT ?_)
  | (with_reducible refine p_mkDct' ?_)
  | (with_reducible refine e_chkC ?_)
  | ((with_reducible apply e_chkV); exact rfl)
  | dsimp only))
local macro_rules | `(tactic| k_go) => `(tactic| repeat (first
  | (with_reducible refine e_con ?_)
  | ((with_reducible apply e_var); exact rfl)
  | ((with_reducible apply e_varO); exact rfl)
  | (with_reducible refine e_prim ?_)
  | (with_reducible refine e_nil ?_)
  | (with_reducible refine e_cons ?_)
  | (with_reducible refine e_call ?_)
  | (with_reducible refine e_meth ?_)
  | (with_reducible refine e_iff ?_)
  | (with_reducible refine t_prim ?_)
  | (with_reducible refine t_var ?_)
  | (with_reducible refine t_not ?_)
  | (with_reducible refine tr_bl ?_)
  | (with_reducible refine tr_int ?_)
  | (with_reducible refine p_add ?_)
  | (with_reducible refine p_sub ?_)
  | ((with_reducible apply p_mul); (focus (first | exact rfl | assumption | exact mulOk_r (by decide) | exact mulOk_mod (by decide) (by decide))))
  | ((with_reducible apply p_fdiv); (focus (first | exact rfl | assumption | exact mulOk_r (by decide) | exact mulOk_mod (by decide) (by decide))))
  | ((with_reducible apply p_mod); (focus (first | decide | assumption)))
  | ((with_reducible apply p_pow); (focus (first | exact rfl | assumption | exact mulOk_r (by decide) | exact mulOk_mod (by decide) (by decide))))
  | (with_reducible refine p_neg ?_)
  | (with_reducible refine p_lt ?_)
  | (with_reducible refine p_le ?_)
  | (with_reducible refine p_gt ?_)
  | (with_reducible refine p_ge ?_)
  | (with_reducible refine p_eq ?_)
  | (with_reducible refine p_ne ?_)
  | (with_reducible refine p_int ?_)
  | (with_reducible refine p_intB ?_)
  | (with_reducible refine p_abs ?_)
  | (with_reducible refine p_min2 ?_)
  | (with_reducible refine p_max2 ?_)
  | (with_reducible refine p_mkTup' ?_)
  | (with_reducible refine p_mkLst' ?_)
  | (with_reducible refine q_bnil ?_)
  | (with_reducible refine q_bcons ?_)
  | (with_reducible refine q_boxP ?_)
  | (with_reducible refine q_toP ?_)
  | (with_reducible refine q_toT ?_)
  | (with_reducible refine q_nil ?_)
  | (with_reducible refine q_cons ?_)
  | (with_reducible refine q_pnil ?_)
  | (with_reducible refine q_pcons ?_)
  | (with_reducible refine q_snil ?_)
  | (with_reducible refine q_scons ?_)
  | (with_reducible refine q_one ?_)
  | ((with_reducible apply q_put); exact rfl; (focus (first | assumption | exact fun _ z => nomatch z)); dsimp only [List.set])
  | ((with_reducible apply k_ok); exact rfl)
  | ((with_reducible apply p_idxD); exact rfl; exact rfl; (focus (first | exact Seal.lG | exact Seal.lM | exact Seal.lT | exact Pot.lG | exact Pot.lM | exact Pot.lT | exact Deck.lG | exact Deck.lM | exact Deck.lT)))
  | ((with_reducible apply q_setKey); exact rfl; exact rfl; (focus (show 3 < 16777216; omega)); exact rfl; (focus (first | (rw [Seal.pM]; exact put_ref rfl rfl) | (rw [Seal.pT]; exact put_ref rfl rfl) | (rw [Pot.pM]; exact put_ref rfl rfl) | (rw [Pot.pT]; exact put_ref rfl rfl) | (rw [Deck.pM]; exact put_ref rfl rfl) | (rw [Deck.pT]; exact put_ref rfl rfl) | (rw [Deck.pM]; exact rfl) | (rw [Deck.pT]; exact rfl))))
  | (simp only [List.cons_append, List.nil_append])
  | ((with_reducible apply p_idx); exact rfl; exact rfl)
  | ((with_reducible apply q_toR); exact rfl)
  | ((with_reducible apply q_boxR); exact rfl)
  | (with_reducible refine l_int ?_)
  | (with_reducible refine l_tup ?_)
  | (with_reducible refine l_tmp ?_)
  | (with_reducible refine l_nil ?_)
  | (with_reducible refine p_isN ?_)
  | (with_reducible refine p_notN ?_)
  | (with_reducible refine p_neB ?_)
  | (with_reducible refine p_eqB ?_)
  | (with_reducible refine p_band ?_)
  | (refine And.intro (Nat.le_of_ble_eq_true rfl) ?_)
  | (with_reducible refine q_boxT ?_)
  | (with_reducible refine p_mkDct' ?_)
  | (with_reducible refine e_chkC ?_)
  | ((with_reducible apply e_chkV); exact rfl)
  | dsimp only))
def Turn (ns : List Int) (i : Nat) (st : DS) : Prop := ∃ (gs : List Int) (x t : Int) (rest : List DO) (e2 e3 e4 e5 e6 e7 e8 e9 e10 e11 e12 : Option SV), gs.length ≤ 63 ∧ 0 ≤ t ∧ t ≤ 100 * i ∧ NL e2 ∧ NL e3 ∧ NL e4 ∧ NL e5 ∧ NL e6 ∧ NL e7 ∧ NL e8 ∧ NL e9 ∧ NL e10 ∧ NL e11 ∧ NL e12 ∧
  st = ⟨[some (.pv (.ref 0)), some (.pv (.ref 2)), e2, e3, e4, e5, e6, e7, e8, e9, e10, e11, e12, none, none], Pot.D ns gs x t rest⟩
section
variable (ns : List Int)
theorem tD (gs : List Int) (x t : Int) (rest : List DO) (i : Nat) (hi : i < 10) (p : Nat) (hp : p ∈ oddP) (hz : gs.length ≤ 63) (t0 : 0 ≤ t) (t1 : t ≤ 100 * i + 60) (e2 e4 e6 e7 e8 e9 e10 e11 e12 : Option SV) (n2 : NL e2) (n4 : NL e4) (n6 : NL e6) (n7 : NL e7) (n8 : NL e8) (n9 : NL e9) (n10 : NL e10) (n11 : NL e11) (n12 : NL e12) :
    Ev (evSs (callF Pf 2) (lawFor.drop 12)) ⟨[some (.pv (.ref 0)), some (.pv (.ref 2)), e2, some (.pv (.int p)), e4, some (.own (.lst (sL p))), e6, e7, e8, e9, e10, e11, e12, none, none], Pot.D ns gs x t rest⟩ fun f s2 => f = .nx ∧ Turn ns (i + 1) s2 := by
  obtain ⟨o, _⟩ := ok_in hp
  have odd := o.odd
  have h3 := o.three
  obtain ⟨v, gs1, x1, t2, hv, c1, d1, d2, hc1⟩ := Pot.pick_own (Pf := Pf) (dr := 6) (ix := 7) rfl rfl 0 ns gs x t rest [PV.int 19, PV.int 100, PV.int 997] (by show 1 ≤ 3; omega) (by show 3 < 2 ^ 64; omega) hz t0 (by omega)
  obtain ⟨c, rfl, hc⟩ : ∃ m : Int, v = .int m ∧ m ∈ [(19 : Int), 100, 997] := by
    simp only [List.mem_cons, List.not_mem_nil, or_false] at hv
    rcases hv with rfl | rfl | rfl
    · exact ⟨_, rfl, by decide⟩
    · exact ⟨_, rfl, by decide⟩
    · exact ⟨_, rfl, by decide⟩
  obtain ⟨q, gs2, x2, t3, hq, c2, d3, d4, hc2⟩ := lprime_draw 0 ns gs1 x1 t2 rest c hc c1 d1 (by omega)
  obtain ⟨o2, _⟩ := ok_in hq
  have odd2 := o2.odd
  have h32 := o2.three
  have pa1 := parts_ok 1 (Pot.D ns gs2 x2 t3 rest) p q o
  have pa2 := parts_ok 1 (Pot.D ns gs2 x2 t3 rest) q p o2
  have done : Turn ns (i + 1) ⟨[some (.pv (.ref 0)), some (.pv (.ref 2)), e2, some (.pv (.int p)), e4, some (.own (.lst (sL p))), e6, e7, e8, e9, e10, e11, some (.pv (.int q)), none, none], Pot.D ns gs2 x2 t3 rest⟩ :=
    ⟨gs2, x2, t3, rest, e2, some (.pv (.int p)), e4, some (.own (.lst (sL p))), e6, e7, e8, e9, e10, e11, some (.pv (.int q)), c2, d3, by omega, n2, (fun _ z => nomatch z), n4, (fun _ z => nomatch z), n6, n7, n8, n9, n10, n11, (fun _ z => nomatch z), rfl⟩
  simp only [lawFor, c_law, List.getElem?_cons_succ, List.getElem?_cons_zero, List.drop_succ_cons, List.drop_zero]
  refine s_asg ?_
  k_go
  refine ev_call hc1 ?_
  k_go
  refine ev_call hc2 ?_
  k_go
  refine s_ite ?_
  refine t_and ?_
  k_go
  refine ⟨fun d => ?_, fun d => ⟨(fun z => by simp at z), fun _ => ?_⟩⟩
  · have hne : p ≠ q := fun e => by subst e; simp at d
    have la := lattice o o2 hne
    have eq1 : ((Fl p q : Nat) : Int) + ((Fl q p : Nat) : Int) = ((p : Int) - 1) / 2 * (((q : Int) - 1) / 2) := by
      rw [← Int.natCast_add, la, Int.natCast_mul, show ((p : Int) - 1) / 2 = ((p / 2 : Nat) : Int) by omega, show ((q : Int) - 1) / 2 = ((q / 2 : Nat) : Int) by omega]
    have hm : mulOk (((p : Int) - 1) / 2) (((q : Int) - 1) / 2) = true := mulOk_l (by have := o.top; omega)
    k_go
    refine ev_call pa1 ?_
    k_go
    refine ev_call pa2 ?_
    k_go
    rw [eq1]
    refine ⟨fun z => by simp at z, fun _ => ?_⟩
    refine s_nil ?_
    exact ⟨rfl, done⟩
  · refine s_nil ?_
    exact ⟨rfl, done⟩
theorem tC (gs : List Int) (x t : Int) (rest : List DO) (i : Nat) (hi : i < 10) (p : Nat) (hp : p ∈ oddP) (hz : gs.length ≤ 63) (t0 : 0 ≤ t) (t1 : t ≤ 100 * i + 50) (e2 e4 e6 e7 e8 e9 e10 e11 e12 : Option SV) (n2 : NL e2) (n4 : NL e4) (n6 : NL e6) (n7 : NL e7) (n8 : NL e8) (n9 : NL e9) (n10 : NL e10) (n11 : NL e11) (n12 : NL e12) :
    Ev (evSs (callF Pf 2) (lawFor.drop 8)) ⟨[some (.pv (.ref 0)), some (.pv (.ref 2)), e2, some (.pv (.int p)), e4, some (.own (.lst (sL p))), e6, e7, e8, e9, e10, e11, e12, none, none], Pot.D ns gs x t rest⟩ fun f s2 => f = .nx ∧ Turn ns (i + 1) s2 := by
  have p6 : (10 : Int) ^ Int.toNat 6 = 1000000 := by decide
  obtain ⟨o, _⟩ := ok_in hp
  have odd := o.odd
  have h3 := o.three
  have ht := o.top
  have hpos : (0 : Int) < (p : Int) := by omega
  obtain ⟨v, gs1, x1, t2, hv, c1, d1, d2, hc1⟩ := Pot.pick_own (Pf := Pf) (dr := 6) (ix := 7) rfl rfl 0 ns gs x t rest [PV.int 9, PV.int 999, PV.int 1000000] (by show 1 ≤ 3; omega) (by show 3 < 2 ^ 64; omega) hz t0 (by omega)
  obtain ⟨c, rfl, h1, h2⟩ : ∃ m : Int, v = .int m ∧ 1 ≤ m ∧ m ≤ 1000000 := by
    simp only [List.mem_cons, List.not_mem_nil, or_false] at hv
    rcases hv with rfl | rfl | rfl
    · exact ⟨_, rfl, by omega, by omega⟩
    · exact ⟨_, rfl, by omega, by omega⟩
    · exact ⟨_, rfl, by omega, by omega⟩
  obtain ⟨r, gs2, x2, t3, a2, b2, c2, d3, d4, hc2⟩ := Pot.draw_ok (Pf := Pf) (ix := 6) rfl 1 ns gs1 x1 t2 rest c (by omega) (by omega) c1 d1 (by omega)
  obtain ⟨m, rfl⟩ : ∃ m : Nat, r = (m : Int) - 1 := ⟨(r + 1).toNat, by omega⟩
  have pa := parts_ok 1 (Pot.D ns gs2 x2 t3 rest) p m o
  have fb := Fl_bd (p := p) (m := m) (by omega) ht (by omega)
  have td := tD ns gs2 x2 t3 rest i hi p hp c2 d3 (by omega) e2 e4 e6 e7 e8 (some (.pv (.int ((Fl p m : Nat) : Int)))) e10 (some (.pv (.int (m : Int)))) e12 n2 n4 n6 n7 n8 (fun _ z => nomatch z) n10 (fun _ z => nomatch z) n12
  have sm := two_small (i := ((Fl p m : Nat) : Int)) (by rw [Int.natAbs_natCast]; omega)
  simp only [lawFor, c_law, List.getElem?_cons_succ, List.getElem?_cons_zero, List.drop_succ_cons, List.drop_zero] at td ⊢
  refine s_asg ?_
  k_go
  rw [p6]
  refine ev_call hc1 ?_
  k_go
  refine ev_call hc2 ?_
  k_go
  rw [show (1 : Int) + ((m : Int) - 1) = (m : Int) by omega]
  refine s_asg ?_
  k_go
  refine e_comp ?_
  k_go
  refine i_rng2 (by rw [rngOk_of (by omega) (by omega), rngOk_of (by omega) (by omega)]; rfl) ?_
  rw [show (((p : Int) + 1) / 2 - 1).toNat = p / 2 by omega, DV.rangeL_map]
  refine ⟨by rw [List.length_map, List.length_range]; show _ ≤ 16777216; omega, ?_⟩
  refine l_int (l_int (l_nil ?_))
  refine comp_fm (s0 := ⟨[some (.pv (.ref 0)), some (.pv (.ref 2)), e2, some (.pv (.int p)), e4, some (.own (.lst (sL p))), e6, e7, e8, e9, e10, some (.pv (.int (m : Int))), e12, none, none], Pot.D ns gs2 x2 t3 rest⟩) (flF p m) rfl rfl (fun y hy => ?_) ?_
  · obtain ⟨j, hj, rfl⟩ := List.mem_map.mp hy
    have hj := List.mem_range.mp hj
    have hm : mulOk (1 + (j : Int)) (m : Int) = true := mulOk_l (by omega)
    have hdv : divOk (p : Int) = true := divOk_n (by omega) (by omega)
    k_go
    refine c_none ⟨fun _ => ⟨.int ((1 + (j : Int)) * (m : Int) / (p : Int)), rfl, ?_⟩, fun z => nomatch z⟩
    k_go
    refine ⟨?_, ?_, ?_⟩ <;> first | exact True.intro | rfl
  rw [flF_map]
  show Ev _ ⟨[some (.pv (.ref 0)), some (.pv (.ref 2)), e2, some (.pv (.int p)), e4, some (.own (.lst (sL p))), e6, e7, e8, e9, e10, some (.pv (.int (m : Int))), e12, none, none], Pot.D ns gs2 x2 t3 rest⟩ _
  k_go
  refine p_sumQ rfl (intsOf_map _) ?_
  rw [Fl_sum]
  k_go
  refine s_ite ?_
  k_go
  refine ev_call pa ?_
  k_go
  refine e_callK ?_
  k_go
  refine ⟨[.pv (.int p), .pv (.int m)], rfl, ?_⟩
  k_go
  refine ev_call pa ?_
  k_go
  refine p_repr (d := .list [.int ((Fl p m : Nat) : Int), .int ((Fl p m : Nat) : Int)]) rfl sm (Nat.le_of_ble_eq_true rfl) (Nat.le_of_ble_eq_true rfl) ?_
  k_go
  refine p_repr (d := .list [.int ((Fl p m : Nat) : Int), .int ((Fl p m : Nat) : Int)]) rfl sm (Nat.le_of_ble_eq_true rfl) (Nat.le_of_ble_eq_true rfl) ?_
  k_go
  refine p_neSame sm rfl ?_
  k_go
  refine ⟨(fun z => nomatch z), fun _ => ?_⟩
  refine s_ite ?_
  refine t_and ?_
  k_go
  refine ⟨fun d => ?_, fun d => ⟨(fun z => by simp at z), fun _ => td⟩⟩
  have d : m % 2 = 1 := by have := of_decide_eq_true d; omega
  refine t_and ?_
  k_go
  refine ⟨fun d2 => ?_, fun d => ⟨(fun z => by simp at z), fun _ => td⟩⟩
  have d2 : m % p ≠ 0 := by
    have := of_decide_eq_true d2
    rw [← Int.natCast_emod] at this
    omega
  have sp := sign_parts o d2 d
  have lt := Nat.mod_lt m (show 0 < p by omega)
  k_go
  rw [← Int.natCast_emod]
  refine p_idx rfl (L2.atI_nat (fnL_get lt)) ?_
  k_go
  rw [sp, Int.natCast_emod]
  refine ⟨fun z => by simp at z, fun _ => td⟩
end
end K58
namespace K58
open PySem PySem.Spec PyProof.Rows L2 DV DV.Num
local macro_rules | `(tactic| k_steps) => `(tactic| repeat (first
  | (with_reducible refine e_con ?_)
  | ((with_reducible apply e_var); exact rfl)
  | ((with_reducible apply e_varO); exact rfl)
  | (with_reducible refine e_prim ?_)
  | (with_reducible refine e_nil ?_)
  | (with_reducible refine e_cons ?_)
  | (with_reducible refine e_call ?_)
  | (with_reducible refine e_meth ?_)
  | (with_reducible refine e_iff ?_)
  | (with_reducible refine t_prim ?_)
  | (with_reducible refine t_var ?_)
  | (with_reducible refine t_not ?_)
  | (with_reducible refine tr_bl ?_)
  | (with_reducible refine tr_int ?_)
  | (with_reducible refine p_add ?_)
  | (with_reducible refine p_sub ?_)
  | ((with_reducible apply p_mul); (focus (first | exact rfl | assumption | exact mulOk_r (by decide) | exact mulOk_mod (by decide) (by decide))))
  | ((with_reducible apply p_fdiv); (focus (first | exact rfl | assumption | exact mulOk_r (by decide) | exact mulOk_mod (by decide) (by decide))))
  | ((with_reducible apply p_mod); (focus (first | decide | assumption)))
  | ((with_reducible apply p_pow); (focus (first | exact rfl | assumption | exact mulOk_r (by decide) | exact mulOk_mod (by decide) (by decide))))
  | (with_reducible refine p_neg ?_)
  | (with_reducible refine p_lt ?_)
  | (with_reducible refine p_le ?_)
  | (with_reducible refine p_gt ?_)
  | (with_reducible refine p_ge ?_)
  | (with_reducible refine p_eq ?_)
  | (with_reducible refine p_ne ?_)
  | (with_reducible refine p_int ?_)
  | (with_reducible refine p_intB ?_)
  | (with_reducible refine p_abs ?_)
  | (with_reducible refine p_min2 ?_)
  | (with_reducible refine p_max2 ?_)
  | (with_reducible refine p_mkTup' ?_)
  | (with_reducible refine p_mkLst' ?_)
  | (with_reducible refine q_bnil ?_)
  | (with_reducible refine q_bcons ?_)
  | (with_reducible refine q_boxP ?_)
  | (with_reducible refine q_toP ?_)
  | (with_reducible refine q_toT ?_)
  | (with_reducible refine q_nil ?_)
  | (with_reducible refine q_cons ?_)
  | (with_reducible refine q_pnil ?_)
  | (with_reducible refine q_pcons ?_)
  | (with_reducible refine q_snil ?_)
  | (with_reducible refine q_scons ?_)
  | (with_reducible refine q_one ?_)
  | ((with_reducible apply q_put); exact rfl; (focus (first | assumption | exact fun _ z => nomatch z)); dsimp only [List.set])
  | (with_reducible refine s_asg ?_)
  | (with_reducible refine s_par ?_)
  | (with_reducible refine s_expr ?_)
  | (with_reducible refine s_ret ?_)
  | (with_reducible refine s_retN ?_)
  | (with_reducible refine s_pass ?_)
  | (with_reducible refine s_ite ?_)
  | (with_reducible refine s_setKey ?_)
  | (with_reducible refine s_setIx ?_)
  | (with_reducible refine s_wh ?_)
  | (with_reducible refine s_nil ?_)
  | ((with_reducible apply k_ok); exact rfl)
  | ((with_reducible apply p_idxD); exact rfl; exact rfl; (focus (first | exact Seal.lG | exact Seal.lM | exact Seal.lT | exact Pot.lG | exact Pot.lM | exact Pot.lT | exact Deck.lG | exact Deck.lM | exact Deck.lT)))
  | ((with_reducible apply q_setKey); exact rfl; exact rfl; (focus (show 3 < 16777216; omega)); exact rfl; (focus (first | (rw [Seal.pM]; exact put_ref rfl rfl) | (rw [Seal.pT]; exact put_ref rfl rfl) | (rw [Pot.pM]; exact put_ref rfl rfl) | (rw [Pot.pT]; exact put_ref rfl rfl) | (rw [Deck.pM]; exact put_ref rfl rfl) | (rw [Deck.pT]; exact put_ref rfl rfl) | (rw [Deck.pM]; exact rfl) | (rw [Deck.pT]; exact rfl))))
  | (simp only [List.cons_append, List.nil_append])
  | ((with_reducible apply p_idx); exact rfl; exact rfl)
  | ((with_reducible apply q_toR); exact rfl)
  | ((with_reducible apply q_boxR); exact rfl)
  | (with_reducible refine l_int ?_)
  | (with_reducible refine l_tup ?_)
  | (with_reducible refine l_tmp ?_)
  | (with_reducible refine l_nil ?_)
  | (with_reducible refine p_isN ?_)
  | (with_reducible refine p_notN ?_)
  | (with_reducible refine p_neB ?_)
  | (with_reducible refine p_eqB ?_)
  | (with_reducible refine p_band ?_)
  | (refine And.intro (Nat.le_of_ble_eq_true rfl) ?_)
  | (with_reducible refine q_boxT ?_)
  | (with_reducible refine p_mkDct' ?_)
  | (with_reducible refine e_chkC ?_)
  | ((with_reducible apply e_chkV); exact rfl)
  | dsimp only))
local macro_rules | `(tactic| k_go) => `(tactic| repeat (first
  | (with_reducible refine e_con ?_)
  | ((with_reducible apply e_var); exact rfl)
  | ((with_reducible apply e_varO); exact rfl)
  | (with_reducible refine e_prim ?_)
  | (with_reducible refine e_nil ?_)
  | (with_reducible refine e_cons ?_)
  | (with_reducible refine e_call ?_)
  | (with_reducible refine e_meth ?_)
  | (with_reducible refine e_iff ?_)
  | (with_reducible refine t_prim ?_)
  | (with_reducible refine t_var ?_)
  | (with_reducible refine t_not ?_)
  | (with_reducible refine tr_bl ?_)
  | (with_reducible refine tr_int ?_)
  | (with_reducible refine p_add ?_)
  | (with_reducible refine p_sub ?_)
  | ((with_reducible apply p_mul); (focus (first | exact rfl | assumption | exact mulOk_r (by decide) | exact mulOk_mod (by decide) (by decide))))
  | ((with_reducible apply p_fdiv); (focus (first | exact rfl | assumption | exact mulOk_r (by decide) | exact mulOk_mod (by decide) (by decide))))
  | ((with_reducible apply p_mod); (focus (first | decide | assumption)))
  | ((with_reducible apply p_pow); (focus (first | exact rfl | assumption | exact mulOk_r (by decide) | exact mulOk_mod (by decide) (by decide))))
  | (with_reducible refine p_neg ?_)
  | (with_reducible refine p_lt ?_)
  | (with_reducible refine p_le ?_)
  | (with_reducible refine p_gt ?_)
  | (with_reducible refine p_ge ?_)
  | (with_reducible refine p_eq ?_)
  | (with_reducible refine p_ne ?_)
  | (with_reducible refine p_int ?_)
  | (with_reducible refine p_intB ?_)
  | (with_reducible refine p_abs ?_)
  | (with_reducible refine p_min2 ?_)
  | (with_reducible refine p_max2 ?_)
  | (with_reducible refine p_mkTup' ?_)
  | (with_reducible refine p_mkLst' ?_)
  | (with_reducible refine q_bnil ?_)
  | (with_reducible refine q_bcons ?_)
  | (with_reducible refine q_boxP ?_)
  | (with_reducible refine q_toP ?_)
  | (with_reducible refine q_toT ?_)
  | (with_reducible refine q_nil ?_)
  | (with_reducible refine q_cons ?_)
  | (with_reducible refine q_pnil ?_)
  | (with_reducible refine q_pcons ?_)
  | (with_reducible refine q_snil ?_)
  | (with_reducible refine q_scons ?_)
  | (with_reducible refine q_one ?_)
  | ((with_reducible apply q_put); exact rfl; (focus (first | assumption | exact fun _ z => nomatch z)); dsimp only [List.set])
  | ((with_reducible apply k_ok); exact rfl)
  | ((with_reducible apply p_idxD); exact rfl; exact rfl; (focus (first | exact Seal.lG | exact Seal.lM | exact Seal.lT | exact Pot.lG | exact Pot.lM | exact Pot.lT | exact Deck.lG | exact Deck.lM | exact Deck.lT)))
  | ((with_reducible apply q_setKey); exact rfl; exact rfl; (focus (show 3 < 16777216; omega)); exact rfl; (focus (first | (rw [Seal.pM]; exact put_ref rfl rfl) | (rw [Seal.pT]; exact put_ref rfl rfl) | (rw [Pot.pM]; exact put_ref rfl rfl) | (rw [Pot.pT]; exact put_ref rfl rfl) | (rw [Deck.pM]; exact put_ref rfl rfl) | (rw [Deck.pT]; exact put_ref rfl rfl) | (rw [Deck.pM]; exact rfl) | (rw [Deck.pT]; exact rfl))))
  | (simp only [List.cons_append, List.nil_append])
  | ((with_reducible apply p_idx); exact rfl; exact rfl)
  | ((with_reducible apply q_toR); exact rfl)
  | ((with_reducible apply q_boxR); exact rfl)
  | (with_reducible refine l_int ?_)
  | (with_reducible refine l_tup ?_)
  | (with_reducible refine l_tmp ?_)
  | (with_reducible refine l_nil ?_)
  | (with_reducible refine p_isN ?_)
  | (with_reducible refine p_notN ?_)
  | (with_reducible refine p_neB ?_)
  | (with_reducible refine p_eqB ?_)
  | (with_reducible refine p_band ?_)
  | (refine And.intro (Nat.le_of_ble_eq_true rfl) ?_)
  | (with_reducible refine q_boxT ?_)
  | (with_reducible refine p_mkDct' ?_)
  | (with_reducible refine e_chkC ?_)
  | ((with_reducible apply e_chkV); exact rfl)
  | dsimp only))
def In (ns : List Int) (p i j : Nat) (e2 e4 e10 e11 e12 : Option SV) (st : DS) : Prop := ∃ (gs : List Int) (x t : Int) (rest : List DO) (e6 e7 e8 e9 : Option SV), gs.length ≤ 63 ∧ 0 ≤ t ∧ t ≤ 100 * i + 10 + 10 * j ∧ NL e6 ∧ NL e7 ∧ NL e8 ∧ NL e9 ∧
  st = ⟨[some (.pv (.ref 0)), some (.pv (.ref 2)), e2, some (.pv (.int p)), e4, some (.own (.lst (sL p))), e6, e7, e8, e9, e10, e11, e12, none, none], Pot.D ns gs x t rest⟩
def shG (p r : Nat) : PV → Option PV
  | .int x => some (.int (s p x.toNat * s p ((x.toNat + r) % p)))
  | _ => none
theorem shG_map (p r : Nat) : ∀ L : List Nat, (L.map fun (t : Nat) => PV.int (0 + (t : Int))).filterMap (shG p r) = (L.map fun t => s p t * s p ((t + r) % p)).map PV.int
  | [] => rfl
  | t :: L => by
    rw [List.map_cons, List.filterMap_cons_some (f := shG p r) (b := PV.int (s p t * s p ((t + r) % p))) (by
      show some (PV.int (s p (0 + (t : Int)).toNat * s p (((0 + (t : Int)).toNat + r) % p))) = _
      rw [show (0 + (t : Int)).toNat = t by omega]), shG_map p r L]; rfl
def sqF (p : Nat) : PV → Option PV
  | .int x => some (.tup [.int (x * x % (p : Int)), .int 1])
  | _ => none
theorem sqF_map (p : Nat) : ∀ L : List Nat, (L.map fun (i : Nat) => PV.int (1 + (i : Int))).filterMap (sqF p) = sqPV p L
  | [] => rfl
  | i :: L => by
    rw [List.map_cons, List.filterMap_cons_some (f := sqF p) (b := PV.tup [.int (((i + 1) * (i + 1) % p : Nat) : Int), .int 1]) (by
      show some (PV.tup [.int ((1 + (i : Int)) * (1 + (i : Int)) % (p : Int)), .int 1]) = _
      rw [show (1 : Int) + (i : Int) = ((i + 1 : Nat) : Int) by omega, ← Int.natCast_mul, ← Int.natCast_emod]), sqF_map p L]; rfl
def sgF (p : Nat) : PV → Option PV
  | .int x => some (.int (s p x.toNat))
  | _ => none
theorem sgF_map (p : Nat) : ∀ L : List Nat, (L.map fun (i : Nat) => PV.int (1 + (i : Int))).filterMap (sgF p) = L.map fun i => PV.int (s p (i + 1))
  | [] => rfl
  | i :: L => by
    rw [List.map_cons, List.filterMap_cons_some (f := sgF p) (b := PV.int (s p (i + 1))) (by
      show some (PV.int (s p (1 + (i : Int)).toNat)) = _
      rw [show (1 + (i : Int)).toNat = i + 1 by omega]), sgF_map p L]; rfl
theorem Sh_bd {p : Nat} (r : Nat) (h : p ≤ 997) : (Sh p r).natAbs < 2 ^ 200 := by
  unfold Sh
  split <;> omega
section
variable (ns : List Int)
theorem again_ok (gs : List Int) (x t : Int) (rest : List DO) (i j p : Nat) (hi : i < 10) (hj : j < 3) (hp : p ∈ oddP) (hz : gs.length ≤ 63) (t0 : 0 ≤ t) (t1 : t ≤ 100 * i + 10 + 10 * j) (e2 e4 e6 e7 e8 e9 e10 e11 e12 : Option SV) (n2 : NL e2) (n4 : NL e4) (n6 : NL e6) (n7 : NL e7) (n8 : NL e8) (n9 : NL e9) :
    Ev (evSs (callF Pf 2) againFor) ⟨[some (.pv (.ref 0)), some (.pv (.ref 2)), e2, some (.pv (.int p)), e4, some (.own (.lst (sL p))), e6, e7, e8, e9, e10, e11, e12, none, none], Pot.D ns gs x t rest⟩ fun f s2 => f = .nx ∧ In ns p i (j + 1) e2 e4 e10 e11 e12 s2 := by
  have p30 : (10 : Int) ^ Int.toNat 30 = 1000000000000000000000000000000 := by decide
  obtain ⟨o, _⟩ := ok_in hp
  have odd := o.odd
  have h3 := o.three
  have ht := o.top
  have hpos : (0 : Int) < (p : Int) := by omega
  obtain ⟨r1, gs1, x1, t2, a1, b1, c1, d1, d2, hc1⟩ := Pot.draw_ok (Pf := Pf) (ix := 6) rfl 1 ns gs x t rest (p : Int) (by omega) (by omega) hz t0 (by omega)
  obtain ⟨r2, gs2, x2, t3, a2, b2, c2, d3, d4, hc2⟩ := Pot.draw_ok (Pf := Pf) (ix := 6) rfl 1 ns gs1 x1 t2 rest 1000000000000000000000000000000 (by omega) (by omega) c1 d1 (by omega)
  obtain ⟨r3, gs3, x3, t4, a3, b3, c3, d5, d6, hc3⟩ := Pot.draw_ok (Pf := Pf) (ix := 6) rfl 1 ns gs2 x2 t3 rest 1000000000000000000000000000000 (by omega) (by omega) c2 d3 (by omega)
  obtain ⟨v, gs4, x4, t5, hv, c4, d7, d8, hc4⟩ := Pot.pick_own (Pf := Pf) (dr := 6) (ix := 7) rfl rfl 0 ns gs3 x3 t4 rest [PV.int 0, PV.int 1, PV.int (-1), PV.int (p : Int), PV.int (-(p : Int)), PV.int 2, PV.int r1, PV.int r2, PV.int (-r3)] (by show 1 ≤ 9; omega) (by show 9 < 2 ^ 64; omega) c3 d5 (by omega)
  obtain ⟨n, rfl⟩ : ∃ m : Int, v = .int m := by
    simp only [List.mem_cons, List.not_mem_nil, or_false] at hv
    rcases hv with rfl | rfl | rfl | rfl | rfl | rfl | rfl | rfl | rfl <;> exact ⟨_, rfl⟩
  obtain ⟨lt, em⟩ := rm_lt (p := p) (by omega) n
  have sg := sign_ok 0 (Pot.D ns gs4 x4 t5 rest) p n o
  have sh := shift_ok 0 (Pot.D ns gs4 x4 t5 rest) p n o
  have sm := two_small (i := s p (rm p n)) (by have := s_bd p (rm p n); omega)
  have sm2 := two_small (i := Sh p (rm p n)) (Sh_bd _ ht)
  simp only [againFor, lawFor, c_law, List.getElem?_cons_succ, List.getElem?_cons_zero]
  refine s_asg ?_
  k_go
  refine ev_call hc1 ?_
  k_go
  rw [p30]
  refine ev_call hc2 ?_
  k_go
  refine s_asg ?_
  k_go
  rw [p30]
  refine ev_call hc3 ?_
  k_go
  refine p_addL rfl rfl rfl (by show 9 ≤ _; decide) ?_
  k_go
  refine ev_call hc4 ?_
  k_go
  refine s_asg ?_
  k_go
  rw [em]
  refine p_idx rfl (L2.atI_nat (fnL_get lt)) ?_
  k_go
  refine s_ite ?_
  k_go
  refine ev_call sg ?_
  k_go
  refine e_callK ?_
  k_go
  refine ⟨[.pv (.int p), .pv (.int n)], rfl, ?_⟩
  k_go
  refine ev_call sg ?_
  k_go
  refine p_repr (d := .list [.int (s p (rm p n)), .int (s p (rm p n))]) rfl sm (Nat.le_of_ble_eq_true rfl) (Nat.le_of_ble_eq_true rfl) ?_
  k_go
  refine p_repr (d := .list [.int (s p (rm p n)), .int (s p (rm p n))]) rfl sm (Nat.le_of_ble_eq_true rfl) (Nat.le_of_ble_eq_true rfl) ?_
  k_go
  refine p_neSame sm rfl ?_
  k_go
  refine ⟨(fun z => nomatch z), fun _ => ?_⟩
  have tail : Ev (evSs (callF Pf 2) (againFor.drop 5)) ⟨[some (.pv (.ref 0)), some (.pv (.ref 2)), e2, some (.pv (.int p)), e4, some (.own (.lst (sL p))), e6, some (.own (.lst [PV.int 0, PV.int 1, PV.int (-1), PV.int (p : Int), PV.int (-(p : Int)), PV.int 2, PV.int r1, PV.int r2])), some (.pv (.int n)), some (.pv (.int (Sh p (rm p n)))), e10, e11, e12, none, none], Pot.D ns gs4 x4 t5 rest⟩ fun f s2 => f = .nx ∧ In ns p i (j + 1) e2 e4 e10 e11 e12 s2 := by
    simp only [againFor, lawFor, c_law, List.getElem?_cons_succ, List.getElem?_cons_zero, List.drop_succ_cons, List.drop_zero]
    refine s_ite ?_
    k_go
    refine e_comp ?_
    k_go
    refine i_rng1 (rngOk_of (by omega) (by omega)) ?_
    rw [Int.toNat_natCast, DV.rangeL_map]
    refine ⟨by rw [List.length_map, List.length_range]; show _ ≤ 16777216; omega, ?_⟩
    refine l_int (l_nil ?_)
    refine comp_fm (s0 := ⟨[some (.pv (.ref 0)), some (.pv (.ref 2)), e2, some (.pv (.int p)), e4, some (.own (.lst (sL p))), e6, some (.own (.lst [PV.int 0, PV.int 1, PV.int (-1), PV.int (p : Int), PV.int (-(p : Int)), PV.int 2, PV.int r1, PV.int r2])), some (.pv (.int n)), some (.pv (.int (Sh p (rm p n)))), e10, e11, e12, none, none], Pot.D ns gs4 x4 t5 rest⟩) (shG p (rm p n)) rfl rfl (fun y hy => ?_) ?_
    · obtain ⟨u, hu, rfl⟩ := List.mem_map.mp hy
      have hu := List.mem_range.mp hu
      have lt2 := Nat.mod_lt (u + rm p n) (show 0 < p by omega)
      have hm : mulOk (s p u) (s p ((u + rm p n) % p)) = true := mulOk_l (by have := s_bd p u; omega)
      rw [Int.zero_add]
      k_go
      refine c_none ⟨fun _ => ⟨.int (s p u * s p ((u + rm p n) % p)), by show some (PV.int (s p (u : Int).toNat * s p (((u : Int).toNat + rm p n) % p))) = _; rw [Int.toNat_natCast], ?_⟩, fun z => nomatch z⟩
      k_go
      refine p_idx rfl (L2.atI_nat (fnL_get hu)) ?_
      k_go
      rw [rm_add (by omega)]
      refine p_idx rfl (L2.atI_nat (fnL_get lt2)) ?_
      k_go
      refine ⟨?_, ?_, ?_⟩ <;> first | exact True.intro | rfl
    rw [shG_map]
    show Ev _ ⟨[some (.pv (.ref 0)), some (.pv (.ref 2)), e2, some (.pv (.int p)), e4, some (.own (.lst (sL p))), e6, some (.own (.lst [PV.int 0, PV.int 1, PV.int (-1), PV.int (p : Int), PV.int (-(p : Int)), PV.int 2, PV.int r1, PV.int r2])), some (.pv (.int n)), some (.pv (.int (Sh p (rm p n)))), e10, e11, e12, none, none], Pot.D ns gs4 x4 t5 rest⟩ _
    k_go
    refine p_sumQ rfl (intsOf_map _) ?_
    rw [Sh_is o lt]
    k_go
    refine ⟨fun z => by simp at z, fun _ => ?_⟩
    refine s_ite ?_
    k_go
    refine ev_call sh ?_
    k_go
    refine e_callK ?_
    k_go
    refine ⟨[.pv (.int p), .pv (.int n)], rfl, ?_⟩
    k_go
    refine ev_call sh ?_
    k_go
    refine p_repr (d := .list [.int (Sh p (rm p n)), .int (Sh p (rm p n))]) rfl sm2 (Nat.le_of_ble_eq_true rfl) (Nat.le_of_ble_eq_true rfl) ?_
    k_go
    refine p_repr (d := .list [.int (Sh p (rm p n)), .int (Sh p (rm p n))]) rfl sm2 (Nat.le_of_ble_eq_true rfl) (Nat.le_of_ble_eq_true rfl) ?_
    k_go
    refine p_neSame sm2 rfl ?_
    k_go
    refine ⟨(fun z => nomatch z), fun _ => ?_⟩
    refine s_nil ?_
    exact ⟨rfl, gs4, x4, t5, rest, e6, _, _, _, c4, d7, by omega, n6, (by intro _ z; cases z), (by intro _ z; cases z), (by intro _ z; cases z), rfl⟩
  simp only [againFor, lawFor, c_law, List.getElem?_cons_succ, List.getElem?_cons_zero, List.drop_succ_cons, List.drop_zero] at tail
  refine s_asg ?_
  k_go
  rw [em]
  unfold Sh at tail
  refine ⟨fun d => ?_, fun d => ?_⟩
  · have d : rm p n = 0 := by have := of_decide_eq_true d; omega
    rw [if_pos d] at tail
    k_go
    exact tail
  · have d : rm p n ≠ 0 := by have := of_decide_eq_false d; omega
    rw [if_neg d] at tail
    k_go
    exact tail
theorem tB (gs : List Int) (x t : Int) (rest : List DO) (i : Nat) (hi : i < 10) (p : Nat) (hp : p ∈ oddP) (hz : gs.length ≤ 63) (t0 : 0 ≤ t) (t1 : t ≤ 100 * i + 10) (e2 e4 e5 e6 e7 e8 e9 e10 e11 e12 : Option SV) (n2 : NL e2) (n4 : NL e4) (n5 : NL e5) (n6 : NL e6) (n7 : NL e7) (n8 : NL e8) (n9 : NL e9) (n10 : NL e10) (n11 : NL e11) (n12 : NL e12) :
    Ev (evSs (callF Pf 2) (lawFor.drop 2)) ⟨[some (.pv (.ref 0)), some (.pv (.ref 2)), e2, some (.pv (.int p)), e4, e5, e6, e7, e8, e9, e10, e11, e12, none, none], Pot.D ns gs x t rest⟩ fun f s2 => f = .nx ∧ Turn ns (i + 1) s2 := by
  obtain ⟨o, nbs⟩ := ok_in hp
  have odd := o.odd
  have h3 := o.three
  have ht := o.top
  have hpos : (0 : Int) < (p : Int) := by omega
  have ag := fun gs x t rest j hj hz t0 t1 e6 e7 e8 e9 n6 n7 n8 n9 => again_ok ns gs x t rest i j p hi hj hp hz t0 t1 e2 (some (.own (.dct (dictKV (sqKV p (List.range (p / 2))))))) e6 e7 e8 e9 e10 e11 e12 n2 (fun _ z => nomatch z) n6 n7 n8 n9
  have tc := fun gs x t rest hz t0 t1 e6 e7 e8 e9 n6 n7 n8 n9 => tC ns gs x t rest i hi p hp hz t0 t1 e2 (some (.own (.dct (dictKV (sqKV p (List.range (p / 2))))))) e6 e7 e8 e9 (some (.pv (.int (((nb p).length : Nat) : Int)))) e11 e12 n2 (fun _ z => nomatch z) n6 n7 n8 n9 (fun _ z => nomatch z) n11 n12
  have nl : (nb p).length ≤ p := Nat.le_trans (List.length_filter_le _ _) (by rw [List.length_range]; omega)
  have sm := two_small (i := (((nb p).length : Nat) : Int)) (by omega)
  simp only [againFor, lawFor, c_law, List.getElem?_cons_succ, List.getElem?_cons_zero, List.drop_succ_cons, List.drop_zero] at ag tc ⊢
  refine s_asg ?_
  k_go
  refine e_comp ?_
  k_go
  refine i_rng2 (by rw [rngOk_of (by omega) (by omega), rngOk_of (by omega) (by omega)]; rfl) ?_
  rw [show (((p : Int) + 1) / 2 - 1).toNat = p / 2 by omega, DV.rangeL_map]
  refine ⟨by rw [List.length_map, List.length_range]; show _ ≤ 16777216; omega, ?_⟩
  refine l_int (l_int (l_nil ?_))
  refine comp_fm (s0 := ⟨[some (.pv (.ref 0)), some (.pv (.ref 2)), e2, some (.pv (.int p)), e4, e5, e6, e7, e8, e9, e10, e11, e12, none, none], Pot.D ns gs x t rest⟩) (sqF p) rfl rfl (fun y hy => ?_) ?_
  · obtain ⟨j, hj, rfl⟩ := List.mem_map.mp hy
    have hj := List.mem_range.mp hj
    have hm : mulOk (1 + (j : Int)) (1 + (j : Int)) = true := mulOk_l (by omega)
    k_go
    refine c_none ⟨fun _ => ⟨.tup [.int ((1 + (j : Int)) * (1 + (j : Int)) % (p : Int)), .int 1], rfl, ?_⟩, fun z => nomatch z⟩
    k_go
    refine ⟨?_, ?_, ?_⟩ <;> first | exact True.intro | rfl
  rw [sqF_map]
  show Ev _ ⟨[some (.pv (.ref 0)), some (.pv (.ref 2)), e2, some (.pv (.int p)), e4, e5, e6, e7, e8, e9, e10, e11, e12, none, none], Pot.D ns gs x t rest⟩ _
  k_go
  refine p_dictL rfl (sq_pairs p _) ?_
  k_go
  refine s_asg ?_
  k_go
  refine e_comp ?_
  k_go
  refine i_rng2 (by rw [rngOk_of (by omega) (by omega), rngOk_of (by omega) (by omega)]; rfl) ?_
  rw [show ((p : Int) - 1).toNat = p - 1 by omega, DV.rangeL_map]
  refine ⟨by rw [List.length_map, List.length_range]; show _ ≤ 16777216; omega, ?_⟩
  refine l_int (l_int (l_nil ?_))
  refine comp_fm (s0 := ⟨[some (.pv (.ref 0)), some (.pv (.ref 2)), e2, some (.pv (.int p)), some (.own (.dct (dictKV (sqKV p (List.range (p / 2)))))), e5, e6, e7, e8, e9, e10, e11, e12, none, none], Pot.D ns gs x t rest⟩) (sgF p) rfl rfl (fun y hy => ?_) ?_
  · obtain ⟨j, hj, rfl⟩ := List.mem_map.mp hy
    have hj := List.mem_range.mp hj
    rw [show (1 : Int) + (j : Int) = ((j + 1 : Nat) : Int) by omega]
    k_go
    refine c_none ⟨fun _ => ⟨.int (s p (j + 1)), by show some (PV.int (s p ((j + 1 : Nat) : Int).toNat)) = _; rw [Int.toNat_natCast], ?_⟩, fun z => nomatch z⟩
    k_go
    refine p_get2 (w := .int (-1)) rfl rfl rfl ?_
    rw [get_sq]
    k_go
    refine ⟨?_, ?_, ?_⟩ <;> first | exact True.intro | rfl
  rw [sgF_map]
  show Ev _ ⟨[some (.pv (.ref 0)), some (.pv (.ref 2)), e2, some (.pv (.int p)), some (.own (.dct (dictKV (sqKV p (List.range (p / 2)))))), e5, e6, e7, e8, e9, e10, e11, e12, none, none], Pot.D ns gs x t rest⟩ _
  k_go
  refine p_addL rfl rfl rfl (by rw [List.length_append, List.length_map, List.length_range]; show 1 + _ ≤ 16777216; omega) ?_
  rw [show [PV.int 0] ++ (List.range (p - 1)).map (fun i => PV.int (s p (i + 1))) = sL p from sL_cons (by omega)]
  k_go
  refine s_for ?_
  k_go
  refine i_rng1 rfl ?_
  k_go
  refine for_inv (I := fun j st => In ns p i j e2 (some (.own (.dct (dictKV (sqKV p (List.range (p / 2))))))) e10 e11 e12 st) ⟨gs, x, t, rest, e6, e7, e8, e9, hz, t0, by omega, n6, n7, n8, n9, rfl⟩ (fun j v st hp hI => ?_) fun st hI => ?_
  · obtain ⟨gs, x, t, rest, e6, e7, e8, e9, hz, t0, t1, n6, n7, n8, n9, rfl⟩ := hI
    obtain ⟨hj, rfl⟩ := rangeL_at hp
    have hj : j < 3 := hj
    refine q_one ?_
    k_go
    refine (ag gs x t rest j hj hz t0 t1 _ e7 e8 e9 (by intro _ z; cases z) n7 n8 n9).mono fun f s2 hh => ?_
    obtain ⟨rfl, hh⟩ := hh
    exact hh
  · obtain ⟨gs, x, t, rest, e6, e7, e8, e9, hz, t0, t1, n6, n7, n8, n9, rfl⟩ := hI
    rw [rangeL_length] at t1
    have t1 : t ≤ 100 * i + 10 + 10 * (3 : Nat) := t1
    have ne := neigh_ok 0 (Pot.D ns gs x t rest) p o
    refine k_nx (s' := ⟨[some (.pv (.ref 0)), some (.pv (.ref 2)), e2, some (.pv (.int p)), some (.own (.dct (dictKV (sqKV p (List.range (p / 2)))))), some (.own (.lst (sL p))), e6, e7, e8, e9, e10, e11, e12, none, none], Pot.D ns gs x t rest⟩) rfl ?_
    refine s_asg ?_
    k_go
    refine e_comp ?_
    k_go
    refine i_rng2 (by rw [rngOk_of (by omega) (by omega), rngOk_of (by omega) (by omega)]; rfl) ?_
    rw [show ((p : Int) - 1 - 1).toNat = p - 2 by omega, DV.rangeL_map]
    refine ⟨by rw [List.length_map, List.length_range]; show _ ≤ 16777216; omega, ?_⟩
    refine l_int (l_int (l_nil ?_))
    refine comp_fm (s0 := ⟨[some (.pv (.ref 0)), some (.pv (.ref 2)), e2, some (.pv (.int p)), some (.own (.dct (dictKV (sqKV p (List.range (p / 2)))))), some (.own (.lst (sL p))), e6, e7, e8, e9, e10, e11, e12, none, none], Pot.D ns gs x t rest⟩) (nbF p) rfl rfl (fun y hy => ?_) ?_
    · obtain ⟨j, hj, rfl⟩ := List.mem_map.mp hy
      have hj := List.mem_range.mp hj
      have e : (1 : Int) + (j : Int) = ((j + 1 : Nat) : Int) := by omega
      have e2' : ((j + 1 : Nat) : Int) + 1 = ((j + 2 : Nat) : Int) := by omega
      have fn : nbF p (PV.int ((j + 1 : Nat) : Int)) = if s p (j + 1) + s p (j + 2) = 2 then some (PV.int ((j + 1 : Nat) : Int)) else none := by
        show (if s p ((j + 1 : Nat) : Int).toNat + s p (((j + 1 : Nat) : Int).toNat + 1) = 2 then some (PV.int ((j + 1 : Nat) : Int)) else none) = _
        rw [Int.toNat_natCast]
      rw [e]
      k_go
      refine c_some ?_
      k_go
      refine p_idx rfl (L2.atI_nat (fnL_get (by omega))) ?_
      k_go
      rw [e2']
      refine p_idx rfl (L2.atI_nat (fnL_get (by omega))) ?_
      k_go
      refine ⟨fun d => ?_, fun d => ?_⟩
      · refine ⟨.int ((j + 1 : Nat) : Int), by rw [fn, if_pos (of_decide_eq_true d)], ?_⟩
        k_go
        refine ⟨?_, ?_, ?_⟩ <;> first | exact True.intro | rfl
      · exact ⟨by rw [fn, if_neg (of_decide_eq_false d)], rfl, rfl⟩
    rw [nbF_map]
    show Ev _ ⟨[some (.pv (.ref 0)), some (.pv (.ref 2)), e2, some (.pv (.int p)), some (.own (.dct (dictKV (sqKV p (List.range (p / 2)))))), some (.own (.lst (sL p))), e6, e7, e8, e9, e10, e11, e12, none, none], Pot.D ns gs x t rest⟩ _
    k_go
    refine p_len rfl ?_
    rw [List.length_map, show ((List.range (p - 2)).filter fun i => decide (s p (i + 1) + s p (i + 2) = 2)).length = (nb p).length from rfl]
    k_go
    refine s_ite ?_
    k_go
    refine ev_call ne ?_
    k_go
    refine e_callK ?_
    k_go
    refine ⟨[.pv (.int p)], rfl, ?_⟩
    k_go
    refine ev_call ne ?_
    k_go
    refine p_repr (d := .list [.int (((nb p).length : Nat) : Int), .int (((nb p).length : Nat) : Int)]) rfl sm (Nat.le_of_ble_eq_true rfl) (Nat.le_of_ble_eq_true rfl) ?_
    k_go
    refine p_repr (d := .list [.int (((nb p).length : Nat) : Int), .int (((nb p).length : Nat) : Int)]) rfl sm (Nat.le_of_ble_eq_true rfl) (Nat.le_of_ble_eq_true rfl) ?_
    k_go
    refine p_neSame sm rfl ?_
    k_go
    refine ⟨(fun z => nomatch z), fun _ => ?_⟩
    refine s_ite ?_
    k_go
    rw [show (p : Int) - 1 = ((p - 1 : Nat) : Int) by omega]
    refine p_idx rfl (L2.atI_nat (fnL_get (by omega))) ?_
    k_go
    rw [nbs]
    refine ⟨fun z => by simp at z, fun _ => ?_⟩
    exact tc gs x t rest hz t0 (by omega) e6 e7 e8 e9 n6 n7 n8 n9
def U (gs : List Int) (x : Int) : DS := ⟨[some (.pv (.ref 0)), some (.own (Pot.dk x 0)), none, none, none, none, none, none, none, none, none, none, none, none, none], [.fz (ns.map PV.int), .rw (.lst (gs.map PV.int))]⟩
theorem turnA (i : Nat) (st : DS) (hi : i < 2) (h : Turn ns i st ∨ (i = 0 ∧ ∃ gs x, gs.length ≤ 63 ∧ st = U ns gs x)) : Ev (assignG (.one 2) (.int i)) st fun _ s1 => Ev (evSs (callF Pf 2) lawFor) s1 fun f s2 => f = .nx ∧ Turn ns (i + 1) s2 := by
  have pre : ∀ (gs : List Int) (x t : Int) (rest : List DO), gs.length ≤ 63 → 0 ≤ t → t ≤ 100 * i → ∃ (gs1 gs2 gs3 : List Int) (x1 t1 x2 t2 x3 t3 c r : Int) (p : Nat), gs3.length ≤ 63 ∧ 0 ≤ t3 ∧ t3 ≤ 100 * i + 10 ∧ p ∈ oddP ∧
      callF Pf 2 7 [.pv (.ref 2), .own (.lst [PV.int 19, PV.int 100, PV.int 997])] (Pot.D ns gs x t rest) = .ok (.pv (.int c)) (Pot.D ns gs1 x1 t1 rest) ∧
      callF Pf 2 9 [.pv (.ref 2), .pv (.int c)] (Pot.D ns gs1 x1 t1 rest) = .ok (.pv (.int (p : Int))) (Pot.D ns gs2 x2 t2 rest) ∧
      callF Pf 2 6 [.pv (.ref 2), .pv (.int 20)] (Pot.D ns gs2 x2 t2 rest) = .ok (.pv (.int r)) (Pot.D ns gs3 x3 t3 rest) := fun gs x t rest hz t0 t1 => by
    obtain ⟨v, gs1, x1, t2, hv, c1, d1, d2, hc1⟩ := Pot.pick_own (Pf := Pf) (dr := 6) (ix := 7) rfl rfl 0 ns gs x t rest [PV.int 19, PV.int 100, PV.int 997] (by show 1 ≤ 3; omega) (by show 3 < 2 ^ 64; omega) hz t0 (by omega)
    obtain ⟨c, rfl, hc⟩ : ∃ m : Int, v = .int m ∧ m ∈ [(19 : Int), 100, 997] := by
      simp only [List.mem_cons, List.not_mem_nil, or_false] at hv
      rcases hv with rfl | rfl | rfl
      · exact ⟨_, rfl, by decide⟩
      · exact ⟨_, rfl, by decide⟩
      · exact ⟨_, rfl, by decide⟩
    obtain ⟨q, gs2, x2, t3, hq, c2, d3, d4, hc2⟩ := lprime_draw 0 ns gs1 x1 t2 rest c hc c1 d1 (by omega)
    obtain ⟨r3, gs3, x3, t4, a3, b3, c3, d5, d6, hc3⟩ := Pot.draw_ok (Pf := Pf) (ix := 6) rfl 1 ns gs2 x2 t3 rest 20 (by omega) (by omega) c2 d3 (by omega)
    exact ⟨gs1, gs2, gs3, x1, t2, x2, t3, x3, t4, c, r3, q, c3, d5, by omega, hq, hc1, hc2, hc3⟩
  have m997 : (997 : Nat) ∈ oddP := by decide +kernel
  have fin : ∀ (gs : List Int) (x t : Int) (rest : List DO) (p : Nat) (r : Int) (e2 e4 e5 e6 e7 e8 e9 e10 e11 e12 : Option SV), gs.length ≤ 63 → 0 ≤ t → t ≤ 100 * i + 10 → p ∈ oddP → NL e2 → NL e4 → NL e5 → NL e6 → NL e7 → NL e8 → NL e9 → NL e10 → NL e11 → NL e12 → ∃ p' : Nat, (if r = 0 then (997 : Int) else (p : Int)) = (p' : Int) ∧ Ev (evSs (callF Pf 2) (lawFor.drop 2)) ⟨[some (.pv (.ref 0)), some (.pv (.ref 2)), e2, some (.pv (.int (p' : Int))), e4, e5, e6, e7, e8, e9, e10, e11, e12, none, none], Pot.D ns gs x t rest⟩ fun f s2 => f = .nx ∧ Turn ns (i + 1) s2 :=
    fun gs x t rest p r e2 e4 e5 e6 e7 e8 e9 e10 e11 e12 hz t0 t1 hp n2 n4 n5 n6 n7 n8 n9 n10 n11 n12 => by
      by_cases c : r = 0
      · exact ⟨997, if_pos c, tB ns gs x t rest i (by omega) 997 m997 hz t0 t1 e2 e4 e5 e6 e7 e8 e9 e10 e11 e12 n2 n4 n5 n6 n7 n8 n9 n10 n11 n12⟩
      · exact ⟨p, if_neg c, tB ns gs x t rest i (by omega) p hp hz t0 t1 e2 e4 e5 e6 e7 e8 e9 e10 e11 e12 n2 n4 n5 n6 n7 n8 n9 n10 n11 n12⟩
  rcases h with ⟨gs, x, t, rest, e2, e3, e4, e5, e6, e7, e8, e9, e10, e11, e12, hz, t0, t1, n2, n3, n4, n5, n6, n7, n8, n9, n10, n11, n12, rfl⟩ | ⟨i0, gs, x, hz, rfl⟩
  · obtain ⟨gs1, gs2, gs3, x1, t1', x2, t2, x3, t3, c, r, p, c3, u0, u1, hp, hc1, hc2, hc3⟩ := pre gs x t rest hz t0 t1
    obtain ⟨p', ep, tm⟩ := fin gs3 x3 t3 rest p r (some (.pv (.int i))) e4 e5 e6 e7 e8 e9 e10 e11 e12 c3 u0 u1 hp (fun _ z => nomatch z) n4 n5 n6 n7 n8 n9 n10 n11 n12
    simp only [lawFor, c_law, List.getElem?_cons_succ, List.getElem?_cons_zero, List.drop_succ_cons, List.drop_zero] at tm ⊢
    refine q_one ?_
    k_go
    refine s_asg ?_
    k_go
    refine ev_call hc1 ?_
    k_go
    refine ev_call hc2 ?_
    k_go
    refine s_asg ?_
    k_go
    refine ev_call hc3 ?_
    k_go
    refine ⟨fun d => ?_, fun d => ?_⟩
    · rw [if_pos (of_decide_eq_true d)] at ep
      obtain rfl : p' = 997 := by omega
      k_go
      exact tm
    · rw [if_neg (of_decide_eq_false d)] at ep
      k_go
      rw [ep]
      exact tm
  · subst i0
    obtain ⟨gs1, gs2, gs3, x1, t1', x2, t2, x3, t3, c, r, p, c3, u0, u1, hp, hc1, hc2, hc3⟩ := pre gs x 0 [] hz (by omega) (by omega)
    have nn : NL none := fun _ z => nomatch z
    obtain ⟨p', ep, tm⟩ := fin gs3 x3 t3 [] p r (some (.pv (.int (0 : Nat)))) none none none none none none none none none c3 u0 u1 hp (fun _ z => nomatch z) nn nn nn nn nn nn nn nn nn
    simp only [lawFor, c_law, List.getElem?_cons_succ, List.getElem?_cons_zero, List.drop_succ_cons, List.drop_zero] at tm ⊢
    unfold U
    refine q_one ?_
    k_go
    refine s_asg ?_
    k_go
    refine q_toO rfl ?_
    dsimp only [List.set]
    k_go
    refine ev_call hc1 ?_
    k_go
    refine ev_call hc2 ?_
    k_go
    refine s_asg ?_
    k_go
    refine ev_call hc3 ?_
    k_go
    refine ⟨fun d => ?_, fun d => ?_⟩
    · rw [if_pos (of_decide_eq_true d)] at ep
      obtain rfl : p' = 997 := by omega
      k_go
      exact tm
    · rw [if_neg (of_decide_eq_false d)] at ep
      k_go
      rw [ep]
      exact tm
end
theorem law_ev (ns : List Int) (hn : ns.length ≤ 63) : Ev (evSs (callF Pf 2) c_law.body) ⟨[some (.pv (.ref 0)), none, none, none, none, none, none, none, none, none, none, none, none, none, none], scriptH ns⟩ (Goal ns) := by
  obtain ⟨gs, x, hz, c4⟩ := Pot.pot_ok (Pf := Pf) (ix := 5) (c0 := 19592) rfl 1 ns hn
  have tn := turnA ns
  unfold c_law
  simp only [lawFor, c_law, List.getElem?_cons_succ, List.getElem?_cons_zero] at tn
  dsimp only
  refine s_asg ?_
  k_go
  refine ev_call c4 ?_
  k_go
  refine s_for ?_
  k_go
  refine i_rng1 rfl ?_
  k_go
  refine for_inv (I := fun i st => Turn ns i st ∨ (i = 0 ∧ ∃ gs x, gs.length ≤ 63 ∧ st = U ns gs x)) (.inr ⟨rfl, gs, x, hz, rfl⟩) (fun i v st hp hI => ?_) (fun st hI => ?_)
  · obtain ⟨hi, rfl⟩ := rangeL_at hp
    rw [Int.zero_add]
    refine (tn i st hi hI).mono fun _ s1 h => h.mono fun f s2 ⟨e, h⟩ => ?_
    subst e
    exact .inl h
  · rcases hI with ⟨gs, x, t, rest, e2, e3, e4, e5, e6, e7, e8, e9, e10, e11, e12, hz, t0, t1, n2, n3, n4, n5, n6, n7, n8, n9, n10, n11, n12, rfl⟩ | ⟨z, _⟩
    · refine k_nx (s' := ⟨[some (.pv (.ref 0)), some (.pv (.ref 2)), e2, e3, e4, e5, e6, e7, e8, e9, e10, e11, e12, none, none], Pot.D ns gs x t rest⟩) rfl ?_
      refine s_ret ?_
      k_go
      exact fin_bl rfl
    · rw [rangeL_length] at z
      exact absurd z (by decide)
theorem saysT (ns : List Int) (hn : ns.length ≤ 63) : ∃ hf, callF Pf (0 + 3) 10 [.pv (.ref 0)] (scriptH ns) = .ok (.pv (.bl true)) hf := by
  obtain ⟨f, s', e, hf, q⟩ := law_ev ns hn
  exact ⟨hf, call_of (d := c_law) rfl rfl ⟨f, s', e, q⟩⟩
end K58
namespace K58
open PySem PySem.Spec PyProof.Rows L2 DV
theorem says (ns : List Int) (hn : ns.length ≤ 63) : ∃ hf, callF Pf (0 + 3) 10 [.pv (.ref 0)] (scriptH ns) = .ok (.pv (.bl true)) hf := saysT ns hn
end K58
open PySem PySem.W PySem.Calls PyProof.Rows
set_option maxHeartbeats 0 in
theorem PySem.Challenge.cw_divisorways_k58_whole_main_signs_shifted_holds : PySem.Challenge.rw_divisorways_k58_whole_main_signs_shifted.Holds := by
  w_on; o_law
  refine HandSHeadRun.head_any (r := OpenLaw.row PySem.Challenge.rw_divisorways_k58_whole_main_signs_shifted) (q := view (OpenLaw.row PySem.Challenge.rw_divisorways_k58_whole_main_signs_shifted).prog [12]) (H := K58.hkD) (ob := K58.obD) (M := 4000) (loose := K58.loose) (d := HandSHeadRun.topDef (OpenLaw.row PySem.Challenge.rw_divisorways_k58_whole_main_signs_shifted).prog 12) (kwd := []) K58.obD_eq
    (by kernel_rfl) (fun t => by kernel_rfl) K58.runD (by kernel_rfl) (by kernel_rfl) (by kernel_rfl) (by rfl) (by first | assumption | decide +kernel) (by decide +kernel) ⟨rfl, rfl, rfl, rfl, rfl, by decide +kernel⟩ ?hw ?hc
  case hw => w_witness2
  case hc =>
    refine DV.walkG (l := PySem.Challenge.rw_divisorways_k58_whole_main_signs_shifted) (n := 63) (k := 0 + 3) (x := "script") rfl (by decide) (by kernel_rfl) ⟨rfl, by decide, by decide⟩ ?G
    intro w mg fa h Y G hmg0
    obtain ⟨K, KX, c⟩ := Y
    have hmg : mg ("law" : PySem.Str) = some (.ref fa) := by
      have e : (HandSHeadRun.topDef (OpenLaw.row PySem.Challenge.rw_divisorways_k58_whole_main_signs_shifted).prog 12).name = ("law" : PySem.Str) := by kernel_rfl
      exact (congrArg mg e).symm.trans hmg0
    obtain ⟨fx, _⟩ := K58.factsD KX G c
    have e := hmg.symm.trans fx.g_law
    cases e
    have b := L2.FunD.bindsA (ps := ["script"]) fx.f_law fun _ _ _ _ _ _ us hl => match us, hl with | [_], _ => rfl
    exact ⟨K, fx.d_law, DV.callF K58.Pf (0 + 3) 10, KX, fun t v => b t [v] rfl, fun ns hl => K58.says ns hl, fun base _ _ => K58.ok_law fx 0⟩
